/- A part of the proof. -/
import Derived.Test.YtkmaeondbkpajaaGreatDoorE27
set_option linter.all false
set_option maxHeartbeats 8000000
set_option maxRecDepth 100000
namespace Go.Am
open Go
variable [Z8]
variable {ks:List K}{e:Env}{s:St}{i:Nat}
abbrev Pr:=Int×Int
def LY (p:Pr):AV:=.agg [.int .i64 p.1,.int .i64 p.2]
def zj (p o:Pr):Bool:=decide (p.1>o.1)||(p.1==o.1&&decide (p.2>o.2))
def Pg (na nb:Nat)(p:Pr):Bool:=decide (p.1<0)||(decide (p.1>=na)||(decide (p.2<0)||decide (p.2>=nb)))
def iL (o:Option Pr)(p:Pr):Bool:=match o with|none=>false|some q=>!zj p q
def S7 (na nb:Nat):Option Pr->List Pr->Int
 |_,[]=>0
 |q,p::l=>br (Pg na nb p) 10 (br (iL q p) 11 (S7 na nb (some p) l))
def al' {ks:List K}{ZC:Option AV->Prop}{na nb:Nat}{p:Pr}{A B P:Nat}{e:Env}{s:St}{la lb:Int}{nla nlb:Bool}{ra rb:List AV}{fa fb:AV}(h3:e.get 3=.ptr A 0)(h4:e.get 4=.ptr B 0)(h10:e.get 10=.ptr P 0)
  (gA:s.get A=some (.cells [.int .i64 la,ZU nla ra,fa] 42 false 0 0))(gB:s.get B=some (.cells [.int .i64 lb,ZU nlb rb,fb] 42 false 0 0))(gP:s.get P=some (.cells [.int .i64 p.1,.int .i64 p.2] 55 false 0 0))(ha:ra.length=na)(hb:rb.length=nb)
  (hk:∀e',(∀t:Nat,t<37->t≠11->e'.get t=e.get t)->e'.get 11=.bool (Pg na nb p)->ZC (goN U (U7 U [.tmp 6]) ks e' s)) :
  ZC (go U (U7 U [.tmp 6]) ks Fh e s):=by
 have na':=ZN nla ra;have nb':=ZN nlb rb;rw[ha] at na';rw[hb] at nb';have fin:∀(E:Env),(∀t:Nat,t<37->t≠11->E.get t=e.get t)->E.get 11=.bool (Pg na nb p)->ZC (goN U (U7 U [.tmp 6]) ks E s):=λE h1 h2=>hk E h1 h2
 clear hk;unfold Pg at fin
 cases h1:decide (p.1<0) with
 |true =>
  simp only[go_sem,Fh,h3,h4,h10,gP,h1];refine fin _ (λt q1 q2=>?_) ?_
  ·have ZB:∀k:Nat,37<=k->(k=t)=False:=λk hk=>F_
   have LW:(11=t)=False:=F_;simp only[go_sem,ZB,LW]
  ·simp only[go_sem,h1,Bool.true_or]
 |false =>
  cases h2:decide (p.1>=na) with
  |true =>
   simp only[go_sem,Fh,h3,h4,h10,gA,gP,na',h1,h2];refine fin _ (λt q1 q2=>?_) ?_
   ·have ZB:∀k:Nat,37<=k->(k=t)=False:=λk hk=>F_
    have LW:(11=t)=False:=F_;simp only[go_sem,ZB,LW]
   ·simp only[go_sem,h1,h2,Bool.or_true,Bool.true_or]
  |false =>
   cases h5:decide (p.2<0) with
   |true =>
    simp only[go_sem,Fh,h3,h4,h10,gA,gP,na',h1,h2,h5];refine fin _ (λt q1 q2=>?_) ?_
    ·have ZB:∀k:Nat,37<=k->(k=t)=False:=λk hk=>F_
     have LW:(11=t)=False:=F_;simp only[go_sem,ZB,LW]
    ·simp only[go_sem,h1,h2,h5,Bool.or_true,Bool.true_or]
   |false =>
    cases h6:decide (p.2>=nb) with
    |true =>
     simp only[go_sem,Fh,h3,h4,h10,gA,gB,gP,na',nb',h1,h2,h5,h6];refine fin _ (λt q1 q2=>?_) ?_
     ·have ZB:∀k:Nat,37<=k->(k=t)=False:=λk hk=>F_
      have LW:(11=t)=False:=F_;simp only[go_sem,ZB,LW]
     ·simp only[go_sem,h1,h2,h5,h6,Bool.or_true]
    |false =>
     simp only[go_sem,Fh,h3,h4,h10,gA,gB,gP,na',nb',h1,h2,h5,h6];refine fin _ (λt q1 q2=>?_) ?_
     ·have ZB:∀k:Nat,37<=k->(k=t)=False:=λk hk=>F_
      have LW:(11=t)=False:=F_;simp only[go_sem,ZB,LW]
     ·simp only[go_sem,h1,h2,h5,h6,Bool.or_false]
def ck1 (bd:Bool)(o:Option Pr)(p:Pr):Int:=br bd 10 (br (iL o p) 11 0)
def aal (q p:Pr):decide (nF q.1 q.2 p.1 p.2>=0)=!zj p q:=by
 unfold nF Bf zj;have g1:decide (q.1>p.1)=decide (p.1<q.1):=rfl;have g2:decide (q.2>p.2)=decide (p.2<q.2):=rfl;have g3:decide (p.1>q.1)=decide (q.1<p.1):=rfl;have g4:decide (p.2>q.2)=decide (q.2<p.2):=rfl;rw[g1,g2,g3,g4];have e1:(p.1==q.1)=(!decide (q.1<p.1)&&!decide (p.1<q.1)):=by rw[aqI];simp;omega
 rw[e1];have x1:¬(q.1<p.1/\p.1<q.1):=J;have x2:¬(q.2<p.2/\p.2<q.2):=J
 cases h1:decide (q.1<p.1) <;> cases h2:decide (p.1<q.1) <;> cases h3:decide (q.2<p.2) <;> cases h4:decide (p.2<q.2) <;> first|rfl|(exfalso;simp at h1 h2 h3 h4;omega)
def K8 {nl:Bool}{l:List Pr}{i:Nat}(h:i<l.length):UJ 2 (ZU nl (l.map LY)) (.int .i64 (i:Int))=some (.fp [.int .i64 l[i].1,.int .i64 l[i].2] 0):=by
 have:=Vi 2 nl (l.map LY) .i64 (i:Int) (LY l[i]) J (by simp[h]) rfl J;rw[this];rfl
def akZ {ks:List K}{ZC:Option AV->Prop}{nl:Bool}{l:List Pr}{i P:Nat}{bd:Bool}{o:Option Pr}(hi:i<l.length)(hl:l.length<=65536){e:Env}{s:St}(h2:e.get 2=ZU nl (l.map LY))(h9:e.get 9=.int .i64 (i:Nat))(h10:e.get 10=.ptr P 0)(h11:e.get 11=.bool bd)
  (gP:s.get P=some (.cells [.int .i64 l[i].1,.int .i64 l[i].2] 55 false 0 0))(hP:P<s.next)(fr:Fr s)(ho:(i=0/\o=none)\/(0<i/\o=l[i-1]?))
  (iK:ck1 bd o l[i]≠0->ZC (some (.int .i64 (ck1 bd o l[i]))))
  (hk:ck1 bd o l[i]=0->∀e' s',(∀t:Nat,t<37->t≠12->t≠6->e'.get t=e.get t)->(∀j,j<s.next->s'.get j=s.get j)->s.next<=s'.next->Fr s'->ZC (goN U (U7 U [.tmp 6]) ks e' s')) :
  ZC (go U (U7 U [.tmp 6]) ks qG e s):=by
 have hz:=λ(S:St) (j:Nat)=>z89 (args:=[AV.sl j 0 2 (some 2) 1]) (s:=S) rfl
 have c1:=LX bd 10;have Ps:=fr.at;have hv:∀x:Bool,YD [br bd 10 0,br x 11 0]=br bd 10 (br x 11 0):=λx=>by cases bd <;> cases x <;> rfl
 generalize hw:ck1 bd o l[i]=v at *;have fin:∀(E:Env) (S:St),(∀t:Nat,t<37->t≠12->t≠6->E.get t=e.get t)->(∀j,j<s.next->S.get j=s.get j)->s.next<=S.next->Fr S->ZC (br (v != 0) (some (.int .i64 v)) (goN U (U7 U [.tmp 6]) ks E S)):=λE S h1 h2 h3 h4=>by
  cases hz:v != 0 with
  |true=>rw[Yd];exact iK (by simpa using hz)
  |false=>rw[Zp];exact hk (by simpa using hz) E S h1 h2 h3 h4
 clear iK hk;rcases ho with⟨rfl,rfl⟩|⟨h0,ho⟩
 ·have c2:=LX false 11;have d0:decide (((0:Nat):Int)>0)=false:=rfl;have D0:YD [br bd 10 0,0]=v:=by rw[<-hw];exact hv false
  simp only[go_sem,qG,h2,h9,h10,h11,gP,c1,c2,d0,hz,Uw,Xo,UI,UH,aqG,Jq,U0,D0,Ps];refine fin _ _ (λt q1 q2 q3=>?_) (λj hj=>?_) ?_ ?_
  ·have ZB:∀k:Nat,37<=k->(k=t)=False:=λk hk=>F_
   have LW:(12=t)=False:=F_;simp only[go_sem,ZB,LW]
  ·rw[Z7,O3 J,ZR]
  ·rw[Z_,Z6];omega
  ·exact (fr.upto J).put O0 _
 ·have Da:i-1<l.length:=J;rw[aaa Da] at ho;subst ho;have c2:=LX (!zj l[i] l[i-1]) 11;have d0:decide (((i:Nat):Int)>0)=true:=decide_eq_true J;have D0:YD [br bd 10 0,br (!zj l[i] l[i-1]) 11 0]=v:=by rw[<-hw];exact hv _
  have w1:IntKind.i64.wrap (((i:Nat):Int)-1)=((i-1:Nat):Int):=Sq J J;have qF:max (0:Int) ((i-1:Nat):Int)=((i-1:Nat):Int):=J;have c3:=aam l[i-1].1 l[i-1].2 l[i].1 l[i].2;have oa:=aal l[i-1] l[i];have ix:=K8 (nl:=nl) Da;simp only[go_sem,qG,h2,h9,h10,h11,gP,c1,c2,c3,oa,ix,w1,qF,d0,hz,Uw,Xo,UI,UH,aqG,Jq,U0,D0,Ps];refine fin _ _ (λt q1 q2 q3=>?_) (λj hj=>?_) ?_ ?_
  ·have ZB:∀k:Nat,37<=k->(k=t)=False:=λk hk=>F_
   have LW:(12=t)=False:=F_;simp only[go_sem,ZB,LW]
  ·rw[Z7,O3 J,ZR]
  ·rw[Z_,Z6];omega
  ·exact (fr.upto J).put O0 _
def Jw (k:Nat)(p:Pr):Nat:=(p.1*k+p.2).toNat
def Nl (l:List Pr)(i:Nat):Option Pr:=if i=0 then none else l[i-1]?
structure vO (na k:Nat)(l:List Pr)(i:Nat):Prop where
 good:∀p∈l.take i,Pg na k p=false
 asc:((l.take i).map (Jw k)).Pairwise (·<·)
def qq {na k:Nat}{p:Pr}:Pg na k p=false<->0<=p.1/\p.1<na/\0<=p.2/\p.2<k:=by
 unfold Pg;simp
def zK {na k:Nat}{p:Pr}(h:Pg na k p=false):∃x y:Nat,p=((x:Int),(y:Int))/\x<na/\y<k/\Jw k p=x*k+y:=by
 obtain⟨h1,h2,h3,h4⟩:=qq.1 h;obtain⟨p1,p2⟩:=p;simp only at h1 h2 h3 h4;obtain⟨x,rfl⟩:=Int.eq_ofNat_of_zero_le h1;obtain⟨y,rfl⟩:=Int.eq_ofNat_of_zero_le h3;refine⟨x,y,rfl,J,J,?_⟩;unfold Jw;simp only;have:((x:Int)*(k:Int)+(y:Int))=((x*k+y:Nat):Int):=by simp
 rw[this,aqt]
def pD {na k:Nat}{p:Pr}(h:Pg na k p=false):Yr k (Jw k p)=[.int .i64 p.1,.int .i64 p.2]:=by
 obtain⟨x,y,rfl,h1,h2,h3⟩:=zK h;rw[h3,Yr,UW h2,SU h2]
def ahn {na k:Nat}{p:Pr}(h:Pg na k p=false):Jw k p<na*k:=by
 obtain⟨x,y,rfl,h1,h2,h3⟩:=zK h;rw[h3];exact ot h1 h2
def afO {na k:Nat}{p q:Pr}(h:Pg na k p=false)(h':Pg na k q=false):zj p q=true<->Jw k q<Jw k p:=by
 obtain⟨x,y,rfl,h1,h2,h3⟩:=zK h;obtain⟨x',y',rfl,h1',h2',h3'⟩:=zK h';rw[h3,h3'];unfold zj;simp only[aq0,ahe,decide_eq_true_eq,beq_iff_eq];rcases Nat.lt_trichotomy x x' with h|h|h
 ·have:(x+1)*k<=x'*k:=aqC k h;rw[Nat.succ_mul] at this;omega
 ·subst h;omega
 ·have:(x'+1)*k<=x*k:=aqC k h;rw[Nat.succ_mul] at this;omega
def vO.zero (na k:Nat)(l:List Pr):vO na k l 0:=⟨by simp,by simp⟩
def vO.put {na k:Nat}{l:List Pr}(h:vO na k l i)(hi:i<l.length)(hb:Pg na k l[i]=false)(hp:iL (Nl l i) l[i]=false):vO na k l (i+1)/\Jw k l[i]∉(l.take i).map (Jw k):=by
 have YA:∀p∈l.take i,Jw k p<Jw k l[i]:=by
  intro p hpm
  cases i with
  |zero=>simp at hpm
  |succ i =>
   have QD:i<l.length:=J;have ht:l.take (i+1)=l.take i++[l[i]]:=by rw[ap7 QD]
   have hq:Nl l (i+1)=some l[i]:=by unfold Nl;simp[QD]
   rw[hq] at hp;unfold iL at hp;have hgq:=h.good l[i] (by rw[ht];exact List.mem_append_right _ (apY.2 rfl));have h1:=(afO hb hgq).1 (by simpa using hp);have ha:=h.asc;rw[ht,aqf,List.pairwise_append] at ha;rw[ht] at hpm;rcases aqm.1 hpm with h2|h2
   ·have:=ha.2.2 (Jw k p) (ap0.2 ⟨p,h2,rfl⟩) (Jw k l[i]) No;omega
   ·rw[apY.1 h2];exact h1
 have ht:l.take (i+1)=l.take i++[l[i]]:=by rw[ap7 hi]
 refine⟨⟨λp hpm=>?_,?_⟩,λhm=>?_⟩
 ·rw[ht] at hpm;rcases aqm.1 hpm with h2|h2
  ·exact h.good p h2
  ·rw[apY.1 h2];exact hb
 ·rw[ht,aqf,List.pairwise_append];refine⟨h.asc,by simp,λa ha b hb=>?_⟩;obtain⟨p,zl,rfl⟩:=ap0.1 ha;simp only[aqe,List.map_nil,apY] at hb;subst hb;exact YA p zl
 ·obtain⟨p,zl,xR⟩:=ap0.1 hm;have:=YA p zl;omega
def jL {na nb:Nat}{l:List Pr}(hi:i<l.length):S7 na nb (Nl l i) (l.drop i)=br (Pg na nb l[i]) 10 (br (iL (Nl l i) l[i]) 11 (S7 na nb (Nl l (i+1)) (l.drop (i+1)))):=by
 rw[aea hi,S7];have hq:Nl l (i+1)=some l[i]:=by unfold Nl;simp[hi]
 rw[hq]
def afP {bd:Bool}{o:Option Pr}{p:Pr}{v:Int}(h:ck1 bd o p≠0):(br bd 10 (br (iL o p) 11 v):Int)=ck1 bd o p:=by
 unfold ck1 at *
 cases bd with
 |true=>rfl
 |false =>
  cases hx:iL o p with
  |true=>rfl
  |false=>rw[hx] at h;exact absurd rfl h
def cq {bd:Bool}{o:Option Pr}{p:Pr}(h:ck1 bd o p=0):bd=false/\iL o p=false:=by
 unfold ck1 at *
 cases bd with
 |true=>simp[br] at h
 |false =>
  cases hx:iL o p with
  |true=>rw[hx] at h;simp[br] at h
  |false=>exact⟨rfl,rfl⟩
def jK {m k:Nat}{ks:List Nat}(h:s.get m=some (.map (Ty k (λ_=>.bool true) ks 0) false)){c:Nat}(hc:c∉ks):VZ U 171 (.map m) (.agg (Yr k c)) (.bool true) s=some (s.put m (.map (Ty k (λ_=>.bool true) (ks++[c]) 0) false)):=by
 have hu:U.Zd 171=some (.map 55 4):=It;have hk:Vr U 55 (.agg (Yr k c))=true:=by
  have h1:U.Zd 55=some (.array 2 3):=It;have h2:U.Zd 3=some (.int .i64):=It;have h3:size U 3=some 1:=It;simp only[Vr,h1,h2,h3,Yr];rfl
 have:=IA k (λ_=>.bool true) c ks 0 hc;unfold VZ;rw[hu];simp only[hk,if_true,h,this]
def jP {m k:Nat}{ks:List Nat}(h:s.get m=some (.map (Ty k (λ_=>.bool true) ks 0) false))(c:Nat):WM U 171 (.map m) (.agg (Yr k c)) false s=some (.bool (decide (WR ks c<ks.length))):=by
 have hu:U.Zd 171=some (.map 55 4):=It;have hz:zero U 4=some (.bool false):=It;have hk:Vr U 55 (.agg (Yr k c))=true:=by
  have h1:U.Zd 55=some (.array 2 3):=It;have h2:U.Zd 3=some (.int .i64):=It;have h3:size U 3=some 1:=It;simp only[Vr,h1,h2,h3,Yr];rfl
 unfold WM;rw[hu];simp only[hk,if_true,h,Lo]
 cases decide (WR ks c<ks.length) with
 |true=>rfl
 |false=>simp only[cond_false,hz];rfl
def an0 {ZC:Option AV->Prop}{nl:Bool}{l:List Pr}{na k A B mp:Nat}(hl:l.length<=65536){la lb:Int}{nla nlb:Bool}{ra rb:List AV}{fa fb:AV}
  (h2:e.get 2=ZU nl (l.map LY))(h3:e.get 3=.ptr A 0)(h4:e.get 4=.ptr B 0)(h8:e.get 8=.map mp)(h30:e.get 30=ZU nl (l.map LY))(h31:e.get 31=.int .i64 (l.length:Nat))(h32:e.get 32=.int .i64 (0:Nat))
  (gA:s.get A=some (.cells [.int .i64 la,ZU nla ra,fa] 42 false 0 0))(gB:s.get B=some (.cells [.int .i64 lb,ZU nlb rb,fb] 42 false 0 0))(ha:ra.length=na)(hb:rb.length=k)
  (gm:s.get mp=some (.map [] false))(hA:A<s.next)(hB:B<s.next)(hm:mp<s.next)(hAm:mp≠A)(hBm:mp≠B)(fr:Fr s)
  (iK:S7 na k none l≠0->ZC (some (.int .i64 (S7 na k none l))))
  (hk:S7 na k none l=0->vO na k l l.length->∀e' s',(∀t:Nat,t<9->t≠6->e'.get t=e.get t)->s'.get mp=some (.map (Ty k (λ_=>.bool true) (l.map (Jw k)) 0) false)->(∀j,j<s.next->j≠mp->s'.get j=s.get j)->s.next<=s'.next->Fr s'->ZC (goN U (U7 U [.tmp 6]) ks e' s')) :
  ZC (SJ U (U7 U [.tmp 6]) (.bk 0::ks) zV e s):=by
 refine YT (σ:=Nat) (λi=>l.length-i) (λi e' s'=>i<=l.length/\(∀t:Nat,t<9\/t=30\/t=31->t≠6->e'.get t=e.get t)/\e'.get 32=.int .i64 (i:Nat)/\s'.get mp=some (.map (Ty k (λ_=>.bool true) ((l.take i).map (Jw k)) 0) false)/\(∀j,j<s.next->j≠mp->s'.get j=s.get j)/\s.next<=s'.next/\Fr s'/\S7 na k (Nl l i) (l.drop i)=S7 na k none l/\vO na k l i) 0 ?_
  ⟨apW _,λ_ _ _=>rfl,h32,by rw[List.take_zero];exact gm,λ_ _ _=>rfl,api _,fr,rfl,vO.zero ..⟩
 rintro Lp i e' s' ⟨hi0,hold,q32,qm,hs,Vq,Wk,Yf,Di⟩ IH;have q2:=(hold 2 J J).trans h2;have q3:=(hold 3 J J).trans h3;have q4:=(hold 4 J J).trans h4;have q8:=(hold 8 J J).trans h8;have cj:=(hold 30 J J).trans h30;have q31:=(hold 31 J J).trans h31;have uA:=(hs A hA hAm.symm).trans gA;have uB:=(hs B hB hBm.symm).trans gB;rw[lq];by_cases hd:i<l.length
 ·have hw:=ZI hd J;have ix:=K8 (nl:=nl) hd;have Ps:=Wk.at;have W_:=jL (na:=na) (nb:=k) hd;rw[Yf] at W_;simp only[go_sem,cj,q31,q32,Z9,hd,ix];obtain⟨S,hS⟩:∃S,S=(s'.new (.cells [.int .i64 0,.int .i64 0] 55 false 0 0)).put s'.next (.cells [.int .i64 l[i].1,.int .i64 l[i].2] 55 false 0 0):=⟨_,rfl⟩;rw[<-hS];have DX:S.next=s'.next+1:=by rw[hS,Z_,Z']
  have kS:∀j,j<s'.next->S.get j=s'.get j:=λj h1=>by rw[hS,Z7,O3 J,Z5,O3 J]
  have uS:S.get s'.next=some (.cells [.int .i64 l[i].1,.int .i64 l[i].2] 55 false 0 0):=by rw[hS,Z7,Of rfl]
  have Jh:Fr S:=by rw[hS];exact (Wk.new _).put O0 _
  refine al' (ZC:=ZC) (na:=na) (nb:=k) (p:=l[i]) (A:=A) (B:=B) (P:=s'.next) ?_ ?_ ?_ ((kS A J).trans uA) ((kS B J).trans uB) uS ha hb ?_
  ·simp only[go_sem,q3]
  ·simp only[go_sem,q4]
  ·simp only[go_sem]
  intro e1 E1 e11;simp only[go_sem];have E1':∀t:Nat,t<9\/t=30\/t=31\/t=32->t≠6->e1.get t=e'.get t:=λt h1 h2=>by
   rw[E1 t J J];have n1:(33=t)=False:=F_;have n2:(34=t)=False:=F_;have n3:(35=t)=False:=F_;have n4:(36=t)=False:=F_;have n5:(10=t)=False:=F_;have n6:(9=t)=False:=F_;simp only[go_sem,n1,n2,n3,n4,n5,n6]
  have p9:e1.get 9=.int .i64 (i:Nat):=by rw[E1 9 J J];simp only[go_sem]
  have p10:e1.get 10=.ptr s'.next 0:=by rw[E1 10 J J];simp only[go_sem]
  refine akZ (ZC:=ZC) (nl:=nl) (l:=l) (i:=i) (P:=s'.next) (bd:=Pg na k l[i]) (o:=Nl l i) hd hl ((E1' 2 J J).trans q2) p9 p10 e11 uS J Jh ?_ ?_ ?_
  ·unfold Nl;by_cases h0:i=0
   ·exact .inl ⟨h0,Of h0⟩
   ·exact .inr ⟨J,O3 h0⟩
  ·intro hc;rw[afP hc] at W_;rw[W_] at iK;exact iK hc
  ·intro hc e2 s2 E2 TB C0 OJ;obtain⟨BW,iU⟩:=cq hc;rw[BW,iU,Zp,Zp] at W_;obtain⟨ajB,an1⟩:=Di.put hd BW iU;have Rv:=pD BW;have v8:e2.get 8=.map mp:=by rw[E2 8 J J J,E1' 8 J J,q8]
   have v10:e2.get 10=.ptr s'.next 0:=by rw[E2 10 J J J,p10]
   have v32:e2.get 32=.int .i64 (i:Nat):=by rw[E2 32 J J J,E1' 32 J J,q32]
   have w2:s2.get s'.next=some (.cells [.int .i64 l[i].1,.int .i64 l[i].2] 55 false 0 0):=(TB _ J).trans uS;have hmp:mp<s'.next:=J;have wm:s2.get mp=some (.map (Ty k (λ_=>.bool true) ((l.take i).map (Jw k)) 0) false):=(TB mp J).trans ((kS mp hmp).trans qm);have up:=jK wm an1;rw[Rv] at up;simp only[go_sem,v8,v10,v32,w2,up,hw];refine IH (i+1) _ _ J ⟨J,λt h1 h2=>?_,?_,?_,λj h1 h2=>?_,?_,?_,?_,ajB⟩
   ·have n1:(82=t)=False:=F_;have n2:(83=t)=False:=F_;have n3:(84=t)=False:=F_;have n4:(32=t)=False:=F_;simp only[go_sem,n1,n2,n3,n4];rw[E2 t J J h2,E1' t J h2,hold t h1 h2]
   ·simp only[go_sem]
   ·rw[Z7,Of rfl,ap7 hd,aqf];rfl
   ·rw[Z7,O3 h2.symm,TB j J,kS j J,hs j h1 h2]
   ·rw[Z_];omega
   ·exact OJ.put J _
   ·rw[<-W_]
 ·have DR:i=l.length:=J;subst DR;rw[aqi,S7] at Yf;rw[aqN] at qm;simp only[go_sem,q31,q32,Z9,ap5];exact hk Yf.symm Di _ _ (λt h1 h2=>by
   have ZB:(33=t)=False:=F_;simp only[go_sem,ZB,hold t (.inl h1) h2]) qm hs Vq Wk
def okx (a b:Zv)(C:List Nat)(c x:Nat):Bool:=(a.fa.fr (c / b.fa.n) x==b.fa.fr (c%b.fa.n) x)&&decide (WR C ((Zg a.fa b.fa).nx c x)<C.length)
def okR (a b:Zv)(C:List Nat)(c:Nat)(x:Nat):Bool:=(List.range x).all (okx a b C c)
def cB (a b:Zv)(C:List Nat)(c x:Nat):okR a b C c (x+1)=(okR a b C c x&&okx a b C c x):=by
 unfold okR;rw[List.range_succ,List.all_append];simp
def alE {ZC:Option AV->Prop}{a b:Zv}(ha:a.ok)(hb:b.ok)(VK:a.lines=b.lines){A B mp P c:Nat}{C:List Nat}{p0:Bool}(hc:c<(Zg a.fa b.fa).n)
  (h3:e.get 3=.ptr A 0)(h4:e.get 4=.ptr B 0)(h8:e.get 8=.map mp)(h13:e.get 13=.bool p0)(h15:e.get 15=.ptr P 0)(h103:e.get 103=.int .i64 ((2^a.lines.toNat:Nat):Int))(h104:e.get 104=.int .i64 (0:Nat))
  (gA:s.get A=some (.cells [.int .i64 a.lines,ZU a.Xb (a.next.map ZF),ZU a.WG (a.ZW.map ZM)] 42 false 0 0))(gB:s.get B=some (.cells [.int .i64 b.lines,ZU b.Xb (b.next.map ZF),ZU b.WG (b.ZW.map ZM)] 42 false 0 0))
  (gm:s.get mp=some (.map (Ty b.fa.n (λ_=>.bool true) C 0) false))(gP:s.get P=some (.cells (Yr b.fa.n c) 55 false 0 0))
  (hA:A<s.next)(hB:B<s.next)(hm:mp<s.next)(hP:P<s.next)(fr:Fr s)
  (hk:∀e' s',(∀t:Nat,t<104->t≠13->t≠16->e'.get t=e.get t)->e'.get 13=.bool (p0&&okR a b C c (2^a.lines.toNat))->(∀j,j<s.next->s'.get j=s.get j)->s.next<=s'.next->Fr s'->ZC (goN U (U7 U [.tmp 6]) ks e' s')) :
  ZC (SJ U (U7 U [.tmp 6]) (.bk 4::ks) IB e s):=by
 have Hn:=ha.m16;have iV:c / b.fa.n<a.next.length:=Nat.div_lt_of_lt_mul (by rw[Nat.mul_comm];exact hc);have Jg:c%b.fa.n<b.next.length:=Nat.mod_lt _ hb.pos;refine YT (σ:=Nat) (λx=>2^a.lines.toNat-x) (λx e' s'=>x<=2^a.lines.toNat/\(∀t:Nat,t<104->t≠13->t≠16->e'.get t=e.get t)/\e'.get 104=.int .i64 (x:Nat)/\e'.get 13=.bool (p0&&okR a b C c x)/\(∀j,j<s.next->s'.get j=s.get j)/\s.next<=s'.next/\Fr s') 0 ?_
  ⟨apW _,λ_ _ _ _=>rfl,h104,by rw[h13];simp[okR],λ_ _=>rfl,api _,fr⟩
 rintro Lp x e' s' ⟨tP,hold,acm,La,hs,Vq,Wk⟩ IH;have q3:=(hold 3 J J J).trans h3;have q4:=(hold 4 J J J).trans h4;have q8:=(hold 8 J J J).trans h8;have q15:=(hold 15 J J J).trans h15;have acn:=(hold 103 J J J).trans h103;have uA:=(hs A hA).trans gA;have uB:=(hs B hB).trans gB;have um:=(hs mp hm).trans gm;have uP:=(hs P hP).trans gP;unfold Yr at uP;by_cases hd:x<2^a.lines.toNat
 ·have hw:=ZI hd J;have hpn:=vU hb VK hc hd;have n1:=ha.mM iV hd;have n2:=hb.mM Jg (by rw[<-VK];exact hd);have n3:=ha.aaZ iV hd;have n4:=hb.aaZ Jg (by rw[<-VK];exact hd);have r1:=Ul (nl:=a.Xb) iV;have r2:=Ul (nl:=b.Xb) Jg;have r3:=Uj (nl:=a.WG) (l:=a.ZW) (i:=c / b.fa.n) (by rw[ha.fl];exact iV);have r4:=Uj (nl:=b.WG) (l:=b.ZW) (i:=c%b.fa.n) (by rw[hb.fl];exact Jg);have lk:=λ(S:St) (h:S.get mp=some (.map (Ty b.fa.n (λ_=>.bool true) C 0) false))=>jP h ((Zg a.fa b.fa).nx c x)
  rw[hpn] at lk;have Ps:=Wk.at;have key:∀(E:Env) (S:St),(∀t:Nat,t<104->t≠13->t≠16->E.get t=e'.get t)->E.get 104=.int .i64 ((x+1:Nat):Int)->E.get 13=.bool (p0&&okR a b C c (x+1))->(∀j,j<s'.next->S.get j=s'.get j)->s'.next<=S.next->Fr S->ZC (SJ U (U7 U [.tmp 6]) (.bk 4::ks) Lp E S):=λE S k1 k2 k3 k4 k5 k6 =>
   IH (x+1) _ _ J ⟨J,λt h1 h2 h3=>(k1 t h1 h2 h3).trans (hold t h1 h2 h3),k2,k3,λj hj=>(k4 j J).trans (hs j hj),J,k6⟩
  have Jv:∀t:Nat,t<104->t≠13->t≠16->(13=t)=False/\(16=t)=False/\∀k:Nat,104<=k->(k=t)=False:=λt h1 h2 h3=>⟨F_,F_,λk hk=>F_⟩
  rw[cB] at key
  cases hp:(p0&&okR a b C c x) with
  |false =>
   rw[hp] at La;rw[<-Bool.and_assoc,hp,aqK] at key;simp only[go_sem,IB,q3,q4,q8,La,q15,acn,acm,Z9,hd,hw];refine key _ _ (λt h1 h2 h3=>?_) ?_ ?_ (λj hj=>?_) ?_ ?_
   ·obtain⟨eV,o6,ZB⟩:=Jv t h1 h2 h3;simp only[go_sem,eV,o6,ZB]
   ·simp only[go_sem]
   ·simp only[go_sem]
   ·simp only[ZR]
   ·simp only[Z6];omega
   ·exact Wk.upto J
  |true =>
   rw[hp] at La;rw[<-Bool.and_assoc,hp,aqr] at key;unfold okx at key
   cases hq:(a.fa.fr (c / b.fa.n) x==b.fa.fr (c%b.fa.n) x) with
   |false =>
    rw[hq,aqK] at key;simp only[go_sem,IB,q3,q4,q8,La,q15,acn,acm,uA,uB,uP,Z9,hd,hw,r3,r4,n3,n4,Al,hq];refine key _ _ (λt h1 h2 h3=>?_) ?_ ?_ (λj hj=>?_) ?_ ?_
    ·obtain⟨eV,o6,ZB⟩:=Jv t h1 h2 h3;simp only[go_sem,eV,o6,ZB]
    ·simp only[go_sem]
    ·simp only[go_sem]
    ·simp only[ZR]
    ·simp only[Z6];omega
    ·exact Wk.upto J
   |true =>
    rw[hq,aqr] at key;simp only[go_sem,IB,q3,q4,q8,La,q15,acn,acm,uA,uB,um,uP,Z9,hd,hw,r1,r2,r3,r4,n1,n2,n3,n4,Al,hq,lk];refine key _ _ (λt h1 h2 h3=>?_) ?_ ?_ (λj hj=>?_) ?_ ?_
    ·obtain⟨eV,o6,ZB⟩:=Jv t h1 h2 h3;simp only[go_sem,eV,o6,ZB]
    ·simp only[go_sem]
    ·simp only[go_sem]
    ·simp only[ZR]
    ·simp only[Z6];omega
    ·exact Wk.upto J
 ·have hxe:x=2^a.lines.toNat:=J;subst hxe;simp only[go_sem,IB,acn,acm,Z9,ap5];refine hk _ _ (λt h1 h2 h3=>?_) ?_ hs Vq Wk
  ·have ZB:∀k:Nat,104<=k->(k=t)=False:=λk hk=>F_
   simp only[go_sem,ZB];exact hold t h1 h2 h3
  ·simp only[go_sem,La]
end Go.Am
