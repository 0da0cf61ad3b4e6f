/- A part of the proof. -/
import Derived.Test.YtkmaeondbkpajaaGreatDoorE28
set_option linter.all false
set_option maxHeartbeats 8000000
set_option maxRecDepth 100000
namespace Go.Am
open Go
variable [Z8]
variable {ks:List K}{e:Env}{s:St}
def A7 (a b:Zv)(C:List Nat)(c:Nat):Bool:=okR a b C c (2^a.lines.toNat)
def alD {ZC:Option AV->Prop}{a b:Zv}(ha:a.ok)(hb:b.ok)(VK:a.lines=b.lines){nl:Bool}{l:List Pr}(hl:l.length<=65536)(hg:∀p∈l,Pg a.fa.n b.fa.n p=false){A B mp:Nat}{C:List Nat}{p0:Bool}
  (h3:e.get 3=.ptr A 0)(h4:e.get 4=.ptr B 0)(h8:e.get 8=.map mp)(h13:e.get 13=.bool p0)(h95:e.get 95=ZU nl (l.map LY))(h96:e.get 96=.int .i64 (l.length:Nat))(h97:e.get 97=.int .i64 (0:Nat))
  (gA:s.get A=some (.cells [.int .i64 a.lines,ZU a.Xb (a.next.map ZF),ZU a.WG (a.ZW.map ZM)] 42 false 0 0))(gB:s.get B=some (.cells [.int .i64 b.lines,ZU b.Xb (b.next.map ZF),ZU b.WG (b.ZW.map ZM)] 42 false 0 0))
  (gm:s.get mp=some (.map (Ty b.fa.n (λ_=>.bool true) C 0) false))
  (hA:A<s.next)(hB:B<s.next)(hm:mp<s.next)(fr:Fr s)
  (hk:∀e' s',e'.get 13=.bool (p0&&(l.map (Jw b.fa.n)).all (A7 a b C))->Fr s'->ZC (goN U (U7 U [.tmp 6]) ks e' s')) :
  ZC (SJ U (U7 U [.tmp 6]) (.bk 2::ks) IV e s):=by
 have SI:=Vf U 3 true .i64 (n:=a.lines) (by have:=ha.lines;omega);have qz:((2:Int)^a.lines.toNat)=((2^a.lines.toNat:Nat):Int):=by simp
 rw[qz] at SI;refine YT (σ:=Nat) (λi=>l.length-i) (λi e' s'=>i<=l.length/\(∀t:Nat,t<97->t≠13->t≠15->t≠16->e'.get t=e.get t)/\e'.get 97=.int .i64 (i:Nat)/\e'.get 13=.bool (p0&&((l.take i).map (Jw b.fa.n)).all (A7 a b C))/\(∀j,j<s.next->s'.get j=s.get j)/\s.next<=s'.next/\Fr s') 0 ?_
  ⟨apW _,λ_ _ _ _ _=>rfl,h97,by rw[h13];simp,λ_ _=>rfl,api _,fr⟩
 rintro Lp i e' s' ⟨hi0,hold,q97,La,hs,Vq,Wk⟩ IH;have q3:=(hold 3 J J J J).trans h3;have q4:=(hold 4 J J J J).trans h4;have q8:=(hold 8 J J J J).trans h8;have q95:=(hold 95 J J J J).trans h95;have q96:=(hold 96 J J J J).trans h96;have uA:=(hs A hA).trans gA;have uB:=(hs B hB).trans gB;have um:=(hs mp hm).trans gm;by_cases hd:i<l.length
 ·have hw:=ZI hd J;have ix:=K8 (nl:=nl) hd;have hgi:=hg l[i] (adm hd);have hc:=ahn hgi;have Rv:=pD hgi;have f1:(s'.next=A)=False:=F_;have K_:((l.take (i+1)).map (Jw b.fa.n)).all (A7 a b C)=(((l.take i).map (Jw b.fa.n)).all (A7 a b C)&&A7 a b C (Jw b.fa.n l[i])):=by
   rw[ap7 hd,aqf,List.all_append];simp
  simp only[go_sem,IV,q3,q95,q96,q97,uA,f1,Z9,hd,ix,SI];obtain⟨S,hS⟩:∃S,S=(s'.new (.cells [.int .i64 0,.int .i64 0] 55 false 0 0)).put s'.next (.cells [.int .i64 l[i].1,.int .i64 l[i].2] 55 false 0 0):=⟨_,rfl⟩;rw[<-hS];have DX:S.next=s'.next+1:=by rw[hS,Z_,Z']
  have kS:∀j,j<s'.next->S.get j=s'.get j:=λj h1=>by rw[hS,Z7,O3 J,Z5,O3 J]
  have uS:S.get s'.next=some (.cells [.int .i64 l[i].1,.int .i64 l[i].2] 55 false 0 0):=by rw[hS,Z7,Of rfl]
  have Jh:Fr S:=by rw[hS];exact (Wk.new _).put O0 _
  rw[<-Rv] at uS;refine alE (ZC:=ZC) ha hb VK (A:=A) (B:=B) (mp:=mp) (P:=s'.next) (C:=C) (p0:=(p0&&((l.take i).map (Jw b.fa.n)).all (A7 a b C))) hc ?_ ?_ ?_ ?_ ?_ ?_ ?_ ((kS A J).trans uA) ((kS B J).trans uB) ((kS mp J).trans um) uS J J J J Jh ?_
  case refine_8 =>
   intro e2 s2 E2 e13 TB C0 OJ;have E97:e2.get 97=.int .i64 (i:Nat):=by
    rw[E2 97 J J J];simp only[go_sem,q97]
   simp only[go_sem,E97,hw];refine IH (i+1) _ _ J ⟨J,λt h1 h2 h3 h4=>?_,?_,?_,λj h1=>?_,J,OJ⟩
   ·have ZB:∀k:Nat,97<=k->(k=t)=False:=λk hk=>F_
    have zp:(15=t)=False:=F_;simp only[go_sem,ZB];rw[E2 t J h2 h4];simp only[go_sem,ZB,zp];exact hold t h1 h2 h3 h4
   ·simp only[go_sem]
   ·simp only[go_sem,e13,K_];rw[Bool.and_assoc];rfl
   ·rw[TB j J,kS j J,hs j h1]
  all_goals simp only[go_sem,q3,q4,q8,La]
  all_goals rfl
 ·have G5:i=l.length:=J;subst G5;rw[aqN] at La;simp only[go_sem,IV,q96,q97,Z9,ap5];exact hk _ _ (by simp only[go_sem,La]) Wk
def abg (a b c d:Int):Xj U .eql 55 false (.agg [.int .i64 a,.int .i64 b]) (.agg [.int .i64 c,.int .i64 d])=some (.bool (a==c&&b==d)):=by
 have hk:U.AN 55=true:=It;have hu:U.Zd 55=some (.array 2 3):=It;have h3:U.Zd 3=some (.int .i64):=It;have hs:size U 3=some 1:=It;have ha:Ys U 3=some false:=It;simp only[Xj,HS,hk,if_true];rw[show (20:Nat)=18+1+1 from rfl];simp only[yB,hu,hs];simp[QQ,Rz,ha,h3]
 cases a==c <;> cases b==d <;> rfl
def nr:List Pr->Bool|[]=>false|p::_=>p.1==0&&p.2==0
def prv (a b:Zv)(l:List Pr):Bool:=nr l&&(l.map (Jw b.fa.n)).all (A7 a b (l.map (Jw b.fa.n)))
def ckQ (a b:Zv)(l:List Pr):Int:=bif S7 a.fa.n b.fa.n none l != 0 then S7 a.fa.n b.fa.n none l else br (!prv a b l) 21 0
def qo (a b:Zv)(l:List Pr):Int:=bif Wz a b != 0 then Wz a b else ckQ a b l
def amJ {ZC:Option AV->Prop}{a b:Zv}(ha:a.ok)(hb:b.ok)(VK:a.lines=b.lines){nl:Bool}{l:List Pr}(hl:l.length<=65536)(hg:∀p∈l,Pg a.fa.n b.fa.n p=false){A B mp:Nat}
  (h2:e.get 2=ZU nl (l.map LY))(h3:e.get 3=.ptr A 0)(h4:e.get 4=.ptr B 0)(h8:e.get 8=.map mp)
  (gA:s.get A=some (.cells [.int .i64 a.lines,ZU a.Xb (a.next.map ZF),ZU a.WG (a.ZW.map ZM)] 42 false 0 0))(gB:s.get B=some (.cells [.int .i64 b.lines,ZU b.Xb (b.next.map ZF),ZU b.WG (b.ZW.map ZM)] 42 false 0 0))
  (gm:s.get mp=some (.map (Ty b.fa.n (λ_=>.bool true) (l.map (Jw b.fa.n)) 0) false))
  (hA:A<s.next)(hB:B<s.next)(hm:mp<s.next)(fr:Fr s)
  (hk:ZC (some (.int .i64 (br (!prv a b l) 21 0)))) :
  ZC (go U (U7 U [.tmp 6]) ks oJ e s):=by
 have ll:=ZN nl (l.map LY);rw[ala] at ll;have c1:=LX (!prv a b l) 21;have key:∀(e1:Env),(∀t:Nat,t<9->e1.get t=e.get t)->e1.get 95=ZU nl (l.map LY)->e1.get 96=.int .i64 (l.length:Nat)->e1.get 97=.int .i64 (0:Nat)->e1.get 13=.bool (nr l)->ZC (SJ U (U7 U [.tmp 6]) (.bk 2::.sq (.seq (.ops [o 154 (.Qq (.t 13)),o 155 (.un .not (.t 154)),o 156 (.call 85 [(.t 155),(.v (.int .i64 21))]),o 6 (.Qq (.t 156))]) .ret)::ks) IV e1 s):=by
  intro e1 k1 k95 k96 k97 k13;refine alD (ZC:=ZC) ha hb VK hl hg (A:=A) (B:=B) (mp:=mp) (C:=l.map (Jw b.fa.n)) (p0:=nr l) ((k1 3 J).trans h3) ((k1 4 J).trans h4) ((k1 8 J).trans h8) k13 k95 k96 k97 gA gB gm hA hB hm fr ?_;intro e2 s2 p13 OJ;have p13:e2.get 13=.bool (prv a b l):=p13;simp only[go_sem,p13,c1];exact hk
 cases l with
 |nil =>
  have d0:decide (((0:Nat):Int)>0)=false:=rfl;rw[List.length_nil] at ll;simp only[go_sem,oJ,h2,ll,d0];refine key _ (λt ht=>?_) ?_ ?_ ?_ ?_
  ·have ZB:∀k:Nat,9<=k->(k=t)=False:=λk hk=>F_
   simp only[go_sem,ZB]
  all_goals simp only[go_sem]
  all_goals rfl
 |cons p l =>
  have d0:decide ((((l.length+1:Nat)):Int)>0)=true:=decide_eq_true J;rw[ap1] at ll;have ix:UJ 2 (ZU nl ((p::l).map LY)) (.int .i64 0)=some (.fp [.int .i64 p.1,.int .i64 p.2] 0):=K8 (nl:=nl) (l:=p::l) (i:=0) No;have e0:=abg p.1 p.2 0 0;simp only[go_sem,oJ,h2,ll,d0,ix,e0];refine key _ (λt ht=>?_) ?_ ?_ ?_ ?_
  ·have ZB:∀k:Nat,9<=k->(k=t)=False:=λk hk=>F_
   simp only[go_sem,ZB]
  all_goals simp only[go_sem]
  all_goals rfl
def c70 (a b:Zv)(ha:a.next.length<=2^40)(hra:∀r∈a.next,r.2.length<=2^40)(hb:b.next.length<=2^40)(hrb:∀r∈b.next,r.2.length<=2^40){nl:Bool}{l:List Pr}(hl:l.length<=65536):ZE U 30 [XW a,XW b,ZU nl (l.map LY)]=some (.int .i64 (qo a b l)):=by
 refine ZP k70 It (by simp[ZT,XC,YE]) ?_;have h136:=aem a b ha hra hb hrb;unfold qo;have nn:=ZV a.Xb (a.next.map ZF);have nf:=ZV a.WG (a.ZW.map ZM);have cn:=ZK a.Xb (a.next.map ZF);have cf:=ZK a.WG (a.ZW.map ZM);have nn':=ZV b.Xb (b.next.map ZF);have nf':=ZV b.WG (b.ZW.map ZM);have cn':=ZK b.Xb (b.next.map ZF);have cf':=ZK b.WG (b.ZW.map ZM);have ll:=ZN nl (l.map LY);rw[ala] at ll;have hz:=λ(S:St) (j:Nat)=>z89 (args:=[AV.sl j 0 2 (some 2) 1]) (s:=S) rfl
 have d5:decide (((l.length:Nat):Int)>65536)=false:=decide_eq_false J;have c1:=LX false 5;have hv:YD [Wz a b,0]=Wz a b:=by
  rw[YD]
  cases hq:Wz a b != 0 with
  |true=>rfl
  |false =>
   have h0:Wz a b=0:=by simpa using hq
   rw[h0];rfl
 rw[aeY]
 cases hc:Wz a b != 0 with
 |true =>
  rw[YH a,YH b] at h136 ⊢;unfold VI XD at h136 ⊢;simp only[go_sem,h136,hc,ll,d5,c1,hz,Uw,Xo,UI,UH,aqG,Jq,U0,hv]
 |false =>
  have h0:Wz a b=0:=by simpa using hc
  obtain⟨oa,ob,VK⟩:=IU h0;rw[YH a,YH b] at h136 ⊢;unfold VI XD at h136 ⊢;simp only[go_sem,h136,hc,ll,d5,c1,hz,Uw,Xo,UI,UH,aqG,Jq,U0,hv];refine an0 (ZC:=λ(o:Option AV)=>o=some (.int .i64 (ckQ a b l))) (nl:=nl) (l:=l) (na:=a.fa.n) (k:=b.fa.n) (A:=8) (B:=9) (mp:=11) (la:=a.lines) (lb:=b.lines) (nla:=a.Xb) (nlb:=b.Xb) (ra:=a.next.map ZF) (rb:=b.next.map ZF) (fa:=ZU a.WG (a.ZW.map ZM)) (fb:=ZU b.WG (b.ZW.map ZM)) hl ?_ ?_ ?_ ?_ ?_ ?_ ?_ ?_ ?_ ?_ ?_ ?_ ?_ ?_ ?_ ?_ ?_ ?_ ?_ ?_
  case refine_19 =>
   intro hs;have:S7 a.fa.n b.fa.n none l != 0:=by simpa using hs
   rw[ckQ,this,cond_true]
  case refine_20 =>
   intro hs Di e' s' E hm' LP uu Wk;have hs0:(S7 a.fa.n b.fa.n none l != 0)=false:=by simpa using hs
   have e2:e'.get 2=ZU nl (l.map LY):=by rw[E 2 J J];simp only[go_sem]
   have e3:e'.get 3=.ptr 8 0:=by rw[E 3 J J];simp only[go_sem]
   have e4:e'.get 4=.ptr 9 0:=by rw[E 4 J J];simp only[go_sem]
   have e8:e'.get 8=.map 11:=by rw[E 8 J J];simp only[go_sem]
   have B_:∀p∈l,Pg a.fa.n b.fa.n p=false:=by have:=Di.good;rwa [aqN] at this
   have uA:=LP 8 (by simp only[go_sem]) Mo;have uB:=LP 9 (by simp only[go_sem]) Mo;simp only[go_sem] at uu;refine amJ (ZC:=λ(o:Option AV)=>o=some (.int .i64 (ckQ a b l))) oa ob VK (nl:=nl) hl B_ (A:=8) (B:=9) (mp:=11) e2 e3 e4 e8 (uA.trans ?_) (uB.trans ?_) hm' J J J Wk ?_
   case refine_3=>rw[ckQ,hs0,cond_false]
   all_goals simp only[go_sem]
  case refine_10=>rw[ala];rfl
  case refine_11=>rw[ala];rfl
  case refine_18 =>
   repeat first|exact Fr.own|apply Fr.new|apply Fr.put|apply Fr.upto
   all_goals simp only[go_sem]
  all_goals simp only[go_sem]
  all_goals first|rfl|omega|decide
theorem Gc {m:Nat}{n:Int}:∀(l:List (Bool×List Int)) (f:List (Bool×List Bool)),l.length=f.length->(∀r∈l,r.2.length=m/\∀x∈r.2,0<=x/\x<n)->(∀r∈f,r.2.length=m)->Tq (m:Nat) n l f=0
 |[],_,_,_,_=>rfl
 |r::l,[],h,_,_=>by simp at h
 |r::l,g::f,h,h1,h2=>by
  obtain⟨e1,e2⟩:=h1 r (aba ..);have e3:=h2 g (aba ..);have b1:((r.2.length:Int) != (m:Nat)||((((g::f).headD (true,[])).2.length:Int) != (m:Nat)))=false:=by simp[e1,e3]
  have b2:(r.2.any λx=>outside x 0 (n-1))=false:=by
   rw[List.any_eq_false];intro x hx;have:=e2 x hx;simp[outside];omega
  rw[Tq,b1,b2,Zp,Zp];exact Gc l f (by simpa using h) (λr hr=>h1 r (aab _ hr)) λr hr=>h2 r (aab _ hr)
theorem qt {a:Zv}(h:a.ok)(h256:a.next.length<=256):tT a=0:=by
 have hl:=h.lines;have hp:=h.pos;have b1:outside a.lines 1 4=false:=by simp[outside];omega
 have b2:((a.next.length:Int)==0)=false:=by simp;intro e;rw[e] at hp;simp at hp
 have b3:decide ((a.next.length:Int)>256)=false:=F_;have b4:((a.ZW.length:Int) != a.next.length)=false:=by simp[h.fl]
 rw[tT,b1,b2,b3,b4,Zp,Zp,Zp,Zp,M6];refine Gc _ _ h.fl.symm (λr hr=>?_) λr hr=>?_
 ·obtain⟨i,hi,rfl⟩:=aqd.1 hr;exact h.row i hi
 ·obtain⟨i,hi,rfl⟩:=aqd.1 hr;exact h.Wh i hi
theorem Ii {a b:Zv}(ha:tT a=0)(hb:tT b=0)(hl:a.lines=b.lines):Wz a b=0:=by
 have e:(a.lines != b.lines)=false:=by simp[hl]
 unfold Wz;rw[ha,hb,e,Zp];rfl
theorem aav {a:Zv}(ha:a.ok):(ZS a).next.length<=a.next.length:=by
 obtain⟨fin,h⟩:=yT ha;have:=h.le;have e:=h.n;have e1:(ZS a).fa.n=(ZS a).next.length:=rfl;have e2:a.fa.n=a.next.length:=rfl;omega
theorem aaw {a:Zv}(ha:a.ok)(h256:a.next.length<=256):tT (ZS a)=0:=qt (VW ha) (by have:=aav ha;omega)
def UE (a:Zv):List Nat:=Sp a (ZS a)
def DH (a:Zv):List Pr:=(UE a).map λc=>(((c / (ZS a).fa.n:Nat):Int),((c%(ZS a).fa.n:Nat):Int))
section
variable {a:Zv}(ha:a.ok)
include ha
theorem S8 (c:Nat):c∈UE a<->c∈Sp a (ZS a):=Iff.rfl
theorem gZ:∀c∈UE a,c / (ZS a).fa.n<a.fa.n/\c%(ZS a).fa.n<(ZS a).fa.n:=λc hc=>by
 have hm:=VW ha;have:=(Gb ha hm rfl).lt c ((S8 ha c).1 hc);exact⟨Nat.div_lt_of_lt_mul (by rw[Nat.mul_comm];exact this),Nat.mod_lt _ hm.pos⟩
theorem aax:(DH a).map (Jw (ZS a).fa.n)=UE a:=by
 unfold DH;rw[aqY];refine (aqD λc _=>?_).trans (List.map_id _);simp only[Function.comp,Jw,id];have:=Nat.div_add_mod c (ZS a).fa.n;have e:((c / (ZS a).fa.n:Nat):Int)*((ZS a).fa.n:Nat)+((c%(ZS a).fa.n:Nat):Int)=(c:Nat):=by
  rw[<-Int.natCast_mul,<-Int.natCast_add,Nat.mul_comm];exact congrArg _ this
 rw[e];rfl
theorem nq (LP:(UE a).Pairwise (·<·)):S7 a.fa.n (ZS a).fa.n none (DH a)=0:=by
 have hm:=VW ha;have hI:=Gb ha hm rfl;have YA:=gZ ha;generalize hn:(ZS a).fa.n=n at *;have DV:0<n:=by rw[<-hn];exact hm.pos
 have key:∀(L:List Nat) (q:Option Pr),(∀c∈L,c / n<a.fa.n/\c%n<n)->L.Pairwise (·<·)->(∀p,q=some p->∃d:Nat,p=(((d / n:Nat):Int),((d%n:Nat):Int))/\∀c∈L,d<c)->S7 a.fa.n n q (L.map λc=>(((c / n:Nat):Int),((c%n:Nat):Int)))=0:=by
  intro L
  induction L with
  |nil=>intro q _ _ _;rfl
  |cons c L ih =>
   intro q h1 h2 h3;rw[aqe,S7];have hc:=h1 c (aba ..);have b1:Pg a.fa.n n (((c / n:Nat):Int),((c%n:Nat):Int))=false:=qq.2 ⟨Int.natCast_nonneg _,Int.ofNat_lt.2 hc.1,Int.natCast_nonneg _,Int.ofNat_lt.2 hc.2⟩;have b2:iL q (((c / n:Nat):Int),((c%n:Nat):Int))=false:=by
    cases q with
    |none=>rfl
    |some p =>
     obtain⟨d,rfl,hd⟩:=h3 p rfl;have hd:=hd c (aba ..);simp only[iL,zj,Bool.not_eq_false'];have e1:=Nat.div_add_mod c n;have e2:=Nat.div_add_mod d n;have e3:d / n<=c / n:=Nat.div_le_div_right J;rcases Nat.lt_or_ge (d / n) (c / n) with h|h
     ·have:decide (((c / n:Nat):Int)>((d / n:Nat):Int))=true:=decide_eq_true J;rw[this];rfl
     ·have e4:c / n=d / n:=J;rw[e4] at e1 ⊢;have:decide (((c%n:Nat):Int)>((d%n:Nat):Int))=true:=decide_eq_true J;rw[this];simp
   rw[b1,b2,Zp,Zp];rw[List.pairwise_cons] at h2;refine ih _ (λx hx=>h1 x (aab _ hx)) h2.2 λp hp=>?_
   cases hp
   exact⟨c,rfl,h2.1⟩
 have:=key (UE a) none YA LP (λp hp=>by cases hp);unfold DH;rw[hn];exact this
theorem aay (LP:(UE a).Pairwise (·<·)):nr (DH a)=true:=by
 have hm:=VW ha;have hI:=Gb ha hm rfl;have h0:0∈UE a:=(S8 ha 0).2 (aqn hI.hd);have hs:(UE a).Pairwise (·<=·):=LP.imp λh=>Nat.le_of_lt h
 unfold DH
 cases hL:UE a with
 |nil=>rw[hL] at h0;cases h0
 |cons c L =>
  rw[hL] at h0 hs;rw[List.pairwise_cons] at hs;have:c=0:=by
   rcases ap9.1 h0 with h|h
   ·exact h.symm
   ·have:=hs.1 0 h;omega
  subst this;simp[nr]
theorem qp {fin:List Nat}(h:Mv a fin):∀c∈UE a,Ji a fin (c / (ZS a).fa.n) (c%(ZS a).fa.n):=λc hc=>by
 have hc:=(S8 ha c).1 hc;obtain⟨t,ht,rfl⟩:=ap0.1 hc;exact yS ha h t ht
theorem aaz:(UE a).all (A7 a (ZS a) (UE a))=true:=by
 have hm:=VW ha;have hI:=Gb ha hm rfl;obtain⟨fin,h⟩:=yT ha;rw[ap8];intro c hc;unfold A7 okR;rw[ap8];intro x hx;have hx:=aqg.1 hx;have nk:=qp ha h c hc;have h1:=(h.nj ha nk hx).1;unfold okx;rw[h1];have h2:(Zg a.fa (ZS a).fa).nx c x∈UE a:=(S8 ha _).2 (hI.cl c ((S8 ha c).1 hc) x hx);rw[decide_eq_true ((QW _ _).2 h2)];simp
theorem aaA (LP:(UE a).Pairwise (·<·))(h256:a.next.length<=256)(h0:tT a=0):qo a (ZS a) (DH a)=0:=by
 have hc:Wz a (ZS a)=0:=Ii h0 (aaw ha h256) rfl;unfold qo ckQ prv;rw[hc,nq ha LP,aax ha,aay ha LP,aaz ha];rfl
theorem ni {t:Nat}(ht:t<(ZS a).fa.n):∃c∈UE a,c%(ZS a).fa.n=t:=by
 have hm:=VW ha;have hI:=Gb ha hm rfl;obtain⟨fin,h⟩:=adR ha;have qn:t<fin.length:=by rw[<-h.n];exact ht
 obtain⟨w,s,⟨uI,LO⟩,hs⟩:=h.rch fin[t] (adm qn);have DV:0<(ZS a).fa.n:=hm.pos;have key:∀(w:List Nat) (c:Nat),c∈Sp a (ZS a)->(∀z∈w,z<a.fa.m)->∃d∈Sp a (ZS a),d / (ZS a).fa.n=w.foldl a.fa.nx (c / (ZS a).fa.n):=by
  intro w
  induction w with
  |nil=>intro c hc _;exact⟨c,hc,rfl⟩
  |cons z w ih =>
   intro c hc hz;have hzl:=hz z (aba ..);obtain⟨d,hd,e⟩:=ih _ (hI.cl c hc z hzl) λy hy=>hz y (aab _ hy)
   refine⟨d,hd,?_⟩;rw[e,List.foldl_cons]
   congr 1
   exact UW (hm.UU.lt _ z (Nat.mod_lt _ DV) hzl)
 obtain⟨d,hd,e⟩:=key w 0 (aqn hI.hd) uI;rw[Nat.zero_div,LO] at e;have nk:=qp ha h.toMv d ((S8 ha d).2 hd);rw[e] at nk;obtain⟨_,h2,h3⟩:=nk;refine⟨d,(S8 ha d).2 hd,?_⟩;rw[hs] at h3;exact gY h.nd h2 qn h3
end
end Go.Am
namespace Go.Am
open Go
variable [Z8]
variable {k:Nat}{i:Nat}
def wK {a:Zv}(ha:a.ok):Yw (Zg a.fa a.fa) (λ_ _=>true)=(Oy (λs=>s*a.fa.n+s) (Yw a.fa λ_ _=>true).1,(Yw a.fa λ_ _=>true).2):=by
 have hA:=ha.UU;refine r8 (φ:=λs=>s*a.fa.n+s) hA (λu v hu hv h=>?_) rfl ?_ No λs x hs hx=>?_
 ·have h1:=UW (a:=u) (b:=u) hu;have h2:=UW (a:=v) (b:=v) hv;rw[h] at h1;omega
 ·exact Nat.le_mul_of_pos_right _ hA.pos
 ·have h1:=UW (a:=s) (b:=s) hs;have h2:=SU (a:=s) (b:=s) hs;refine⟨?_,rfl⟩;show a.fa.nx ((s*a.fa.n+s) / a.fa.n) x*a.fa.n+a.fa.nx ((s*a.fa.n+s)%a.fa.n) x=_;rw[h1,h2]
def r0 {a:Zv}(ha:a.ok):∀c∈Sp a a,c%a.fa.n=c / a.fa.n:=by
 have hA:=ha.UU;have key:=wK ha;intro c hc;unfold Sp Xz at hc;rw[key] at hc;simp only[Oy,aqY] at hc;obtain⟨t,ht,rfl⟩:=ap0.1 hc;have hs:t.1<a.fa.n:=(Vn hA λ_ _=>true).inv.lt t ht;show (t.1*a.fa.n+t.1)%a.fa.n=(t.1*a.fa.n+t.1) / a.fa.n;rw[SU hs,UW hs]
def Qm (A:Fa)(l:List Int):∀(r t s:Nat),Jy A l (r+1) t s=A.nx (Jy A l r t s) (WL l (t+r))
 |0,_,_=>rfl
 |r+1,t,s=>by
  rw[Jy,Qm A l r (t+1)];show _=A.nx (Jy A l r (t+1) (A.nx s (WL l t))) (WL l (t+(r+1)));rw[show t+1+r=t+(r+1) by omega]
structure fJ (A:Fa)(i:Nat)(T:List Yb):Prop where
 pb:∀(k:Nat) (t:Yb),T[k]? = some t->t.2.1<=i
 tr:∀(k:Nat) (t:Yb),T[k+1]? = some t->∃u:Yb,T[t.2.1]? = some u/\A.nx u.1 t.2.2=t.1
 mono:∀(k k':Nat) (t t':Yb),k<=k'->T[k]? = some t->T[k']? = some t'->t.2.1<=t'.2.1
 cov:∀j,j<i->∀u:Yb,T[j]? = some u->∀z,z<A.m->∃(k:Nat) (t:Yb),T[k]? = some t/\t.1=A.nx u.1 z/\t.2.1<=j
def Kh {T R:List Yb}{t:Yb}(h:T[k]? = some t):(T++R)[k]? = some t:=by
 rw[aql (apX.1 h).1];exact h
def SQ {T:List Yb}{t s:Yb}(h:(T++[s])[k]? = some t):T[k]? = some t\/(k=T.length/\t=s):=by
 rcases Nat.lt_or_ge k T.length with hk|hk
 ·rw[aql hk] at h;exact .inl h
 ·rw[aqZ hk] at h;have Jz:k-T.length=0:=by
   have:=(apX.1 h).1;simp at this;omega
  rw[Jz] at h;simp at h;exact .inr ⟨J,h.symm⟩
def fJ.put {A:Fa}{i x:Nat}{T:List Yb}{u:Yb}(h:fJ A i T)(hT:0<T.length)(hu:T[i]? = some u):fJ A i (T++[(A.nx u.1 x,i,x)]):=by
 refine⟨λk t hk=>?_,λk t hk=>?_,λk k' t t' gg hk Lz=>?_,λj hj v hv z hz=>?_⟩
 ·rcases SQ hk with hk|⟨_,rfl⟩
  ·exact h.pb k t hk
  ·exact api _
 ·rcases SQ hk with hk|⟨_,rfl⟩
  ·obtain⟨v,h1,h2⟩:=h.tr k t hk;exact⟨v,Kh h1,h2⟩
  ·exact⟨u,Kh hu,rfl⟩
 ·rcases SQ Lz with Lz|⟨e',rfl⟩
  ·rcases SQ hk with hk|⟨e,rfl⟩
   ·exact h.mono k k' t t' gg hk Lz
   ·have:=(apX.1 Lz).1;omega
  ·rcases SQ hk with hk|⟨e,rfl⟩
   ·exact h.pb k t hk
   ·exact api _
 ·have Dq:j<T.length:=by have:=(apX.1 hu).1;omega
  rw[aql Dq] at hv;obtain⟨k,t,h1,h2,h3⟩:=h.cov j hj v hv z hz;exact⟨k,t,Kh h1,h2,h3⟩
def Ly {A:Fa}{i:Nat}{y:Nat->Bool}:∀(r x:Nat) {T:List Yb} {u:Yb},fJ A i T->T[i]? = some u->fJ A i (X6 (A.nx u.1) y i r x T).1/\(∀(k:Nat) (t:Yb),T[k]? = some t->(X6 (A.nx u.1) y i r x T).1[k]? = some t) /\
  ((X6 (A.nx u.1) y i r x T).2=none->∀z,x<=z->z<x+r->∃(k:Nat) (t:Yb),(X6 (A.nx u.1) y i r x T).1[k]? = some t/\t.1=A.nx u.1 z/\t.2.1<=i)
 |0,x,T,u,h,hu=>⟨h,λ_ _ h=>h,λ_ z h1 h2=>J⟩
 |r+1,x,T,u,h,hu=>by
  rw[X6]
  cases hy:y x with
  |false=>exact⟨h,λ_ _ h=>h,λe=>by simp at e⟩
  |true =>
   simp only[cond_true];have hT:0<T.length:=by have:=(apX.1 hu).1;omega
   cases TD:decide (A.nx u.1 x∈T.map (·.1)) with
   |true =>
    simp only[cond_true];obtain⟨i1,i2,i3⟩:=Ly (y:=y) r (x+1) h hu;refine⟨i1,i2,λe z h1 h2=>?_⟩;by_cases hz:z=x
    ·subst hz;obtain⟨t,ht,e⟩:=ap0.1 (of_decide_eq_true TD);obtain⟨k,hk,rfl⟩:=aqd.1 ht;have Lz:T[k]? = some T[k]:=aaa hk;exact⟨k,T[k],i2 k _ Lz,e,h.pb k _ Lz⟩
    ·exact i3 e z J J
   |false =>
    simp only[cond_false];obtain⟨i1,i2,i3⟩:=Ly (y:=y) r (x+1) (h.put (x:=x) hT hu) (Kh hu);refine⟨i1,λk t hk=>i2 k t (Kh hk),λe z h1 h2=>?_⟩;by_cases hz:z=x
    ·subst hz;exact⟨T.length,(A.nx u.1 z,i,z),i2 _ _ No,rfl,api _⟩
    ·exact i3 e z J J
def xN {A:Fa}{y:Nat->Nat->Bool}:∀(f i:Nat) {T:List Yb},fJ A i T->∀k x,(Sx A y f i T).2=some (k,x)->fJ A k (Sx A y f i T).1
 |0,i,T,_,k,x,e=>by simp[Sx] at e
 |f+1,i,T,h,k,x,e=>by
  rw[Sx] at e ⊢
  cases ht:T[i]? with
  |none=>rw[ht] at e;simp at e
  |some u =>
   rw[ht] at e;obtain⟨i1,i2,i3⟩:=Ly (y:=y u.1) A.m 0 h ht;simp only at e ⊢;generalize X6 (A.nx u.1) (y u.1) i A.m 0 T=v at *;obtain⟨T',o⟩:=v
   cases o with
   |some z =>
    simp only[Option.some.injEq,Prod.mk.injEq] at e ⊢;obtain⟨rfl,rfl⟩:=e;exact i1
   |none =>
    simp only at e ⊢ i1 i2 i3;refine xN f (i+1) ⟨λk t hk=>Nat.le_succ_of_le (i1.pb k t hk),i1.tr,i1.mono,λj hj v hv z hz=>?_⟩ k x e;by_cases hji:j=i
    ·subst hji;rw[i2 j u ht] at hv
     cases hv
     exact i3 trivial z (apW _) J
    ·exact i1.cov j J v hv z hz
def alP (A:Fa):fJ A 0 [(0,0,0)]:=by
 have Fx:∀k t,[((0,0,0):Yb)][k]? = some t->k=0/\t=(0,0,0):=λk t h=>by
  cases k with
  |zero=>simp at h;exact⟨rfl,h.symm⟩
  |succ k=>simp at h
 refine⟨λk t h=>?_,λk t h=>?_,λk k' t t' _ h _=>?_,λj hj=>J⟩
 ·rw[(Fx k t h).2];exact api _
 ·have:=(Fx _ t h).1;omega
 ·rw[(Fx k t h).2];exact apW _
def dpT (T:List Yb)(k:Nat):Nat:=(Vv T k k).length
def MP {A:Fa}{T:List Yb}(h:QA A T){t:Yb}(ht:T[k+1]? = some t):Vv T (k+1) (k+1)=Vv T t.2.1 t.2.1++[t.2.2]:=by
 have hp:=(h.fr k t ht).1;have hk:=(apX.1 ht).1;rw[Vv,ht];simp only;rw[MS h k t.2.1 hp J]
def xM {A:Fa}{T:List Yb}(h:QA A T)(hb:fJ A i T):∀(k' k:Nat),k<=k'->k'<T.length->dpT T k<=dpT T k':=by
 intro k'
 induction k' using Nat.strongRecOn with
 |ind k' ih =>
  intro k hk Lz
  cases k with
  |zero=>exact apW _
  |succ k =>
   obtain⟨q,rfl⟩:∃q,k'=q+1:=⟨k'-1,J⟩;have e1:T[k+1]? = some T[k+1]:=aaa J;have e2:T[q+1]? = some T[q+1]:=aaa Lz;have hm:=hb.mono _ _ _ _ hk e1 e2;have hp:=(h.fr q _ e2).1;unfold dpT;rw[MP h e1,MP h e2,ann,ann];have:=ih _ J _ hm J;unfold dpT at this;simp only[aqh];omega
def mh {A:Fa}{T:List Yb}(h:QA A T)(hb:fJ A i T)(h0:∀t,T[0]? = some t->t.1=0):∀(k:Nat) (t:Yb),T[k]? = some t->(Vv T k k).foldl A.nx 0=t.1/\(∀z∈Vv T k k,z<A.m)/\∀j,j<(Vv T k k).length->∃k' t',k'<k/\T[k']? = some t'/\((Vv T k k).take j).foldl A.nx 0=t'.1:=by
 intro k
 induction k using Nat.strongRecOn with
 |ind k ih =>
  intro t ht
  cases k with
  |zero=>exact⟨(h0 t ht).symm,λz hz=>by simp[Vv] at hz,λj hj=>by simp[Vv] at hj⟩
  |succ k =>
   obtain⟨u,hu,he⟩:=hb.tr k t ht;obtain⟨hp,hx⟩:=h.fr k t ht;obtain⟨p1,p2,p3⟩:=ih t.2.1 J u hu;rw[MP h ht];refine⟨?_,λz hz=>?_,λj hj=>?_⟩
   ·rw[List.foldl_append,p1];exact he
   ·rcases aqm.1 hz with hz|hz
    ·exact p2 z hz
    ·rw[apY.1 hz];exact hx
   ·rw[ann,aqh] at hj;by_cases Dq:j<(Vv T t.2.1 t.2.1).length
    ·obtain⟨k',t',q1,q2,q3⟩:=p3 j Dq;refine⟨k',t',J,q2,?_⟩;rw[List.take_append_of_le_length J];exact q3
    ·have hje:j=(Vv T t.2.1 t.2.1).length:=J;refine⟨t.2.1,u,J,hu,?_⟩;rw[hje,List.take_left']
     ·exact p1
     ·rfl
def NU {L:List Nat}{t:Nat}(ht:t<L.length):WL (Ur L) t=L[t]:=by
 unfold WL;rw[Y' (by rw[VG];exact ht)];simp[Ur]
def FK (A:Fa)(L:List Nat):∀r,r<=L.length->Jy A (Ur L) r 0 0=(L.take r).foldl A.nx 0
 |0,_=>by simp[Jy]
 |r+1,h=>by
  have hr:r<L.length:=J;rw[Qm,FK A L r J,ap4,NU hr,ap7 hr,List.foldl_append];rfl
def kR {A:Fa}(hA:A.ok)(y:Nat->Nat->Bool):(Yw A y).1[0]? = some (0,0,0):=by
 obtain⟨R,hR⟩:=(Vn hA y).pre;rw[hR];rfl
structure ShS (a:Zv)(L:List Nat):Prop where
 pos:0<L.length
 le:L.length<=a.next.length
 sym:∀z∈L,z<a.fa.m
 times:(IS a.fa (Ur L) (Ur L).length 0 0).1=[((L.length-1:Nat):Int)]
 first:∀(l:List Int),(∀i,i<l.length->WL l i<a.fa.m)->∀i,i<l.length->WH a.fa l i=true->L.length-1<=i
noncomputable def r6:RC:=(sO [YL 1 31 0,Zf 2] (sQ (sO [Od 7 8,WU 8 7,om 9 8,S6 10 9 2 1,KR 11 9 22 10 12,US 12 9 11,YO 13 9 12] (cT 13 (sO [Od 14 8,om 2 14] .ret))) (sO [Zw 15 2 1,Zk 16 23 15,om 3 16] (sQ (sO [om 17 3,Wq 18 3 17 0] (cT 18 (sO [ZO 19 0 1,ZX 20 19,Wx 21 3 20 4,om 22 21,S6 23 22 2 1,CU 24 22 55 23,Ih 25 22 3 24 65536,YO 26 22 25,Xl 27 37 26 22,om 3 27] (sO [om 28 3,Wq 29 3 28 0,om 30 29,Wg 31 30 2 1,oT 32 30 (.call 26 [(.t 31),(vI 400)]),HK 33 30 32,YP 34 30 33] (cT 34 (sO [Uz 2] .ret)))))) (sO [Zw 36 2 1,Zk 37 25 36,Zk 38 16 37,om 35 38,YN 39 35 0,YN 40 35 1,RQ 4 0 42,YC 3 4 39,om 5 40] (sO [RQ 6 0 46] (sQ (sO [om 41 3,Wq 42 3 41 0] (cT 42 (sO [Zw 43 2 1,Zk 44 42 43,Zk 45 41 44,YC 3 6 45] (oP [ZO 46 1 6,ZX 47 46,Za 48 47,Wx 49 3 48 256,Xl 50 37 49 5,om 3 50])))) (sO [Zw 51 3 4,om 52 5,om 53 3,Zw 54 3 6,Nx 55 43 51 52 53 54,om 2 55] .ret))))))))
noncomputable def r39:RC:=(sO [YL 2 31 0,Zf 4] (sO [ZO 5 0 2,ZX 6 5,o 7 (.bin .leq 3 true (.t 6) (vI 3)),om 8 7,Wg 9 8 2 2,oT 10 8 (.call 55 [(.t 9)]),YV 11 8 1,oT 12 8 (.bin .leq 3 false (.t 10) (.t 11)),YP 13 8 12,om 4 13] .ret))
def k39:Zm 26=some ([.tmp 4],r39):=It
noncomputable def r40:RC:=(sO [YL 1 25 0,RQ 2 0 42,ZA 3 0] (sQ (sO [Zw 5 2 1,Zk 6 47 5,om 4 6] (sO [om 7 4,Vp 8 26 7 0] (cT 8 (sO [o 9 (.RR [(iI 0),.ZQ,.ZQ] []),om 10 4,YC 3 2 9,om 3 10] .ret)))) (sQ (sO [ZO 11 0 1,ZX 12 11,Wx 13 3 12 4,om 14 13,S6 15 14 2 1,CU 16 14 61 15,Ih 17 14 3 16 65536,YO 18 14 17] (cT 18 (sO [o 19 (.RR [(iI 0),.ZQ,.ZQ] []),YC 3 2 19,ZA 3 22] .ret))) (sO [Zw 20 2 1,Zk 21 64 20,Zk 22 63 21,Zk 23 62 22,YN 24 23 0,YN 25 23 1,YC 3 2 24,om 3 25] .ret))))
def k40:Zm 16=some ([.cell 2 42,.tmp 3],r40):=It
noncomputable def Gz:RC:=(sO [Y_ 49 3 48 47] (sQ (cS 49 (.exit 2)) (sQ (.block 3 (sO [om 50 48,om 13 50] (sO [om 51 13,ZO 52 4 10,ZX 53 52,ZO 54 4 10,ZX 55 54,L5 56 3 55 0,o 57 (.RR [(iI 0),(iI 0),bF] [(0,1,(.t 51)),(1,1,(.t 53)),(2,1,(.t 56))]),o 14 (.al [(iI 0),(iI 0),bF] 137),YC 3 14 57] (sQ (sO [ZO 58 2 14,ZX 59 58] (cT 59 (oP [om 60 13,ZO 61 1 14,YC 1 61 60]))) (sO [Zw 63 3 3,ZO 64 0 10,ZX 65 64,Zw 66 3 14,Og 67 69 63 65 66,om 62 67,YN 68 62 0,YN 69 62 1,om 15 68,om 16 69] (sO [Zw 71 2 1,ZO 72 1 10,Zw 73 3 72,om 74 16,Og 75 70 71 73 74,om 70 75,YN 76 70 0,YN 77 70 1,wV 17 0 0 0 133,YC 3 17 76,om 18 77] (oP [om 78 11,om 79 7,om 80 15,Zw 81 3 17,om 82 13,o 83 (.RR [.ZQ,(iI 0),(iI 0),(iI 0),(iI 0)] [(0,1,(.t 80)),(1,3,(.t 81)),(4,1,(.t 82))]),Fc 84 79 83,PE 85 3 1 1 0 0 1 84,VN 86 3 1 8 78 85,om 87 12,om 88 18,o 89 (.Uc 4 1 1 [bF] [(0,1,(.t 88))]),VN 90 4 1 1 87 89,om 11 86,om 12 90]))))))) (oP [YM 91 3 48 1,om 48 91]))))
noncomputable def tS:Code:=JU 64 0
def adS:OH U tS=some (14,[(o 92 (.fa 1 (.t 8)),none),
 (o 93 (.Sr (.t 92)),none),
 (om 94 11,none),
 (⟨some 95,none,some 3,false,.Uc 48 1 1 [.ZQ] [(0,1,(.t 94))]⟩,none),
 (⟨some 96,none,none,true,.app 48 1 24 (.t 93) (.t 95)⟩,none),
 (o 97 (.fa 2 (.t 8)),none),
 (o 98 (.Sr (.t 97)),some (0,1)),
 (om 99 12,none),
 (⟨some 100,none,some 8,false,.Uc 72 1 1 [.ZQ] [(0,1,(.t 99))]⟩,none),
 (⟨some 101,none,none,true,.app 72 1 24 (.t 98) (.t 100)⟩,none),
 (o 102 (.fa 1 (.t 8)),none),
 (⟨none,none,none,true,.st 1 (.t 102) (.t 96)⟩,none),
 (o 103 (.fa 2 (.t 8)),none),
 (⟨none,none,none,true,.st 1 (.t 103) (.t 101)⟩,none)]):=It
noncomputable def G6:RC:=(sQ (sO [om 35 9,ZX 36 6,Za 37 36,Y_ 38 3 35 37] (cS 38 (.exit 0))) (sQ (.block 1 (sO [ZX 41 6,om 42 9,Zq 43 5 41 42,Zw 44 5 43,o 10 (.al [.ZQ,(iI 0),(iI 0),(iI 0),(iI 0)] 210),YC 5 10 44] (sO [XF 11] (sO [XF 12] (sQ (sO [ZO 45 0 1,ZX 46 45,Oc 47 3 1 46,ZA 48 0] (.block 2 (.loop Gz))) (.raw tS)))))) (oP [om 39 9,YM 40 3 39 1,om 9 40])))
noncomputable def ai':RC:=(sO [YL 1 25 0,RQ 2 0 42] (sO [Zw 20 2 1,Zk 21 68 20,Zk 22 67 21,om 19 22,YN 23 19 0,YN 24 19 1,oR 3 128,YC 3 3 23,om 4 24] (sO [BY 25 207,o 5 (.al [.O'] 207),YC 1 5 25] (sO [o 6 (.al [.ZQ] 208)] (sO [o 26 (.mkf 132 [] [(.t 5),(.t 6)]),om 7 26] (sO [om 27 7,om 28 4,o 29 (.RR [(iI 0),(iI 0),(iI 0)] []),o 30 (.RR [.ZQ,(iI 0),(iI 0),(iI 0),(iI 0)] [(0,1,(.t 28)),(1,3,(.t 29)),(4,1,(vI (-1)))]),Fc 31 27 30] (sO [ZO 32 0 1,ZX 33 32,o 34 (.RR [(iI 0),.ZQ,.ZQ] [(0,1,(.t 33))]),RQ 8 0 42,YC 3 8 34] (sQ (sO [ZA 9 0] (.block 0 (.loop G6))) (sO [Zw 104 3 8,YC 3 2 104] .ret)))))))))
def anu:Zm 64=some ([.cell 2 42],ai'):=It
noncomputable def afc:RC:=(sO [YL 3 210 0,ZA 4 0] (sO [ZO 8 0 3,ZX 9 8,ZO 10 1 3,Zw 11 3 10,ZO 12 4 3,ZX 13 12,Og 14 133 9 11 13,om 5 14] (sO [ZX 16 1,om 17 5,o 18 (.raw (.lookup 207 (.tmp 16) (.tmp 17) true)),om 15 18,YN 19 15 0,YN 20 15 1,om 6 19,om 7 20] (sQ (sO [om 21 7,WU 22 21] (cT 22 (sO [ZX 23 2,Za 24 23,om 6 24] (sO [ZX 25 1,om 26 5,om 27 6,eK 207 25 26 27] (oP [ZX 28 2,Zw 29 5 3,o 30 (.Uc 210 5 1 [.ZQ,(iI 0),(iI 0),(iI 0),(iI 0)] [(0,5,(.t 29))]),VN 31 210 5 56 28 30,YC 1 2 31]))))) (sO [om 32 6,om 4 32] .ret)))))
def aja:Zm 132=some ([.tmp 4],afc):=It
noncomputable def Ki:RC:=(sO [Y_ 22 3 21 20] (sQ (cS 22 (.exit 0)) (sQ (.block 1 (sO [Zq 23 1 19 21,ZX 24 23,om 9 24] (sO [om 25 9,Zk 26 75 25,YU 27 79 7 26] (oP [o 28 (.call 78 [(.t 7),(.v (.int .u8 32))])])))) (oP [YM 29 3 21 1,om 21 29]))))
noncomputable def aaY:RC:=(sO [YL 4 133 1,EZ 6] (sO [o 7 (.al [.U4,.ZQ] 150)] (sQ (sO [ZO 10 0 4,ZX 11 10,ZO 12 1 4,ZX 13 12,ZO 14 2 4,ZX 15 14,om 16 2,o 17 (.Uc 3 1 4 [(iI 0),(iI 0),(iI 0),(iI 0)] [(0,1,(.t 11)),(1,1,(.t 13)),(2,1,(.t 15)),(3,1,(.t 16))]),om 18 0,VN 19 3 1 8 17 18,Za 20 19,ZA 21 0] (.block 0 (.loop Ki))) (sO [Zk 30 81 7,om 6 30] .ret))))
def ahy:Zm 133=some ([.tmp 6],aaY):=It
def BP (n a b:Int):within n a b=br (outside n a b) 3 0:=rfl
def ef (lines:Int)(hl:1<=lines)(DY:lines<=16):∀(l:List Step) (i:Nat),sa lines i l=KB lines i l
 |[],_=>rfl
 |s::l,i=>by
  rw[sa,KB,adj lines hl DY,ef lines hl DY l (i+1)];simp only[BP];generalize LK lines s.cond 1=c;generalize outside s.times 1 64=a;generalize outside s.within 0 255=b;generalize ((i:Int)==0&&s.within != 0)=d
  cases hc:c != 0
  ·have:c=0:=by simpa using hc
   subst this
   cases a <;> cases b <;> cases d <;> rfl
  ·simp only[YD,hc,Yd]
def xG (p:Prog):pk p=AH p:=by
 rw[pk,AH,RG,BP]
 cases h:outside p.lines 1 16
 ·have hl:1<=p.lines/\p.lines<=16:=by
   simp only[outside,aqx,decide_eq_false_iff_not] at h;omega
  rw[ef p.lines hl.1 hl.2]
  cases h1:((p.steps.length:Int)==0) <;> cases h2:decide ((p.steps.length:Int)>8) <;> rfl
 ·rfl
structure Prog.ok (p:Prog):Prop where
 lines:1<=p.lines/\p.lines<=16
 ne:p.steps≠[]
 few:p.steps.length<=8
 cond:∀s∈p.steps,LK p.lines s.cond 1=0
 tm:∀s∈p.steps,1<=s.times/\s.times<=64
 wi:∀s∈p.steps,0<=s.within/\s.within<=255
 first:∀s,p.steps[0]? = some s->s.within=0
def Uk {n a b:Int}(h:outside n a b=false):a<=n/\n<=b:=by
 simp only[outside,aqx,decide_eq_false_iff_not] at h;omega
def VF {p:Bool}{e x:Int}(he:e≠0)(h:br p e x=0):p=false/\x=0:=by
 cases p
 ·exact⟨rfl,h⟩
 ·exact absurd h he
def Ao {e x:Int}(h:br (e != 0) e x=0):e=0/\x=0:=by
 cases he:e != 0
 ·rw[he,Zp] at h;exact⟨by simpa using he,h⟩
 ·rw[he,Yd] at h;rw[h] at he;cases he
def BO {lines:Int}:∀{l:List Step} {i:Nat},KB lines i l=0->∀s∈l,LK lines s.cond 1=0/\(1<=s.times/\s.times<=64)/\(0<=s.within/\s.within<=255)
 |x::l,i,h,s,hs=>by
  rw[KB] at h;obtain⟨h1,h⟩:=Ao h;obtain⟨h2,h⟩:=VF J h;rcases ap9.1 hs with rfl|hs
  ·simp only[aqx] at h2;exact⟨h1,Uk h2.1.1,Uk h2.1.2⟩
  ·exact BO h s hs
def L8 {p:Prog}(h:AH p=0):p.ok:=by
 rw[AH] at h;obtain⟨h1,h⟩:=Ao h;obtain⟨h2,h⟩:=VF J h;obtain⟨h3,h⟩:=VF J h;have h4:=BO h;refine⟨?_,?_,?_,λs hs=>(h4 s hs).1,λs hs=>(h4 s hs).2.1,λs hs=>(h4 s hs).2.2,?_⟩
 ·rw[RG] at h1;exact Uk (VF (x:=0) (by omega:(3:Int)≠0) h1).1
 ·intro e;rw[e] at h2;cases h2
 ·simp only[decide_eq_false_iff_not] at h3;omega
 ·intro s hs
  cases hp:p.steps with
  |nil=>rw[hp] at hs;cases hs
  |cons x l =>
   rw[hp] at hs h
   cases hs
   rw[KB] at h;obtain⟨_,h⟩:=Ao h;obtain⟨h2,_⟩:=VF J h;simp only[aqx] at h2
   simpa using h2.2
def Prog.ok.known {p:Prog}(h:p.ok):∀s∈p.steps,s.cond.allKnown=true:=λs hs=>(IX _ _ _ (h.cond s hs)).1
mutual
def szR:Z0->Int
 |.mk k a b mi ma p nl kids=>bif (Zs k==.UB||Zs k==.gap)||(Zs k==.idle||Zs k==.setup)||Zs k==.TC then WA (Zs k) (.mk k a b mi ma p nl kids) else ye kids 1
def ye:List Z0->Int->Int
 |[],x=>x
 |c::l,x=>ye l (Js x (szR c))
end
def alA:∀c:Z0,c.fits->ZE U 117 [Zo c]=some (.int .i64 (szR c)):=by
 intro c
 induction c using Z0.ind with
 |h kind a b mi ma pat nl kids ih =>
 intro hf;rw[Z0.fits] at hf;obtain⟨f1,f2,f3⟩:=hf;refine ZP amX It (by simp[ZT,YY]) ?_;have aiP:∀e s,e.get 3=.int .i64 1->e.get 4=.int .i64 0->e.get 1=.ptr 8 0->s.get 8=some (.cells [.str kind,.int .i64 a,.int .i64 b,.int .i64 mi,.int .i64 ma,.str pat,ZU nl (UF kids)] 106 false 0 0)->∀ks,(∀e' s' x,e'.get 3=.int .i64 x->gH U (U7 U [.tmp 2]) ks 1 e' s'=some (.int .i64 x)) ->
   SJ U (U7 U [.tmp 2]) ks GM e s=some (.int .i64 (ye kids 1)):=by
  intro e s h3 h4 h1 hs ks hk;refine Yk (σ:=Nat×Int) (λx=>kids.length-x.1) (λx=>some (AV.int .i64 (ye (kids.drop x.1) x.2))) (λx e s=>x.1<=kids.length/\e.get 3=.int .i64 x.2/\e.get 4=.int .i64 x.1/\e.get 1=.ptr 8 0/\s.get 8=some (.cells [.str kind,.int .i64 a,.int .i64 b,.int .i64 mi,.int .i64 ma,.str pat,ZU nl (UF kids)] 106 false 0 0)) (0,1) ?_ rfl ⟨apW _,h3,h4,h1,hs⟩;clear h3 h4 h1 hs e s;rintro L ⟨i,acc⟩ e s ⟨hi,h3,h4,h1,hs⟩ IH;simp only at hi h3 h4 h1 hs IH ⊢;by_cases hd:i<kids.length
  ·have hx:(UF kids)[i]? = some (Zo kids[i]):=by rw[TU,aaa hd];rfl
   have hw:=ZI hd J;have hc:=ih kids[i] (adm hd) (f3 _ (adm hd));rw[ZH] at hx hc;simp only[Z0.cells] at hx hc;rw[Yz (WK hd)] at hs;simp only[go_sem,GM,h3,h4,h1,hs,Z9,hd,Xw,hx,hc,aef,hw];rw[aea hd,ye];refine IH (i+1,Js acc (szR kids[i])) _ _ (by simp only;omega) ⟨by simp only;omega,?_,?_,?_,?_⟩ <;> simp only[go_sem,h1,hs,Yz (WK hd)]
  ·have:i=kids.length:=J;subst this;simp only[go_sem,GM,h4,h1,hs,ZN,Xw,Z9,ap5];rw[aqi,ye];exact hk _ _ _ (by simp only[go_sem,h3])
 rw[Zo,szR];obtain⟨h0,h1,h2,h3,h4,h5,h6,h7,h8,h9,h10,h11,h12,h13,h14⟩:=Qn kind;generalize Zs kind=d at *
 cases d
 all_goals simp only[reduceCtorEq,decide_true,decide_false] at h1 h2 h3 h4 h5 h6 h7 h8 h9 h10 h11 h12 h13 h14
 all_goals simp only[go_sem,aiQ,h7,h8,h9,h10,h11]
 all_goals first
  |rfl
  |(refine aiP _ _ ?_ ?_ ?_ ?_ _ ?_
    rotate_right 1
    ·intro e' s' x h;simp only[go_sem,h]
    all_goals simp only[go_sem])
end Go.Am
namespace Go.Am
open Go
variable [Z8]
def O5:List Step->Int->Int->Int×Int
 |[],n,x=>(n,x)
 |s::l,n,x=>O5 l (Js n (szR s.cond)) (IntKind.i64.wrap (x+IntKind.i64.wrap (s.times*IntKind.i64.wrap (s.within+1))))
def Kq (p:Prog):Int:=Js (O5 p.steps (IntKind.i64.wrap (2^p.lines.toNat+1)) 0).1 (min (O5 p.steps (IntKind.i64.wrap (2^p.lines.toNat+1)) 0).2 65537)
def c38 (p:Prog)(hf:p.fits)(hl:0<=p.lines/\p.lines<=16):ZE U 55 [XU p]=some (.int .i64 (Kq p)):=by
 obtain⟨lines,nl,steps⟩:=p;obtain⟨f1,f2⟩:=hf;simp only at f1 f2 hl;refine ZP k38 It (by simp[ZT,YK]) ?_;rw[Ze,Kq];simp only[go_sem,r38,Vf U _ _ _ hl];refine Yk (σ:=Nat×Int×Int) (λx=>steps.length-x.1) (λx=>some (AV.int .i64 (Js (O5 (steps.drop x.1) x.2.1 x.2.2).1 (min (O5 (steps.drop x.1) x.2.1 x.2.2).2 65537)))) (λx e s=>x.1<=steps.length/\e.get 3=.int .i64 x.2.1/\e.get 4=.int .i64 x.2.2/\e.get 5=.int .i64 x.1/\e.get 1=.ptr 8 0/\s.get 8=some (.cells [.int .i64 lines,ZU nl (Zy steps)] 31 false 0 0)) (0,IntKind.i64.wrap (2^lines.toNat+1),0) ?_ rfl ?_
 ·rintro L ⟨i,n,x⟩ e s ⟨hi,h3,h4,h5,h1,hs⟩ IH;simp only at hi h3 h4 h5 h1 hs IH ⊢;by_cases hd:i<steps.length
  ·have hx:(Zy steps)[i]? = some (Yy steps[i]):=by rw[Wb,aaa hd];rfl
   have hw:=ZI hd J;have hc:=alA steps[i].cond (f2 _ (adm hd));rw[ZH] at hc;simp only[Z0.cells,Yy] at hx hc;rw[Yz (XV hd)] at hs;simp only[go_sem,tp,h3,h4,h5,h1,hs,Z9,hd,Yo,hx,hc,aef,hw];rw[aea hd,O5];refine IH (i+1,Js n (szR steps[i].cond),IntKind.i64.wrap (x+IntKind.i64.wrap (steps[i].times*IntKind.i64.wrap (steps[i].within+1)))) _ _ (by simp only;omega) ⟨by simp only;omega,?_,?_,?_,?_,?_⟩ <;> simp only[go_sem,h1,hs,Yz (XV hd)]
  ·have:i=steps.length:=J;subst this;simp only[go_sem,tp,h3,h4,h5,h1,hs,ZN,Yo,Z9,ap5,aef];rw[aqi,O5]
 ·refine⟨apW _,?_,?_,?_,?_,?_⟩ <;> simp only[go_sem] <;> rfl
def fR {lines:Int}{k:XJ}{a b mi ma:Int}{p:XJ}{nl:Bool}{kids:List Z0}{d:Int}(h:LK lines (.mk k a b mi ma p nl kids) d=0) :
  O4 lines kids (IntKind.i64.wrap (d+1))=0/\((Yt (Zs k)).mi=true->1<=mi/\mi<=255)/\((Yt (Zs k)).ma=true->1<=ma/\ma<=255):=by
 rw[LK] at h;obtain⟨_,h⟩:=VF J h;obtain⟨hk,h⟩:=VF J h;obtain⟨hu,h⟩:=VF J h;obtain⟨_,h⟩:=VF J h;obtain⟨_,h⟩:=VF J h;obtain⟨hm,h⟩:=VF J h;obtain⟨_,h⟩:=VF J h;obtain⟨_,h⟩:=VF J h;obtain⟨_,h⟩:=VF J h;obtain⟨_,h⟩:=VF J h;obtain⟨_,h⟩:=VF J h;rw[aqx,Bool.and_eq_false_iff,Bool.and_eq_false_iff] at hm;refine⟨h,λh1=>?_,λh1=>?_⟩
 ·rcases hm.1 with h2|h2
  ·rw[h1] at h2;cases h2
  ·exact Uk h2
 ·rcases hm.2 with h2|h2
  ·rw[h1] at h2;cases h2
  ·exact Uk h2
def yf {lines d:Int}:∀{l:List Z0},O4 lines l d=0->∀c∈l,LK lines c d=0
 |c::l,h,x,hx=>by
  rw[O4] at h;obtain⟨h1,h2⟩:=Ao h;rcases ap9.1 hx with rfl|hx
  ·exact h1
  ·exact yf h2 x hx
def ahl (lines:Int):∀(c:Z0) (d:Int),LK lines c d=0->szR c=Dv c/\1<=Dv c/\Dv c<=65537:=by
 intro c
 induction c using Z0.ind with
 |h kind a b mi ma pat nl kids ih =>
 intro d h;obtain⟨hk,Ow⟩:=IX lines _ d h;obtain⟨h1,h2,h3⟩:=fR h;have Xx:=yf h1;have hl:∀(l:List Z0),(∀x∈l,x∈kids)->∀n,1<=n->n<=65537->ye l n=Mq l n/\1<=Mq l n/\Mq l n<=65537:=by
  intro l
  induction l with
  |nil=>intro _ n h1 h2;exact⟨rfl,h1,h2⟩
  |cons c l DB =>
   intro hl n h1 h2;obtain⟨e1,e2,e3⟩:=ih c (hl c (aba ..)) _ (Xx c (hl c (aba ..)));rw[ye,Mq,e1];have hp:n*Dv c<=65537*65537:=Int.mul_le_mul h2 e3 J J;have hp':1*1<=n*Dv c:=Int.mul_le_mul h1 e2 J J;refine DB (λx hx=>hl x (aab _ hx)) _ ?_ ?_
   ·rw[Js,wrap_i64 J J];omega
   ·rw[Js];omega
 have gg:=hl kids (λ_ h=>h) 1 J J;simp only[Z0.allKnown,ahe] at hk;obtain⟨hk,_⟩:=hk;simp only[Z0.kind,Z0.kids] at Ow;rw[szR,Dv];generalize Zs kind=dd at *
 cases dd <;> first|cases hk|skip
 all_goals simp only[Kd.leaf,cond_true,cond_false,BEq.rfl,reduceCtorEq,Bool.or_true,Bool.true_or,WA,Z0.ma,Z0.mi,Yt] at *
 all_goals first
  |(have hn:=Ow trivial;subst hn;refine⟨rfl,J,J⟩)
  |exact gg
  |skip
 all_goals first
  |(have:=h3 trivial;rw[wrap_i64 J J];exact⟨trivial,J,J⟩)
  |(have:=h2 trivial;rw[wrap_i64 J J];exact⟨trivial,J,J⟩)
  |exact⟨trivial,J,J⟩
def yd {lines:Int}:∀(l:List Step),(∀s∈l,LK lines s.cond 1=0/\(1<=s.times/\s.times<=64)/\(0<=s.within/\s.within<=255))->∀(n x:Int) (k:Nat),1<=n->n<=65537->0<=x->x<=16384*(k:Int)->k+l.length<=8 ->
  O5 l n x=Ww l n x/\1<=(Ww l n x).1/\(Ww l n x).1<=65537/\0<=(Ww l n x).2/\(Ww l n x).2<=131072
 |[],_,n,x,k,h1,h2,h3,h4,h5=>⟨rfl,h1,h2,h3,by simp only[Ww];omega⟩
 |s::l,hs,n,x,k,h1,h2,h3,h4,h5=>by
  obtain⟨c1,c2,c3⟩:=hs s (aba ..);obtain⟨e1,e2,e3⟩:=ahl lines s.cond 1 c1;have hp:n*Dv s.cond<=65537*65537:=Int.mul_le_mul h2 e3 J J;have hp':1*1<=n*Dv s.cond:=Int.mul_le_mul h1 e2 J J;have hw:IntKind.i64.wrap (s.within+1)=s.within+1:=wrap_i64 J J;have ht:s.times*(s.within+1)<=64*256:=Int.mul_le_mul c2.2 J J J;have qn:0<=s.times*(s.within+1):=Int.mul_nonneg J J;rw[O5,Ww,e1,hw,wrap_i64 (n:=s.times*(s.within+1)) J J,wrap_i64 (n:=x+s.times*(s.within+1)) (by simp only[ap1] at h5;omega) (by simp only[ap1] at h5;omega)];simp only[ap1] at h5;refine yd l (λy hy=>hs y (aab _ hy)) _ _ (k+1) ?_ ?_ J J J
  ·rw[Js,wrap_i64 J J];omega
  ·rw[Js];omega
def size_eq {p:Prog}(h:p.ok):Kq p=QL p:=by
 have hl:=h.lines;have hp:(2:Int)^p.lines.toNat<=2^16:=by
  have h2:(2:Nat)^p.lines.toNat<=2^16:=Nat.pow_le_pow_right J J
  exact_mod_cast h2
 have iU:(0:Int)<=2^p.lines.toNat:=Int.pow_nonneg J;have hw:IntKind.i64.wrap (2^p.lines.toNat+1)=2^p.lines.toNat+1:=wrap_i64 J J;obtain⟨e1,e2,e3,e4,e5⟩:=yd (lines:=p.lines) p.steps (λs hs=>⟨h.cond s hs,h.tm s hs,h.wi s hs⟩) (2^p.lines.toNat+1) 0 0 J J J J (by have:=h.few;omega);rw[Kq,QL,hw,e1];generalize (Ww p.steps (2^p.lines.toNat+1) 0).1=n at *;generalize (Ww p.steps (2^p.lines.toNat+1) 0).2=x at *;have b1:n*x<=65537*131072:=Int.mul_le_mul e3 e5 J J;have b0:0<=n*x:=Int.mul_nonneg J J;rw[Js,Js];rcases Int.le_total x 65537 with hx|hx
 ·rw[Int.min_eq_left hx]
 ·rw[Int.min_eq_right hx];have b2:1*65537<=n*65537:=Int.mul_le_mul e2 J J J;have b3:1*65537<=n*x:=Int.mul_le_mul e2 hx J J;rw[wrap_i64 J J,wrap_i64 J J];omega
def ahx:RC:=(sO [o 4 (.Qq (.v .Tz))] (sO [om 5 0,Zk 6 147 5] (sO [om 7 0,om 8 0,X5 9 8,ZO 10 1 9,ZX 11 10,om 12 1,o 13 (.Uc 5 1 1 [(.int .u8 0)] [(0,1,(.t 12))]),VN 14 5 1 1 11 13,X5 15 7,ZO 16 1 15,YC 1 16 14] (sO [o 4 (.Qq (.v .Tz))] .ret))))
def alJ:Zm 78=some ([.tmp 4],ahx):=It
def wY (n:Nat):XJ:=if n<10 then [UInt8.ofNat (48+n)] else wY (n / 10)++[UInt8.ofNat (48+n%10)]
termination_by n
decreasing_by omega
def Lr {n:Nat}(h:n<10):wY n=[UInt8.ofNat (48+n)]:=by rw[wY,Of h]
def wX {n:Nat}(h:¬n<10):wY n=wY (n / 10)++[UInt8.ofNat (48+n%10)]:=by rw[wY,O3 h]
def dg (n:Int):XJ:=wY n.toNat
end Go.Am
