/- A part of the proof. -/
import Derived.Test.YtkmaeondbkpajaaGreatDoorE33
import Derived.Test.YtkmaeondbkpajaaGreatDoorE32
set_option linter.all false
set_option maxHeartbeats 8000000
set_option maxRecDepth 100000
namespace Go.Am
open Go
variable [Z8]
variable {ks:List K}{e:Env}{s:St}
def ct (t:TypeId)(cst:Bool){L:Nat}(hL:L=1\/L=2)(a:Int)(h0:0<=a)(h1:a<2^62):Xj U .and t cst (.int .i64 a) (.int .i64 (2^L-1))=some (.int .i64 (a%2^L)):=by
 rcases hL with rfl|rfl
 ·exact JQ t cst a h0 h1
 ·show Xj U .and t cst (.int .i64 a) (.int .i64 3)=some (.int .i64 (a%4));simp only[Xj,if_true,Oj];have h2:IntKind.i64.bits=64:=rfl;rw[h2];have:((BitVec.ofInt 64 a &&& BitVec.ofInt 64 3).toNat:Int)=a%4:=by
   rw[BitVec.toNat_and,BitVec.toNat_ofInt,BitVec.toNat_ofInt];have e1:(3%((2^64:Nat):Int)).toNat=3:=by decide
   have e2:(a%((2^64:Nat):Int)).toNat=a.toNat:=by
    rw[Int.emod_eq_of_lt h0 J]
   have e3:=Nat.and_two_pow_sub_one_eq_mod a.toNat 2;rw[e1,e2];have e4:a.toNat &&& 3=a.toNat%4:=e3;rw[e4];omega
  rw[this,wrap_i64] <;> omega
structure StA (p o:Prog)(s:St):Prop where
 g8:s.get 8=some (.cells [.int .i64 p.lines,ZU p.nl (Zy p.steps)] 31 false 0 0)
 g9:s.get 9=some (.cells [.int .i64 o.lines,ZU o.nl (Zy o.steps)] 31 false 0 0)
 nx:10<=s.next
 fr:Fr s
def StA.mono {p o:Prog}{s s':St}(h:StA p o s)(hn:s.next<=s'.next)(hf:Fr s')(hg:∀j,j<10->s'.get j=s.get j):StA p o s' :=
 ⟨(hg 8 J).trans h.g8,(hg 9 J).trans h.g9,aqM h.nx hn,hf⟩
section
variable {p o:Prog}{L n:Nat}(hL:L=1\/L=2)(Tp:p.lines=(L:Nat))(hn:L*n<=6)
include hL Tp hn
def abn {fin:Fl->Option AV}{r:Option AV}(gs:StA p o s)
  (g3:e.get 3=.ptr 8 0)(g7:e.get 7=.int .i64 1)(wZ:e.get 15=.int .i64 (n:Nat))(Ny:e.get 16=.int .i64 0)
  (hk:∀e' tt,tt<=64->(∀t:Nat,t<7->e'.get t=e.get t)->e'.get 7=.int .i64 ((tt:Nat):Int)->goN U fin ks e' s=r) :
  SJ U fin (.bk 0::ks) KO e s=r:=by
 refine YT (σ:=Nat) (ZC:=λ(x:Option AV)=>x=r) (λi=>n-i) (λi e' s'=>s'=s/\i<=n/\(∀t:Nat,t<7\/t=15->e'.get t=e.get t)/\e'.get 7=.int .i64 ((2^(L*i):Nat):Int)/\e'.get 16=.int .i64 (i:Nat)) 0 ?_ ⟨rfl,apW _,λ_ _=>rfl,g7,Ny⟩;rintro Lp i e' s' ⟨rfl,hi,hold,q7,q16⟩ IH;have q3:=(hold 3 J).trans g3;have q15:=(hold 15 J).trans wZ;have g8:=gs.g8;have hle:∀i,i<=n->2^(L*i)<=64:=λi hi=>Nat.pow_le_pow_right (n:=2) J (show L*i<=6 from aqM (Nat.mul_le_mul_left L hi) hn)
 by_cases hd:i<n
 ·have hn6:n<=6:=by rcases hL with rfl|rfl <;> omega
  have hw:=ZI hd J;have h64:=hle (i+1) hd;have hmul:((2^(L*i):Nat):Int)*2^L=((2^(L*(i+1)):Nat):Int):=by
   rw[Nat.mul_add,ap3,Nat.pow_add];push_cast;rfl
  have hwm:IntKind.i64.wrap (((2^(L*i):Nat):Int)*2^L)=((2^(L*(i+1)):Nat):Int):=by
   rw[hmul];generalize 2^(L*(i+1))=y at h64;rw[wrap_i64] <;> omega
  have SI:=Vf U 3 true .i64 (n:=p.lines) (by rw[Tp];rcases hL with rfl|rfl <;> omega);rw[show p.lines.toNat=L by rw[Tp];rfl] at SI;simp only[go_sem,KO,q3,q7,q15,q16,g8,Z9,hd,SI,hwm,hw];refine IH (i+1) _ _ J ⟨rfl,J,λt ht=>?_,?_,?_⟩
  ·have ZB:∀k:Nat,16<=k->(k=t)=False:=λk hk=>F_
   have h7:(7=t)=False:=F_;simp only[go_sem,ZB,h7];exact hold t ht
  all_goals simp only[go_sem]
 ·have G5:i=n:=J;subst G5;simp only[go_sem,KO,q15,q16,Z9,ap5];refine hk _ (2^(L*i)) (hle i hi) (λt ht=>?_) ?_
  ·have ZB:∀k:Nat,16<=k->(k=t)=False:=λk hk=>F_
   simp only[go_sem,ZB];exact hold t (.inl ht)
  ·simp only[go_sem,q7]
def abm {fin:Fl->Option AV}{r:Option AV}{q:Nat}(hq:q<=64)(H:StA p o s)
  (g3:e.get 3=.ptr 8 0)(g8:e.get 8=.int .i64 (q:Nat))(g9:e.get 9=.ZQ)(g28:e.get 28=.int .i64 (n:Nat))(g29:e.get 29=.int .i64 0)
  (hk:∀e' s' l v,StA p o s'->l.length=n->(∀x∈l,0<=x/\x<(2:Int)^L)->ZD s' 10 3 1 l.length (ints l) v->(∀t:Nat,t<8\/t=24\/t=25->e'.get t=e.get t)->e'.get 9=v->goN U fin ks e' s'=r) :
  SJ U fin (.bk 4::ks) KN e s=r:=by
 refine YT (σ:=Nat) (ZC:=λ(x:Option AV)=>x=r) (λi=>n-i) (λi e' s'=>StA p o s'/\i<=n/\(∀t:Nat,t<9\/t=24\/t=25\/t=28->e'.get t=e.get t)/\e'.get 29=.int .i64 (i:Nat) /\
  ∃(l:List Int) (v:AV),e'.get 9=v/\l.length=i/\(∀x∈l,0<=x/\x<(2:Int)^L)/\ZD s' 10 3 1 l.length (ints l) v) 0 ?_ ⟨H,apW _,λ_ _=>rfl,g29,[],.ZQ,g9,rfl,λx hx=>(by cases hx),ZD.nil _ _ _ _⟩
 rintro Lp i e' s' ⟨H',hi,hold,DQ,l,v,q9,hl,hlx,hv⟩ IH;have q3:=(hold 3 J).trans g3;have q8:=(hold 8 J).trans g8;have At:=(hold 28 J).trans g28;have hn6:n<=6:=by rcases hL with rfl|rfl <;> omega
 by_cases hd:i<n
 ·have hw:=ZI hd J;have hle:L*i<=6:=aqM (Nat.mul_le_mul_left L hi) hn;have hwm:IntKind.i64.wrap ((i:Int)*p.lines)=((L*i:Nat):Int):=by
   rw[Tp,Int.mul_comm,<-Int.natCast_mul,wrap_i64] <;> omega
  have ajz:=Gy 3 false (q:Int) ((L*i:Nat):Int) J J;rw[aqt] at ajz;have SI:=Vf U 3 true .i64 (n:=p.lines) (by rw[Tp];rcases hL with rfl|rfl <;> omega);rw[show p.lines.toNat=L by rw[Tp];rfl] at SI;have apJ:(2:Int)^L=2\/(2:Int)^L=4:=by rcases hL with rfl|rfl <;> simp
  have hws:IntKind.i64.wrap ((2:Int)^L-1)=2^L-1:=by rw[wrap_i64] <;> omega
  have hdv:=zR (L*i) (show (0:Int)<=(q:Int) by omega);have hand:=ct 3 false hL ((q:Int) / 2^(L*i)) hdv.1 J;generalize hx:(q:Int) / 2^(L*i)%2^L=x at hand;have tP:0<=x/\x<2^L:=by
   rw[<-hx];exact⟨Int.emod_nonneg _ J,Int.emod_lt_of_pos _ J⟩
  have Oi:=hv.WV;have Pq:=hv.Zu;have TV:(l.length+1)*8<=1099511627776:=J;have U5:l.length+1<=1099511627776:=J;have gs:=H'.g8;have Ps:=H'.fr.at;have Vq:=H'.nx;have ne:∀a k,a<=9->(s'.next+k=a)=False:=λa k ha=>F_
  simp only[go_sem,KN,q3,q8,q9,At,DQ,gs,Z9,hd,hwm,ajz,SI,hws,hand,Ps,Zx,Nat.reducePow,aqP,Oi,TV,U5];have hN:∀W,((s'.upto (s'.next+15)).put (s'.next+12) W).next=s'.next+15:=λW=>by rw[Z_,Z6]
  have hG:∀W j,j<s'.next->((s'.upto (s'.next+15)).put (s'.next+12) W).get j=s'.get j:=λW j hj=>by rw[Z7,O3 J,ZR]
  have hF:∀W,Fr ((s'.upto (s'.next+15)).put (s'.next+12) W):=λW=>(H'.fr.upto J).put O0 _
  have D0:∀W,ZD ((s'.upto (s'.next+15)).put (s'.next+12) W) 10 3 1 l.length (ints l) v:=λW=>hv.mono (by rw[hN];omega) λj _ hj=>hG W j hj
  obtain⟨s1,e1,e2,e3,e4,e5⟩:=(D0 (.cells [.int .i64 x] 3 false 0 0)).app (by rw[hN];omega) (m:=1) (new:=[.int .i64 x]) J (by rfl) (by rfl);rw[hN] at e1 e2 e3;have lh:∀j,j<10->s1.get j=s'.get j:=λj hj=>(e4 j hj).trans (hG _ j J)
  have hL1:l.length+1=(l++[x]).length:=by simp
  have hI1:ints l++[.int .i64 x]=ints (l++[x]):=by rw[ints,ints,aqf];rfl
  rw[e1];simp only[go_sem,DQ,hw];rw[hI1,hL1] at e3;refine IH (i+1) _ _ J ⟨H'.mono J (e5 (hF _)) λj hj=>lh j J,J,λt ht=>?_,?_,l++[x],_,?_,by rw[<-hL1,hl],λy hy=>?_,e3⟩
  ·have ZB:∀k:Nat,29<=k->(k=t)=False:=λk hk=>F_
   have h9:(9=t)=False:=F_;have h10:(10=t)=False:=F_;simp only[go_sem,ZB,h9,h10];exact hold t ht
  ·simp only[go_sem]
  ·simp only[go_sem,hL1]
  ·rcases aqm.1 hy with h|h
   ·exact hlx y h
   ·rw[apY] at h;rw[h];exact tP
 ·have G5:i=n:=J;subst G5;simp only[go_sem,KN,At,DQ,Z9,ap5];refine hk _ _ l v H' hl hlx hv (λt ht=>?_) ?_
  ·have ZB:∀k:Nat,29<=k->(k=t)=False:=λk hk=>F_
   simp only[go_sem,ZB];exact hold t J
  ·simp only[go_sem,q9]
end
end Go.Am
namespace Go.Am
open Go
variable [Z8]
structure amO (p o:Prog)(T:List Int->List Int)(L n:Nat):Prop where
 p25:ZE U 25 [XU p]=some (XU p.norm)
 o25:ZE U 25 [XU o]=some (XU o.norm)
 p18:∀l s B v,l.length=n->(∀x∈l,0<=x/\x<(2:Int)^L)->ZD s B 3 1 l.length (ints l) v->Yx U (ZE U 18 [XU p.norm,v]) 18 [XU p.norm,v] s=some (.XQ [ZU true (ints (T l)),.int .i64 0],s)
 o18:∀l s B v,l.length=n->(∀x∈l,0<=x/\x<(2:Int)^L)->ZD s B 3 1 l.length (ints l) v->Yx U (ZE U 18 [XU o.norm,v]) 18 [XU o.norm,v] s=some (.XQ [ZU true (ints (T l)),.int .i64 0],s)
 len:∀l,(T l).length<=l.length
section
variable {p o:Prog}{L n:Nat}(hL:L=1\/L=2)(Tp:p.lines=(L:Nat))(hn:L*n<=6){T:List Int->List Int}(C:amO p o T L n)
include hL Tp hn C
def abl {ks:List K}{r:Option AV}{e:Env}{s:St}{tt:Nat}(htt:tt<=64)(H:StA p o s)
  (g2:e.get 2=.int .i64 (n:Nat))(g3:e.get 3=.ptr 8 0)(g4:e.get 4=.ptr 9 0)(g24:e.get 24=.int .i64 (tt:Nat))(g25:e.get 25=.int .i64 (0:Nat))
  (hk:∀e' s',goN U (U7 U [.tmp 6]) ks e' s'=r) :
  SJ U (U7 U [.tmp 6]) (.bk 2::ks) KM e s=r:=by
 refine YT (σ:=Nat) (ZC:=λ(x:Option AV)=>x=r) (λi=>tt-i) (λi e' s'=>StA p o s'/\i<=tt/\(∀t:Nat,t=2\/t=3\/t=4\/t=24->e'.get t=e.get t)/\e'.get 25=.int .i64 (i:Nat)) 0 ?_ ⟨H,apW _,λ_ _=>rfl,g25⟩;rintro Lp i e' s' ⟨H',hi,hold,q25⟩ IH;have q2:=(hold 2 J).trans g2;have q3:=(hold 3 J).trans g3;have q4:=(hold 4 J).trans g4;have q24:=(hold 24 J).trans g24;by_cases hd:i<tt
 ·have hw:=ZI hd J;simp only[go_sem,KM,q2,q24,q25,Z9,hd];refine abm hL Tp hn (q:=i) J H' ?_ ?_ ?_ ?_ ?_ ?_
  case refine_6 =>
   intro e2 s2 l v H2 hl hlx hv Ol p9;have E2:∀t:Nat,t=2\/t=3\/t=4\/t=24\/t=25->e2.get t=e'.get t:=λt ht=>by
    rw[Ol t J];have ZB:∀k:Nat,26<=k->(k=t)=False:=λk hk=>F_
    have h8:(8=t)=False:=F_;have h9:(9=t)=False:=F_;simp only[go_sem,ZB,h8,h9]
   have p3:=(E2 3 J).trans q3;have p4:=(E2 4 J).trans q4;have p25:=(E2 25 J).trans q25;have aiE:=C.p25;have aiF:=C.o25;have amP:=C.p18 l s2 10 v hl hlx hv;have amQ:=C.o18 l s2 10 v hl hlx hv;have h56:=c56 true true (T l) (T l) (by
    have:=C.len l;have:n<=6:=by (rcases hL with rfl|rfl <;> omega)
    omega)
   rw[Ri] at h56;have g8:=H2.g8;have g9:=H2.g9;rw[Ze p] at aiE;rw[Ze o] at aiF;have w0:IntKind.i64.wrap 0=0:=wrap_zero;have h00:((0:Int) != 0)=false:=rfl;generalize XU p.norm=PN at *;generalize XU o.norm=ON at *;simp only[go_sem,qj,p3,p4,p9,p25,g8,g9,aiE,aiF,amP,amQ,h56,w0,h00,hw];refine IH (i+1) _ _ J ⟨?_,J,λt ht=>?_,?_⟩
   ·first|exact H2|(refine H2.mono ?_ ?_ λj hj=>?_ <;> first|(simp only[Z6];omega)|exact H2.fr.upto J|exact ZR ..)
   ·have ZB:∀k:Nat,25<=k->(k=t)=False:=λk hk=>F_
    have h11:(11=t)=False:=F_;have h12:(12=t)=False:=F_;have h13:(13=t)=False:=F_;have h14:(14=t)=False:=F_;simp only[go_sem,ZB,h11,h12,h13,h14];exact (E2 t J).trans (hold t ht)
   ·simp only[go_sem]
  all_goals simp only[go_sem,q3]
  all_goals rfl
 ·have G5:i=tt:=J;subst G5;simp only[go_sem,KM,q24,q25,Z9,ap5];exact hk _ _
def aiG (zw:o.lines=(L:Nat)):ZE U 33 [XU p,XU o,.int .i64 (n:Nat)]=some (.bool true):=by
 refine ZP agQ It (by simp[ZT,YK,still]) ?_;rw[Ze p,Ze o];have nn1:=ZV p.nl (Zy p.steps);have nn2:=ZV o.nl (Zy o.steps);have cn1:=ZK p.nl (Zy p.steps);have cn2:=ZK o.nl (Zy o.steps);simp only[go_sem,ac0];have H:StA p o (((Ym U).new (.cells [.int .i64 p.lines,ZU p.nl (Zy p.steps)] 31 false 0 0)).new (.cells [.int .i64 o.lines,ZU o.nl (Zy o.steps)] 31 false 0 0)):=by
  refine⟨?_,?_,?_,(Fr.own.new _).new _⟩
  all_goals simp only[go_sem]
  all_goals first|rfl|decide
 refine abn hL Tp hn H ?_ ?_ ?_ ?_ ?_
 case refine_5 =>
  intro e' tt htt h1 h7;simp only[go_sem,h7];refine abl hL Tp hn C htt H ?_ ?_ ?_ ?_ ?_ ?_
  case refine_6 =>
   intro e2 s2;simp only[go_sem]
  all_goals simp only[go_sem]
  all_goals first|rfl|(rw[h1 2 J];simp only[go_sem])|(rw[h1 3 J];simp only[go_sem])|(rw[h1 4 J];simp only[go_sem])
 all_goals simp only[go_sem]
 all_goals rfl
end
end Go.Am
namespace Go.Am
open Go
variable [Z8]
variable {β:Type}{fin:Fl->β}{ks:List K}{ZC:β->Prop}{e:Env}{s:St}{v:AV}{L:List Nat}{k:Nat}
def Iv {nx:Nat->Nat}{i:Nat}:∀(r x:Nat) (cs st:List Nat) (T:List Yb),cs.length=r->T.map (·.1)=List.range st.length->(∀z,z<r->nx (x+z)=(YW id cs st).2.getD z 0) ->
  ∃o,(X6 nx (λ_=>true) i r x T)=o/\o.2=none/\o.1.map (·.1)=List.range (YW id cs st).1.length
 |0,x,cs,st,T,hl,hT,h=>by
  have:cs=[]:=aqo.1 hl;subst this;exact⟨_,rfl,rfl,hT⟩
 |r+1,x,[],st,T,hl,hT,h=>by simp at hl
 |r+1,x,c::cs,st,T,hl,hT,h=>by
  have DY:cs.length=r:=by simpa using hl
  have h0:=h 0 J;rw[Nat.add_zero] at h0;refine⟨_,rfl,?_⟩;rw[X6,cond_true,hT];rw[YW] at h0 ⊢
  cases TD:decide (WR (st.map id) (id c)<st.length) with
  |true =>
   rw[TD,cond_true] at h0;have h0:nx x=WR (st.map id) (id c):=h0;rw[h0,decide_eq_true (aqg.2 (of_decide_eq_true TD)),cond_true,cond_true];obtain⟨o,e1,e2,e3⟩:=Iv (i:=i) r (x+1) cs st T DY hT λz hz=>by
    have:=h (z+1) J;rw[YW,TD,cond_true,show x+(z+1)=x+1+z by omega] at this;exact this
   rw[e1];exact⟨e2,e3⟩
  |false =>
   rw[TD,cond_false] at h0;have h0:nx x=st.length:=h0;have hni:st.length∉List.range st.length:=by simp
   rw[h0,decide_eq_false hni,cond_false,cond_false];obtain⟨o,e1,e2,e3⟩:=Iv (i:=i) r (x+1) cs (st++[c]) (T++[(st.length,i,x)]) DY (by rw[aqf,hT,ann,aqh,List.range_succ];rfl) λz hz=>by
    have:=h (z+1) J;rw[YW,TD,cond_false,show x+(z+1)=x+1+z by omega] at this;exact this
   rw[e1];exact⟨e2,e3⟩
def Bw {A:Fa}{row:Nat->List Nat}(TK:∀s,(row s).length=A.m):∀(f i:Nat) (st:List Nat) (T:List Yb),T.map (·.1)=List.range st.length->(∀j x (h:j<(Vs id row f i st).length),x<A.m->A.nx (i+j) x=(Vs id row f i st)[j].2.getD x 0) ->
  ∃k,(Sx A (λ_ _=>true) f i T).1.map (·.1)=List.range k
 |0,i,st,T,hT,_=>⟨_,hT⟩
 |f+1,i,st,T,hT,h=>by
  have hlen:T.length=st.length:=by
   have:=congrArg List.length hT
   rwa [ala,aqR] at this
  rw[Sx]
  cases ht:T[i]? with
  |none=>exact⟨_,hT⟩
  |some t =>
   have DR:=(apX.1 ht).1;have hs:st[i]? = some st[i]:=aaa J;have ht1:t.1=i:=by
    have h1:(T.map (·.1))[i]? = some t.1:=by rw[aqc,ht];rfl
    rw[hT,List.getElem?_range J] at h1;exact (aqb h1).symm
   have e:Vs id row (f+1) i st=(st[i],(YW id (row st[i]) st).2)::Vs id row f (i+1) (YW id (row st[i]) st).1:=by
    rw[Vs,hs]
   obtain⟨o,e1,e2,e3⟩:=Iv (i:=i) (nx:=A.nx t.1) A.m 0 (row st[i]) st T (TK _) hT λz hz=>by
    have:=h 0 z (by rw[e];simp) hz;simp only[e,List.getElem_cons_zero] at this;rw[ht1,ap4];exact this
   simp only[e1];obtain⟨T',z⟩:=o;simp only at e2 e3;subst e2;simp only;refine Bw TK f (i+1) (YW id (row st[i]) st).1 T' e3 λj x hj hx=>?_
   have Dq:j+1<(Vs id row (f+1) i st).length:=by rw[e];simp;exact hj
   have:=h (j+1) x Dq hx;simp only[e,List.getElem_cons_succ] at this;rw[show i+1+j=i+(j+1) by omega];exact this
def aom {a:Zv}(ha:a.ok)(Jx:ZS a=a):∃k,(Yw a.fa λ_ _=>true).1.map (·.1)=List.range k:=by
 have hn:a.fa.n+1=a.fa.n+1:=rfl;refine Bw (A:=a.fa) (row:=λc=>(XR a.fa c).map (Zb a.fa)) (λs=>by rw[ala,JK]) (a.fa.n+1) 0 [Zb a.fa 0] [(0,0,0)] rfl λj x hj hx=>?_
 have hj:j<(VJ a.fa).length:=hj;rw[ap4];have e:a.fa.nx j x=(ZS a).fa.nx j x:=by rw[Jx]
 rw[e];show (((ZS a).next.getD j (true,[])).2.getD x 0).toNat=_;have hl:j<(ZS a).next.length:=by simp only[ZS,ala];exact hj
 rw[Y' hl];simp only[ZS,List.getElem_map];have:(Ur (VJ a.fa)[j].2).getD x 0=(((VJ a.fa)[j].2.getD x 0:Nat):Int):=by
  unfold Ur;rw[ap6,aqc,ap6]
  cases (VJ a.fa)[j].2[x]? <;> rfl
 rw[this];rfl
def zI {a:Zv}(ha:a.ok)(Jx:ZS a=a):(Sp a a).Pairwise (·<·):=by
 obtain⟨k,hk⟩:=aom ha Jx;unfold Sp Xz;rw[wK ha];simp only[Oy,aqY];have e:(Yw a.fa λ_ _=>true).1.map ((λt:Yb=>t.1)∘λt=>(t.1*a.fa.n+t.1,t.2.1,t.2.2))=((Yw a.fa λ_ _=>true).1.map (·.1)).map λs=>s*a.fa.n+s:=by
  rw[aqY];rfl
 rw[e,hk,List.pairwise_map];refine List.Pairwise.imp (λ{x y} h=>?_) List.pairwise_lt_range;have:x*a.fa.n<=y*a.fa.n:=aqC _ J;omega
def Ob.xQ {bS mm mb nb N:Nat}{L:List PN}{E:List (PN×AV)}{pv:AV}(h:Ob s bS mm mb nb N L E pv){j:Nat}(hj:j<N):¬Ml 5 pv j:=by
 rintro⟨n,cap,rfl⟩;rcases h.row with⟨_,h,_⟩|⟨_,_,b,h1,h2,h3,_⟩
 ·cases h
 ·cases h3;omega
def Ob.mono {s s':St}{bS mm mb nb N:Nat}{L:List PN}{E:List (PN×AV)}{pv:AV}(h:Ob s bS mm mb nb N L E pv)(hn:s.next<=s'.next)(hg:∀j,j<s.next->s'.get j=s.get j):Ob s' bS mm mb nb N L E pv:=by
 obtain⟨n1,n2,n3,n4,n5⟩:=h.lt;exact⟨h.fst,λp hp=>(h.vs p hp).keep λc hc=>by rw[hg _ J];exact hc,by rw[hg _ J];exact h.map,by rw[hg _ J];exact h.yK,by rw[hg _ J];exact h.Vy,h.row.mono hn λj _ h2=>hg j h2,J⟩
noncomputable def Ee:RC:=(sO [Zw 71 2 1,ZO 72 1 10,Zw 73 3 72,Nw 74 16,Og 75 70 71 73 74,Nw 70 75,YN 76 70 0,YN 77 70 1,wV 17 0 0 0 133,YC 3 17 76,Nw 18 77] (oP [Nw 78 11,Nw 79 7,Nw 80 15,Zw 81 3 17,Nw 82 13,o 83 (.RR [.ZQ,(iI 0),(iI 0),(iI 0),(iI 0)] [(0,1,(.t 80)),(1,3,(.t 81)),(4,1,(.t 82))]),Fc 84 79 83,PE 85 3 1 1 0 0 1 84,VN 86 3 1 8 78 85,Nw 87 12,Nw 88 18,o 89 (.Uc 4 1 1 [bF] [(0,1,(.t 88))]),VN 90 4 1 1 87 89,Nw 11 86,Nw 12 90]))
def Ll:Gz=(.seq (.ops [o 49 (.bin .lss 3 false (.t 48) (.t 47))]) (.seq (.cond (.t 49) .skip (.exit 2)) (.seq (.block 3 (.seq (.ops [o 50 (.Qq (.t 48)),o 13 (.Qq (.t 50))]) (.seq (.ops [o 51 (.Qq (.t 13)),o 52 (.fa 4 (.t 10)),o 53 (.Sr (.t 52)),o 54 (.fa 4 (.t 10)),o 55 (.Sr (.t 54)),o 56 (.bin .lss 3 true (.t 55) (.v (.int .i64 0))),o 57 (.RR [(.int .i64 0),(.int .i64 0),(.bool false)] [(0,1,(.t 51)),(1,1,(.t 53)),(2,1,(.t 56))]),o 14 (.al [(.int .i64 0),(.int .i64 0),(.bool false)] 137),oS (.st 3 (.t 14) (.t 57))]) (.seq (.seq (.ops [o 58 (.fa 2 (.t 14)),o 59 (.Sr (.t 58))]) (.cond (.t 59) (.ops [o 60 (.Qq (.t 13)),o 61 (.fa 1 (.t 14)),oS (.st 1 (.t 61) (.t 60))]) .skip)) (.seq (.ops [o 63 (.Mx 3 (.t 3)),o 64 (.fa 0 (.t 10)),o 65 (.Sr (.t 64)),o 66 (.Mx 3 (.t 14)),o 67 (.call 69 [(.t 63),(.t 65),(.t 66)]),o 62 (.Qq (.t 67)),o 68 (.ext (.t 62) 0),o 69 (.ext (.t 62) 1),o 15 (.Qq (.t 68)),o 16 (.Qq (.t 69))]) Ee))))) (.ops [o 91 (.bin .add 3 true (.t 48) (.v (.int .i64 1))),o 48 (.Qq (.t 91))])))):=by
 unfold Gz Ee;rfl
def aka {lines:Int}{sp:AV}{bs:List Bool}{z x0:PN}{bz:Bool}{bS m q y B:Nat}{L':List PN}{E':List (PN×AV)}{SD w1 w2 V:AV}{a1:List Nat}{a2:List Bool}
  (Ft:ZE U 70 [.agg [.int .i64 lines,sp],.agg [.int .i64 x0.cur.1,.int .i64 x0.cur.2.1,.int .i64 x0.cur.2.2],ZU true (Zt bs)]=some (.XQ [.agg [.int .i64 z.cur.1,.int .i64 z.cur.2.1,.int .i64 z.cur.2.2],.bool bz]))
  (hpz:PB z)(hzl:z.last=(y:Int))(hL:∀x∈L',PB x)(hlen:L'.length<=2^20)(hy:y<=65536)(h8m:8<m)
  (g1:e.get 1=.ptr 8 0)(g7:e.get 7=.fn (.func 132) [] [.ptr (m+2) 0,.ptr (m+3) 0])(Cj:e.get 10=.ptr q 0)(uK:e.get 11=w1)(Jj:e.get 12=w2)(yU:e.get 13=.int .i64 (y:Nat))(wZ:e.get 15=.fz (ints z.YI))(Ny:e.get 16=ZU true (Zt bs))
  (u8:s.get 8=some (.cells [.int .i64 lines,sp] 25 false 0 0))(uq:s.get q=some (.cells (Vy x0 V) 210 false 0 0))(hq:q<s.next)(hN:Ob s bS (m+1) (m+2) (m+3) (m+4) L' E' SD)(uI:ZD s B 3 1 y (Zz a1) w1)(LO:ZD s B 4 1 y (Zt a2) w2)(hB:m+4<=B/\B<=s.next)(fr:Fr s)
  (hk:∀e' s' E2 DU w1' w2',(∀t:Nat,t<50->t≠11->t≠12->t≠17->t≠18->e'.get t=e.get t)->Ob s' bS (m+1) (m+2) (m+3) (m+4) (Ry L' z) E2 DU->e'.get 11=w1'->ZD s' B 3 1 (y+1) (Zz (a1++[Wm L' z])) w1'->e'.get 12=w2'->ZD s' B 4 1 (y+1) (Zt (a2++[bz])) w2' ->
   (∀j,j<B->j≠m+1->j≠m+3->¬Ml 5 SD j->s'.get j=s.get j)->s.next<=s'.next->(∀j,Ml 5 DU j->Ml 5 SD j\/s.next<=j)->Fr s'->ZC (goN U fin ks e' s')) :
  ZC (go U fin ks Ee e s):=by
 have f1:(s.next=8)=False:=by have:=hN.lt;simp;omega
 unfold Vy at uq;obtain⟨S,AY⟩:∃S,S=(s.new (.cells [.int .i64 0,.int .i64 0,.int .i64 0] 133 false 0 0)).put s.next (.cells [.int .i64 z.cur.1,.int .i64 z.cur.2.1,.int .i64 z.cur.2.2] 133 false 0 0):=⟨_,rfl⟩;have DX:S.next=s.next+1:=by rw[AY,Z_,Z']
 have kS:∀j,j<s.next->S.get j=s.get j:=λj h1=>by rw[AY,Z7,O3 J,Z5,O3 J]
 have Jh:Fr S:=by rw[AY];exact (fr.new _).put O0 _
 have hNS:=hN.mono (s':=S) J kS;obtain⟨s2,E2,DU,r1,r2,r3,r4,r5,r6,r7⟩:=aj3 hNS hL hlen hpz (V:=.fz (ints z.YI)) (.inl rfl) Jh;rw[YJ] at r1;unfold Vy at r1;rw[hzl] at r1;have adA:ZD s2 B 3 1 y (Zz a1) w1:=uI.So J λj c h1 h2 _=>r5 j _ _ _ _ (by rw[kS j h2];exact h1) J Mo Mo
 have adB:ZD s2 B 4 1 y (Zt a2) w2:=LO.So J λj c h1 h2 _=>r5 j _ _ _ _ (by rw[kS j h2];exact h1) J Mo Mo
 have Da:=adA.WV;have IY:=adB.WV;have TV:(y+1)*8<=1099511627776:=J;have U5:y+1<=1099511627776:=J;have zo:(y+1)*1<=1099511627776:=J;simp only[go_sem,Ee,g1,g7,Cj,uK,yU,wZ,Ny,u8,uq,Ft];rw[<-AY,r1];simp only[go_sem,ap3,Zx,Nat.reducePow,Da,TV,U5];have aoq:ZD (s2.new (.cells [.int .i64 (Wm L' z:Nat)] 3 false 0 0)) B 3 1 y (Zz a1) w1:=adA.mono O0 λj _ h2=>by rw[Z5,O3 J]
 obtain⟨s3,d1,d2,d3,d4,d5,d6⟩:=aoq.af9 O0 (.int .i64 (Wm L' z:Nat)) rfl;rw[d1];have akb:ZD s3 B 4 1 y (Zt a2) w2:=adB.So (by rw[d2,Z'];omega) λj c h1 h2 _=>d4 j _ _ _ _ (by rw[Z5,O3 J];exact h1) O0 Mo
 have aor:ZD (s3.new (.cells [.bool bz] 4 false 0 0)) B 4 1 y (Zt a2) w2:=akb.mono O0 λj _ h2=>by rw[Z5,O3 J]
 rw[Z'] at d1 d2 d3;have aos:=akb.WV;simp only[go_sem,Jj,ap3,Zx,Nat.reducePow,aos,U5];obtain⟨s4,c1,c2,c3,c4,c5,c6⟩:=aor.af9 O0 (.bool bz) rfl;rw[c1];rw[Z'] at c1 c2 c3;simp only[go_sem];have k4:∀j c t,s2.get j=some (.cells c t false 0 0)->j<s2.next->t≠3->t≠4->s4.get j=some (.cells c t false 0 0):=λj c t h1 h2 h3 h4=>c4 j c t 0 0 (by rw[Z5,O3 J];exact d4 j c t 0 0 (by rw[Z5,O3 J];exact h1) O0 h3) O0 h4
 have k5:∀j,j<B->s4.get j=s2.get j:=λj h1=>by rw[c5 j h1,Z5,O3 J,d5 j h1,Z5,O3 J]
 obtain⟨n1,n2,n3,n4,n5⟩:=r2.lt;have tQ:Ob s4 bS (m+1) (m+2) (m+3) (m+4) (Ry L' z) E2 DU :=
  ⟨r2.fst,λp hp=>(r2.vs p hp).keep λc hc=>by rw[k5 bS J];exact hc,by rw[k5 _ J];exact r2.map,by rw[k5 _ J];exact r2.yK,by rw[k5 _ J];exact r2.Vy,by
   rcases r2.row with⟨h0,h1,h2⟩|⟨h0,h1,b,h2,h3,h4,h5⟩
   ·exact .inl ⟨h0,h1,h2⟩
   ·exact .inr ⟨h0,h1,b,h2,J,h4,k4 b _ _ h5 h3 Mo Mo⟩,J⟩
 have e1:Zz (a1++[Wm L' z])=Zz a1++[.int .i64 (Wm L' z:Nat)]:=by simp[Zz,ints,Ur]
 have e2:Zt (a2++[bz])=Zt a2++[.bool bz]:=by simp[Zt]
 refine hk _ _ E2 DU _ _ (λt h1 h2 h3 h4 h5=>?_) tQ ?_ (e1 ▸ d3.So (by rw[c2];omega) λj c h1 h2 _=>c4 j _ _ 0 0 (by rw[Z5,O3 J];exact h1) O0 Mo) ?_ (e2 ▸ c3) (λj h1 h2 h3 h4=>?_) J (λj hj=>?_) (c6 ((d6 (r3.new _)).new _))
 ·have ZB:∀k:Nat,50<=k->(k=t)=False:=λk hk=>F_
  have lO:(11=t)=False:=F_;have o8:(12=t)=False:=F_;have n17:(17=t)=False:=F_;have n18:(18=t)=False:=F_;simp only[go_sem,ZB,lO,o8,n17,n18]
 ·simp only[go_sem]
 ·simp only[go_sem]
 ·rw[k5 j h1,r6 j J h2 h3 h4,kS j J]
 ·rcases r7 j hj with h|h
  ·exact .inl h
  ·right;omega
def agW {p:Prog}(hS:Yu p.steps)(hn8:p.steps.length<=8)(hL:(ZL (p.steps.map Step.cond)).length<=2^20){m0:Nat}(hm:2<=m0/\m0<=16)(hz:VD p.steps m0<=512){bS m q:Nat}{v lv sv V pv:AV}{L0 L1 F:List PN}{E0:List (PN×AV)}{x0:PN}{sm:St}
  (hI:∀x∈L0,QF p.steps m0 x)(tP:QF p.steps m0 x0)(hvr:TR (λy=>(YF p.steps x0 y).1) m0 0 L0=L1)(hL1:L1.length<=2^20)(hF:∃R,F=L1++R)(gV:still lv=false)
  (Jx:∀s',(∀j,j<=m->s'.get j=sm.get j)->m<s'.next->Ya U s' 40 (.agg [v,lv,sv])=some (.agg [.fz ((p.steps.map Step.cond).map Zo),.fz ((ZL (p.steps.map Step.cond)).map Zo),.fz ((ZL (p.steps.map Step.cond)).map Xg)]))
  (gm:sm.get m=some (.cells [v,lv,sv] 128 false 0 0))(gp:sm.get 8=some (.cells [.int .i64 p.lines,ZU p.nl (Zy p.steps)] 25 false 0 0))(h8m:8<m)(hbS:bS<m)(hV:aX sm bS x0.YI V)
  (g1:e.get 1=.ptr 8 0)(g3:e.get 3=.ptr m 0)(g7:e.get 7=.fn (.func 132) [] [.ptr (m+2) 0,.ptr (m+3) 0])(Cj:e.get 10=.ptr q 0)(uK:e.get 11=.ZQ)(Jj:e.get 12=.ZQ)(g47:e.get 47=.int .i64 (m0:Nat))(g48:e.get 48=.int .i64 (0:Nat))
  (old:∀j,j<=m->s.get j=sm.get j)(gq:s.get q=some (.cells (Vy x0 V) 210 false 0 0))(hq:m+4<=q/\q<s.next)(hqv:¬Ml 5 pv q)(hN:Ob s bS (m+1) (m+2) (m+3) (m+4) L0 E0 pv)(fr:Fr s)
  (hk:∀e' s' SD E' w1 w2,(∀t:Nat,t<11->e'.get t=e.get t)->Ob s' bS (m+1) (m+2) (m+3) (m+4) L1 E' SD->e'.get 11=w1->ZD s' s.next 3 1 m0 (Zz (WY (YF p.steps) F m0 x0)) w1->e'.get 12=w2->ZD s' s.next 4 1 m0 (Zt (WJ (YF p.steps) m0 x0)) w2 ->
   (∀j,j<s.next->j≠m+1->j≠m+3->¬Ml 5 pv j->s'.get j=s.get j)->s.next<=s'.next->(∀j,Ml 5 SD j->Ml 5 pv j\/s.next<=j)->Fr s'->ZC (goN U fin ks e' s')) :
  ZC (SJ U fin (.bk 2::ks) Gz e s):=by
 have a8:=λx hx=>QF.pb hS hn8 hm hz hL (x:=x) hx
 have hCw:=hS.jf;refine YT (σ:=Nat) (λy=>m0-y) (λy e' s'=>y<=m0/\(∀t:Nat,t<11->e'.get t=e.get t)/\e'.get 47=.int .i64 (m0:Nat)/\e'.get 48=.int .i64 (y:Nat)/\(∀j,j<s.next->j≠m+1->j≠m+3->¬Ml 5 pv j->s'.get j=s.get j)/\s.next<=s'.next/\Fr s' /\
   ∃L' E' SD w1 w2,Ob s' bS (m+1) (m+2) (m+3) (m+4) L' E' SD/\TR (λy=>(YF p.steps x0 y).1) (m0-y) y L'=L1/\(∀z∈L',QF p.steps m0 z)/\(∀j,Ml 5 SD j->Ml 5 pv j\/s.next<=j)/\e'.get 11=w1/\ZD s' s.next 3 1 y (Zz (WY (YF p.steps) F y x0)) w1/\e'.get 12=w2/\ZD s' s.next 4 1 y (Zt (WJ (YF p.steps) y x0)) w2) 0 ?_
  ⟨apW _,λ_ _=>rfl,g47,g48,λ_ _ _ _ _=>rfl,api _,fr,L0,E0,pv,.ZQ,.ZQ,hN,by rw[Nat.sub_zero];exact hvr,hI,λj hj=>.inl hj,uK,ZD.nil _ _ _ _,Jj,ZD.nil _ _ _ _⟩
 rintro Lp y e' s' ⟨hy,hold,q47,q48,hs,Vq,Wk,L',E',SD,w1,w2,uG,Yf,qh,hB,qx,uI,uy,LO⟩ IH;have q1:=(hold 1 J).trans g1;have q3:=(hold 3 J).trans g3;have q7:=(hold 7 J).trans g7;have HX:=(hold 10 J).trans Cj;have acy:∀j,j<=m->s'.get j=sm.get j:=λj hj=>(hs j (by have:=hN.lt;omega) J J (hN.xQ J)).trans (old j hj)
 have uq:=(hs q hq.2 J J hqv).trans gq;have um:=(acy m (api _)).trans gm;have up:=(acy 8 J).trans gp;by_cases hd:y<m0
 ·have Ql:=ZI hd J;rw[show m0-y=(m0-(y+1))+1 by omega,TR] at Yf;obtain⟨iU,hsb,HY⟩:=a8 x0 tP;have acz:DN p.steps x0.cur:=(tP.Zd hS).2.2.1;have L_:=(tP.Zd hS).2.1;have hzI:=nW hS tP hd;have hpz:=(a8 _ hzI).1;have VY:∀S:St,(∀j,j<=m->S.get j=sm.get j)->m<S.next->Yx U (ZE U 69 [.agg [v,lv,sv],V,.agg [.int .i64 (y:Int),.int .i64 (Xu x0.last y),.bool (decide (x0.last<0))]]) 69 [.agg [v,lv,sv],V,.agg [.int .i64 (y:Int),.int .i64 (Xu x0.last y),.bool (decide (x0.last<0))]] S =
    some (.XQ [.fz (ints (YF p.steps x0 y).1.YI),ZU true (Zt (outs (p.steps.map Step.cond) (XZ (y:Int) (Xu x0.last y) (decide (x0.last<0)) (ZL (p.steps.map Step.cond)) x0.YI)))],S):=λS h1 h2=>by
   rw[z93 (by simp[ZT,still,gV])];have e1:=Jx S h1 h2;have e2:=(hV.keep (s':=S) λc hc=>by rw[h1 bS J];exact hc).Ya 38;have e3:YS (Ya U S 40) [.agg [v,lv,sv],V,.agg [.int .i64 (y:Int),.int .i64 (Xu x0.last y),.bool (decide (x0.last<0))]] =
     some [.agg [.fz ((p.steps.map Step.cond).map Zo),.fz ((ZL (p.steps.map Step.cond)).map Zo),.fz ((ZL (p.steps.map Step.cond)).map Xg)],.fz (ints x0.YI),.agg [.int .i64 (y:Int),.int .i64 (Xu x0.last y),.bool (decide (x0.last<0))]]:=by
    rw[XT,e1,XT,e2,XT,TJ,Wt];rfl
   rw[e3];have hz:=ahG (p.steps.map Step.cond) x0.YI (y:Int) (Xu x0.last y) (decide (x0.last<0)) hCw (by rw[ala];omega) hsb HY hL ⟨J,J⟩ (by unfold Xu;cases hc:decide (x0.last<0) with
    |true=>exact⟨by rw[cond_true];omega,by rw[cond_true];omega⟩
    |false=>have:=of_decide_eq_false hc;exact⟨by rw[cond_false];omega,by rw[cond_false];omega⟩) S
   rw[X4] at hz;rw[hz];rfl
  have xA:=acz.a;have hkb:0<=x0.cur.2.1/\x0.cur.2.1<=2^40:=by
   have h1:=acz.k;rw[yC xA] at h1;have:=hS.tm _ (adm xA);omega
  have hgb:0<=x0.cur.2.2/\x0.cur.2.2<=2^40:=by
   have h1:=acz.g;rw[pU xA] at h1;have:=hS.wi _ (adm xA);omega
  have Ft:=c99 p (outs (p.steps.map Step.cond) (XZ (y:Int) (Xu x0.last y) (decide (x0.last<0)) (ZL (p.steps.map Step.cond)) x0.YI)) true x0.cur.1 x0.cur.2.1 x0.cur.2.2 acz.a (by rw[Fu,ala]) J hkb hgb;rw[Ze] at Ft;have hmv:(LL (Wn p.steps) (Tm p.steps) p.steps.length (CF (outs (p.steps.map Step.cond) (XZ (y:Int) (Xu x0.last y) (decide (x0.last<0)) (ZL (p.steps.map Step.cond)) x0.YI))) x0.cur.1 x0.cur.2.1 x0.cur.2.2)=((YF p.steps x0 y).1.cur,(YF p.steps x0 y).2):=rfl;rw[hmv] at Ft;simp only[IP] at Ft;have hzl:(YF p.steps x0 y).1.last=(y:Int):=rfl;have f1:∀k,(s'.next+k=8)=False:=λk=>F_
  have f1':(s'.next=8)=False:=F_;have f2:(s'.next=m)=False:=F_;have f3:(s'.next=q)=False:=F_;have Mg:Xu x0.last y=bif decide (x0.last<0) then (y:Int) else x0.last:=rfl;unfold Vy at uq;have hLb:∀x∈L',PB x:=λx hx=>(a8 x (qh x hx)).1
  obtain⟨RL,hRL⟩:=Cs (λy=>(YF p.steps x0 y).1) (m0-(y+1)) (y+1) (Ry L' (YF p.steps x0 y).1);have aot:L'.length<=2^20:=by
   rw[Yf] at hRL;have h1:(Ry L' (YF p.steps x0 y).1).length<=L1.length:=by rw[hRL,ann];omega
   obtain⟨R0,e0⟩:=FM L' (YF p.steps x0 y).1;rw[e0,ann] at h1;omega
  have ajM:Wm F (YF p.steps x0 y).1=Wm L' (YF p.steps x0 y).1:=by
   obtain⟨R,hR⟩:=hF;rw[Yf] at hRL;rw[hR,hRL,aqs,vy _ _ _ (vw L' _)];by_cases TD:(YF p.steps x0 y).1∈L'
   ·rw[Ry,Of TD]
   ·rw[Ry,O3 TD,vu _ L' TD,zF _ L' TD]
  have hrN:WY (YF p.steps) F y x0++[Wm L' (YF p.steps x0 y).1]=WY (YF p.steps) F (y+1) x0:=by
   rw[<-ajM];unfold WY;rw[List.range_succ,aqf];rfl
  have hrF:WJ (YF p.steps) y x0++[(YF p.steps x0 y).2]=WJ (YF p.steps) (y+1) x0:=by
   unfold WJ;rw[List.range_succ,aqf];rfl
  have npv:¬Ml 5 SD q:=λh=>by
   rcases hB q h with h|h
   ·exact hqv h
   ·omega
  have tail:∀(ee:Env) (S:St),S.next=s'.next+1->(∀j,j<s'.next->S.get j=s'.get j)->Fr S->(∀t:Nat,t<11->ee.get t=e'.get t)->ee.get 11=w1->ee.get 12=w2->ee.get 13=.int .i64 (y:Nat)->ee.get 15=.fz (ints (YF p.steps x0 y).1.YI)->ee.get 16=ZU true (Zt (outs (p.steps.map Step.cond) (XZ (y:Int) (Xu x0.last y) (decide (x0.last<0)) (ZL (p.steps.map Step.cond)) x0.YI)))->ee.get 47=.int .i64 (m0:Nat)->ee.get 48=.int .i64 (y:Nat) ->
    ZC (go U fin (.bk 3::.sq (.ops [o 91 (.bin .add 3 true (.t 48) (.v (.int .i64 1))),o 48 (.Qq (.t 91))])::.lp Lp::.bk 2::ks) Ee ee S):=by
   intro ee S h1 h2 h3 h4 h11 h12 h13 h15 h16 h47 h48;refine aka (ZC:=ZC) (bS:=bS) (m:=m) (q:=q) (y:=y) (B:=s.next) (x0:=x0) (V:=V) (w1:=w1) (w2:=w2) (L':=L') (E':=E') (SD:=SD) (a1:=WY (YF p.steps) F y x0) (a2:=WJ (YF p.steps) y x0) Ft hpz hzl hLb aot J h8m ((h4 1 J).trans q1) ((h4 7 J).trans q7) ((h4 10 J).trans HX) h11 h12 h13 h15 h16 ((h2 8 (by have:=uG.lt;omega)).trans up) ((h2 q J).trans uq) J (uG.mono J h2) (uI.mono J λj _ hj=>h2 j hj) (LO.mono J λj _ hj=>h2 j hj) (by have:=hN.lt;omega) h3 ?_;intro e2 s2 E2 DU w1' w2' g2 n2 k11 r1 k12 r2 kp kn kb OJ;have j48:=(g2 48 J J J J J).trans h48;have j47:=(g2 47 J J J J J).trans h47;simp only[go_sem,j48,Ql];rw[hrN] at r1;rw[hrF] at r2;refine IH (y+1) _ _ J ⟨J,λt ht=>?_,?_,?_,λj a1 a2 a3 a4=>?_,J,OJ,Ry L' (YF p.steps x0 y).1,E2,DU,w1',w2',n2,Yf,λz uJ=>?_,λj hj=>?_,?_,r1,?_,r2⟩
   ·have ZB:∀k:Nat,11<=k->(k=t)=False:=λk hk=>F_
    simp only[go_sem,ZB];exact ((g2 t J J J J J).trans (h4 t ht)).trans (hold t ht)
   ·simp only[go_sem,j47]
   ·simp only[go_sem]
   ·rw[kp j a1 a2 a3 (λh=>by
     rcases hB j h with h|h
     ·exact a4 h
     ·omega),h2 j J,hs j a1 a2 a3 a4]
   ·rcases nV uJ with h|h
    ·exact qh z h
    ·rw[h];exact hzI
   ·rcases kb j hj with h|h
    ·exact hB j h
    ·right;omega
   ·simp only[go_sem,k11]
   ·simp only[go_sem,k12]
  have tz:∀t:Nat,t<11->∀k:Nat,11<=k->(k=t)=False:=λt ht k hk=>F_
  have uf:=uG.lt
  cases hc:decide (x0.last<0) with
  |true =>
   rw[hc] at VY Mg tail;rw[cond_true] at Mg;rw[Mg] at VY tail;simp only[go_sem,Ll,q3,HX,q47,q48,Z9,hd,uq,um,f2,f3,hc];rw[VY _ (λj hj=>by rw[Z7,O3 J,Z7,O3 J,Z5,O3 J];exact acy j hj) O0];simp only[go_sem];refine tail _ _ (by simp only[Z_,Z']) (λj hj=>by rw[Z7,O3 J,Z7,O3 J,Z5,O3 J]) (((Wk.new _).put O0 _).put O0 _) (λt ht=>?_) ?_ ?_ ?_ ?_ ?_ ?_ ?_
   ·have ZB:=tz t ht;simp only[go_sem,ZB]
   all_goals simp only[go_sem,qx,uy,q47,q48]
  |false =>
   rw[hc] at VY Mg tail;rw[cond_false] at Mg;rw[Mg] at VY tail;simp only[go_sem,Ll,q3,HX,q47,q48,Z9,hd,uq,um,f2,f3,hc];rw[VY _ (λj hj=>by rw[Z7,O3 J,Z5,O3 J];exact acy j hj) O0];simp only[go_sem];refine tail _ _ (by simp only[Z_,Z']) (λj hj=>by rw[Z7,O3 J,Z5,O3 J]) ((Wk.new _).put O0 _) (λt ht=>?_) ?_ ?_ ?_ ?_ ?_ ?_ ?_
   ·have ZB:=tz t ht;simp only[go_sem,ZB]
   all_goals simp only[go_sem,qx,uy,q47,q48]
 ·have hye:y=m0:=J;subst hye;rw[Nat.sub_self,TR] at Yf;subst Yf;simp only[go_sem,Ll,q47,q48,Z9,ap5];refine hk _ _ SD E' w1 w2 (λt ht=>?_) uG ?_ uI ?_ LO hs Vq hB Wk
  ·have ZB:∀k:Nat,11<=k->(k=t)=False:=λk hk=>F_
   simp only[go_sem,ZB];exact hold t ht
  ·simp only[go_sem,qx]
  ·simp only[go_sem,uy]
def agR {i ob N:Nat}{ln:Int}{cN cF:List AV}{v w:AV}{jr jc m:Nat}(hi9:i<=2^20)
  (g8:e.get 8=.ptr ob 0)(agS:e.get 11=.sl jr 0 m none 1)(agT:e.get 12=.sl jc 0 m none 1)(OD:s.get ob=some (.cells [.int .i64 ln,v,w] 42 false 0 0))(uH:ob<s.next)(hN:N<=s.next)(hv:ZD s N 48 1 i cN v)(hw:ZD s N 72 1 i cF w)(fr:Fr s)
  (hk:∀e' s' v' w',(∀t:Nat,t<92->e'.get t=e.get t)->s'.get ob=some (.cells [.int .i64 ln,v',w'] 42 false 0 0)->ZD s' N 48 1 (i+1) (cN++[.sl jr 0 m none 1]) v'->ZD s' N 72 1 (i+1) (cF++[.sl jc 0 m none 1]) w' ->
   (∀j,j<s.next->j≠ob->¬WN v j->¬WN w j->s'.get j=s.get j)->s.next<=s'.next->Fr s'->ZC (goN U fin ks e' s')) :
  ZC (go U fin ks (.raw tS) e s):=by
 rw[TT adS];have Ps:=fr.at;have Jv:∀t:Nat,t<92->(∀k:Nat,92<=k->(k=t)=False):=λt ht=>λk hk=>F_
 have Mc:∀j q,j<s.next->(j=s.next+q)=False:=λj q hj=>F_
 have Ju:∀j q,j<s.next->(s.next+q=j)=False:=λj q hj=>F_
 have tR:∀q,q≠0->(s.next+q=s.next)=False:=λq hq=>F_
 have tQ:∀q,q≠0->(s.next=s.next+q)=False:=λq hq=>F_
 have TV:(i+1)*24<=1099511627776:=J;have U5:i+1<=1099511627776:=J;have key:∀(E:Env) (S:St),(∀t:Nat,t<92->E.get t=e.get t) ->
   S.get ob=some (.cells [.int .i64 ln,.sl (s.next+14) 0 (i+1) none 1,.sl (s.next+15) 0 (i+1) none 1] 42 false 0 0) ->
   S.get (s.next+14)=some (.cells (cN++[.sl jr 0 m none 1]) 48 false 0 0)->S.get (s.next+15)=some (.cells (cF++[.sl jc 0 m none 1]) 72 false 0 0) ->
   (∀j,j<s.next->j≠ob->¬WN v j->¬WN w j->S.get j=s.get j)->s.next+15<S.next->Fr S->cN.length=i->cF.length=i->ZC (goN U fin ks E S):=by
  intro E S k1 k2 k3 k4 k6 k7 k8 k9 gW;exact hk E S (.sl (s.next+14) 0 (i+1) none 1) (.sl (s.next+15) 0 (i+1) none 1) k1 k2 (.inr ⟨J,by simp[k9],s.next+14,J,J,rfl,k3⟩) (.inr ⟨J,by simp[gW],s.next+15,J,J,rfl,k4⟩) k6 J k8
 rcases hv with⟨i0,rfl,rfl⟩|⟨i0,ng,bv,v1,v2,rfl,v4⟩
 ·rcases hw with⟨_,rfl,rfl⟩|⟨i1,_⟩
  ·subst i0;simp only[go_sem,g8,agS,agT,OD,Vz,Zx,ap3,aqP,Nat.reducePow,ap4,ap2,Ps,uH,Ju,tR,tQ,TV,U5];refine key _ _ (λt ht=>?_) ?_ ?_ ?_ (λj h1 h2 _ _=>?_) ?_ ?_ rfl rfl
   ·have ZB:=Jv t ht;simp only[go_sem,ZB]
   ·simp only[go_sem,ap4]
   ·simp[go_sem,Mc,uH,ap2]
   ·simp[go_sem,Mc,uH,ap2]
   ·have e0:∀q,(s.next+q=j)=False:=λq=>F_
    simp only[Z7,Z5,Z_,Z',Z6,ZR,ap2,Nat.reduceAdd,e0,eq_false h2.symm,if_false]
   ·simp only[Z_,Z',Z6];omega
   ·repeat first|exact fr|apply Fr.new|apply Fr.put|apply Fr.upto
    all_goals try simp only[Z_,Z',Z6]
    all_goals omega
  ·omega
 ·rcases hw with⟨i1,_⟩|⟨_,nc,bw,w1,w2,rfl,w4⟩
  ·omega
  ·rw[ap3] at ng nc;have n1:=Xy v4 w4 Mo;have n2:=Xy v4 OD Mo;have n3:=Xy w4 OD Mo;have y1:(bv=bw)=False:=eq_false n1;have y2:(bv=ob)=False:=eq_false n2;have y3:(bw=ob)=False:=eq_false n3;have y8:(ob=bv)=False:=eq_false n2.symm;have y9:(ob=bw)=False:=eq_false n3.symm;have y10:(bw=bv)=False:=eq_false n1.symm;have a1:=λ(S:St) (h:S.get bv=some (.cells cN 48 false 0 0))=>qi ng h (.sl jr 0 m none 1) rfl
   have a2:=λ(S:St) (h:S.get bw=some (.cells cF 72 false 0 0))=>qi nc h (.sl jc 0 m none 1) rfl
   simp only[go_sem,g8,agS,agT,OD,Zx,ap3,Nat.reducePow,ap4,ap2,Ps,uH,Mc,Ju,tR,tQ,TV,U5,v2,v4,w2,w4,y1,y2,y3,a1,a2];refine key _ _ (λt ht=>?_) ?_ ?_ ?_ (λj h1 h2 h3 h4=>?_) ?_ ?_ ng nc
   ·have ZB:=Jv t ht;simp only[go_sem,ZB]
   ·simp only[go_sem]
   ·simp[go_sem,Mc,uH,w2,ap2]
   ·simp[go_sem,Mc,uH,ap2]
   ·have e0:∀q,(s.next+q=j)=False:=λq=>F_
    rw[X_] at h3 h4;simp only[Z7,Z5,Z_,Z',Z6,ZR,ap2,Nat.reduceAdd,e0,eq_false h2.symm,eq_false h3,eq_false h4,if_false]
   ·simp only[Z_,Z',Z6];omega
   ·repeat first|exact fr|apply Fr.new|apply Fr.put|apply Fr.upto
    all_goals try simp only[Z_,Z',Z6]
    all_goals omega
def yN (p:PN×AV)(E:List (PN×AV)):ncs (p::E)=p.2::.int .i64 p.1.cur.1::.int .i64 p.1.cur.2.1::.int .i64 p.1.cur.2.2::.int .i64 p.1.last::ncs E:=rfl
def yM:∀(E:List (PN×AV)) (i:Nat) (h:i<E.length),Xi 5 (i*5) (ncs E)=some (Vy E[i].1 E[i].2)
 |p::E,0,_=>by
  rw[yN,Nat.zero_mul];simp[UI,UH,Vy]
 |p::E,i+1,h=>by
  have:=yM E i (by rw[ap1] at h;omega);rw[show (i+1)*5=i*5+5 by omega,yN];exact this
def agU {p:Prog}(hS:Yu p.steps)(hn8:p.steps.length<=8)(hL:(ZL (p.steps.map Step.cond)).length<=2^20)(hl:1<=p.lines/\p.lines<=4)(hz:VD p.steps (2^p.lines.toNat)<=512){bS m ob:Nat}{v lv sv pv:AV}{E0:List (PN×AV)}
  (gV:still lv=false)
  (Jx:∀s',(∀j,j<=m->s'.get j=s.get j)->m<s'.next->Ya U s' 40 (.agg [v,lv,sv])=some (.agg [.fz ((p.steps.map Step.cond).map Zo),.fz ((ZL (p.steps.map Step.cond)).map Zo),.fz ((ZL (p.steps.map Step.cond)).map Xg)]))
  (gm:s.get m=some (.cells [v,lv,sv] 128 false 0 0))(gp:s.get 8=some (.cells [.int .i64 p.lines,ZU p.nl (Zy p.steps)] 25 false 0 0))(h8m:9<m)(hbS:bS<m)
  (g1:e.get 1=.ptr 8 0)(g2:e.get 2=.ptr 9 0)(g3:e.get 3=.ptr m 0)(g6:e.get 6=.ptr (m+3) 0)(g7:e.get 7=.fn (.func 132) [] [.ptr (m+2) 0,.ptr (m+3) 0])(g8:e.get 8=.ptr ob 0)(g9:e.get 9=.int .i64 (0:Nat))
  (OD:s.get ob=some (.cells [.int .i64 p.lines,.ZQ,.ZQ] 42 false 0 0))(uH:m+4<=ob/\ob<s.next)(hN:Ob s bS (m+1) (m+2) (m+3) (m+4) [AZ p.steps] E0 pv)(fr:Fr s)
  (hk:∀e' s' v w,e'.get 2=.ptr 9 0->e'.get 8=.ptr ob 0->s'.get ob=some (.cells [.int .i64 p.lines,v,w] 42 false 0 0)->(∀j,j<=m->s'.get j=s.get j)->s.next<=s'.next->Zu v=true->Zu w=true->v.cells=[v]->w.cells=[w] ->
   (∀x d,Ya U (s'.put 9 x) (d+3) v=some (ZU true ((RP p.steps (2^p.lines.toNat)).map λc=>AV.fz (Zz (WY (YF p.steps) (RP p.steps (2^p.lines.toNat)) (2^p.lines.toNat) c)))))->(∀x d,Ya U (s'.put 9 x) (d+3) w=some (ZU true ((RP p.steps (2^p.lines.toNat)).map λc=>AV.fz (Zt (WJ (YF p.steps) (2^p.lines.toNat) c)))))->Fr s'->ZC (goN U fin ks e' s')) :
  ZC (SJ U fin (.bk 0::ks) G6 e s):=by
 have Hn:2<=2^p.lines.toNat/\2^p.lines.toNat<=16:=by
  have:p.lines.toNat=1\/p.lines.toNat=2\/p.lines.toNat=3\/p.lines.toNat=4:=J;rcases this with h|h|h|h <;> rw[h] <;> decide
 have SI:=Vf U 3 true .i64 (n:=p.lines) J;have qz:((2:Int)^p.lines.toNat)=((2^p.lines.toNat:Nat):Int):=by simp
 rw[qz] at SI;generalize hm:2^p.lines.toNat=m0 at *;obtain⟨hFA,hFn,_⟩:=Qh hS m0;generalize hF:RP p.steps m0=F at *;have hF':Oa (λx y=>(YF p.steps x y).1) m0 (VD p.steps m0+1) 0 [AZ p.steps]=F:=hF;have hlen:=λi L (h:zx (λx y=>(YF p.steps x y).1) m0 (QF p.steps m0) i L)=>h.len (n:=VD p.steps m0) (κ:=nD p.steps m0) (λx=>Bd hS) (λx y=>Gl hS)
 have hn5:=hN.lt.2.2.2.2;refine YT (σ:=Nat) (λi=>VD p.steps m0-i) (λi e' s'=>(∀t:Nat,t<9->e'.get t=e.get t)/\e'.get 9=.int .i64 (i:Nat)/\(∀j,j<=m->s'.get j=s.get j)/\s.next<=s'.next/\Fr s' /\
   ∃L' E' SD v w cN cF,Oa (λx y=>(YF p.steps x y).1) m0 (VD p.steps m0+1-i) i L'=F/\zx (λx y=>(YF p.steps x y).1) m0 (QF p.steps m0) i L'/\Ob s' bS (m+1) (m+2) (m+3) (m+4) L' E' SD/\s'.get ob=some (.cells [.int .i64 p.lines,v,w] 42 false 0 0)/\ZD s' s.next 48 1 i cN v/\ZD s' s.next 72 1 i cF w/\cN.length=i/\cF.length=i /\
    (∀j (h:j<F.length) (h':j<cN.length),SC s' ob 3 cN[j] (Zz (WY (YF p.steps) F m0 F[j])))/\(∀j (h:j<F.length) (h':j<cF.length),SC s' ob 4 cF[j] (Zt (WJ (YF p.steps) m0 F[j])))) 0 ?_
  ⟨λ_ _=>rfl,g9,λ_ _=>rfl,api _,fr,[AZ p.steps],E0,pv,.ZQ,.ZQ,[],[],hF',pI0 hS,hN,OD,ZD.nil _ _ _ _,ZD.nil _ _ _ _,rfl,rfl,λj _ h=>by simp at h,λj _ h=>by simp at h⟩
 rintro Lp i e' s' ⟨hold,q9,hs,Vq,Wk,L',E',SD,v1,w1,cN,cF,Yf,qh,uG,agV,hv,hw,ng,nc,hBN,hBF⟩ IH;have uF:=hlen i L' qh;have apw:=qh.le;have q1:=(hold 1 J).trans g1;have q2:=(hold 2 J).trans g2;have q3:=(hold 3 J).trans g3;have q6:=(hold 6 J).trans g6;have q7:=(hold 7 J).trans g7;have q8:=(hold 8 J).trans g8;have uP:=(hs 8 J).trans gp;have uc:=uG.Vy;have qg:=uG.row.len;rw[show VD p.steps m0+1-i=(VD p.steps m0-i)+1 by omega,Oa] at Yf;by_cases hd:i<L'.length
 ·have Ql:=ZI hd J;have tP:=aaa hd;rw[tP] at Yf;simp only at Yf;obtain⟨i1,R1,hR1⟩:=qh.row (pIn hS) hd;have hcI:=qh.inv _ (adm hd);have hEl:E'.length=L'.length:=by rw[<-uG.fst,ala]
  have hiE:i<E'.length:=J;have hEi:E'[i].1=L'[i]:=by
   have h1:(E'.map (·.1))[i]? = some L'[i]:=by rw[uG.fst];exact tP
   rw[aqc,aaa hiE] at h1;exact aqb h1
  have gr:=yM E' i hiE;have SH:=uG.vs E'[i] (adm hiE);rw[hEi] at gr SH;generalize E'[i].2=V at *;generalize hc:L'[i]=c at *;obtain⟨L1,hvr⟩:∃L1,TR (λy=>(YF p.steps c y).1) m0 0 L'=L1:=⟨_,rfl⟩;rw[hvr] at Yf i1 hR1;have apx:=hlen _ _ i1;obtain⟨_,_,R2,hR2⟩:=Pe (n:=VD p.steps m0) (κ:=nD p.steps m0) (pIn hS) (λx=>Bd hS) (λx y=>Gl hS) (VD p.steps m0-i) (i+1) L1 i1 J;rw[Yf] at hR2;have hFi:∀h:i<F.length,F[i]=c:=λh=>by
   have e:F[i]? = some c:=by
    rw[hR2,hR1,aqs,aql J];exact tP
   rw[aaa h] at e;exact aqb e
  rcases uG.row with⟨h0,_⟩|⟨_,Tp,bp,hp5,hp6,hpv,qf⟩
  ·omega
  have uc':=uc;rw[hpv] at uc' qg;have gr':=gr;unfold Vy at gr';have f1:(s'.next=8)=False:=by have:=uG.lt;simp;omega
  have f2:(s'.next=m+3)=False:=by have:=uG.lt;simp;omega
  have f3:(s'.next=bp)=False:=F_;have Pq:=SH.Zu;simp only[go_sem,G6,q1,q6,q9,uc',qg,Z9,hd,qf,gr',uP,SI,f1,Pq,F8,ap4];obtain⟨S,AY⟩:∃S,S=(s'.new (.cells [.ZQ,.int .i64 0,.int .i64 0,.int .i64 0,.int .i64 0] 210 false 0 0)).put s'.next (.cells [V,.int .i64 c.cur.1,.int .i64 c.cur.2.1,.int .i64 c.cur.2.2,.int .i64 c.last] 210 false 0 0):=⟨_,rfl⟩;rw[<-AY];have DX:S.next=s'.next+1:=by rw[AY,Z_,Z']
  have kS:∀j,j<s'.next->S.get j=s'.get j:=λj h1=>by rw[AY,Z7,O3 J,Z5,O3 J]
  have gq:S.get s'.next=some (.cells (Vy c V) 210 false 0 0):=by rw[AY,Z7,Of rfl];rfl
  have Jh:Fr S:=by rw[AY];exact (Wk.new _).put O0 _
  have YA:=uG.lt;refine agW (ZC:=ZC) hS hn8 hL Hn hz (bS:=bS) (m:=m) (q:=s'.next) (v:=v) (lv:=lv) (sv:=sv) (V:=V) (pv:=SD) (L0:=L') (L1:=L1) (F:=F) (E0:=E') (x0:=c) (sm:=s) qh.inv hcI hvr J ⟨_,hR2⟩ gV Jx gm gp J hbS (SH.keep λx hx=>by rw[<-hs bS J];exact hx) ?_ ?_ ?_ ?_ ?_ ?_ ?_ ?_ (λj hj=>(kS j J).trans (hs j hj)) gq J (by rw[hpv,AX];omega) (uG.mono J kS) Jh ?_
  case refine_9 =>
   intro e2 s2 DU E2 x1 x2 h2 Ju gU yL m_ hr2 TB C0 hB2 OJ;obtain⟨jr,rfl,hjr,jr1,jr2⟩:∃jr,x1=.sl jr 0 m0 none 1/\s2.get jr=some (.cells (Zz (WY (YF p.steps) F m0 c)) 3 false 0 0)/\S.next<=jr/\jr<s2.next:=by
    rcases yL with⟨h,_⟩|⟨_,_,j,h1,h2,h3,h4⟩
    ·omega
    ·exact⟨j,h3,h4,h1,h2⟩
   obtain⟨jc,rfl,hjc,jc1,jc2⟩:∃jc,x2=.sl jc 0 m0 none 1/\s2.get jc=some (.cells (Zt (WJ (YF p.steps) m0 c)) 4 false 0 0)/\S.next<=jc/\jc<s2.next:=by
    rcases hr2 with⟨h,_⟩|⟨_,_,j,h1,h2,h3,h4⟩
    ·omega
    ·exact⟨j,h3,h4,h1,h2⟩
   have E2':∀t:Nat,t<10->e2.get t=e'.get t:=λt ht=>by
    rw[h2 t J];have ZB:∀k:Nat,10<=k->(k=t)=False:=λk hk=>F_
    simp only[go_sem,ZB]
   have k2:∀j,j<s'.next->j≠m+1->j≠m+3->j≠bp->s2.get j=s'.get j:=λj h1 h3 h4 h5=>by
    rw[TB j J h3 h4 (by rw[hpv,AX];omega),kS j h1]
   have kT:∀j cs t,j<s'.next->s'.get j=some (.cells cs t false 0 0)->t≠210->t≠208->s2.get j=some (.cells cs t false 0 0):=λj cs t h1 h3 h4 h5=>by
    rw[k2 j h1 (λe=>by have:=uG.map;rw[<-e,h3] at this;cases this) (λe=>by rw[<-e,h3] at uc;cases uc;exact h5 rfl) (Xy h3 qf h4)];exact h3
   have uo:=kT ob _ _ J agV Mo Mo;have F7:ZD s2 s.next 48 1 i cN v1:=hv.So J λj c' h1 h2 h3=>kT j _ _ h2 h1 Mo Mo
   have LO:ZD s2 s.next 72 1 i cF w1:=hw.So J λj c' h1 h2 h3=>kT j _ _ h2 h1 Mo Mo
   simp only[go_sem];refine agR (ZC:=ZC) (i:=i) (ob:=ob) (N:=s.next) J ((E2' 8 J).trans q8) gU m_ uo J J F7 LO OJ ?_;intro e3 s3 v' w' CZ uo3 hv3 hw3 yX ib tU;have E3:∀t:Nat,t<10->e3.get t=e'.get t:=λt ht=>(CZ t J).trans (E2' t ht)
   have p9:=(E3 9 J).trans q9;simp only[go_sem,p9,Ql];have nv:∀j c t,s2.get j=some (.cells c t false 0 0)->t≠48->¬WN v1 j:=λj c t h1 h2 h3=>Xy h1 (F7.KL h3).2.2 h2 rfl
   have nw:∀j c t,s2.get j=some (.cells c t false 0 0)->t≠72->¬WN w1 j:=λj c t h1 h2 h3=>Xy h1 (LO.KL h3).2.2 h2 rfl
   have pr:∀j c t,j<s2.next->j≠ob->s2.get j=some (.cells c t false 0 0)->t≠48->t≠72->s3.get j=some (.cells c t false 0 0):=λj c t h1 h2 h3 h4 h5=>by
    rw[yX j h1 h2 (nv j c t h3 h4) (nw j c t h3 h5)];exact h3
   have low:∀j,j<m+4->s3.get j=s2.get j:=λj hj=>yX j J J (λh=>by have:=(F7.KL h).1;omega) λh=>by have:=(LO.KL h).1;omega
   have bj3:∀c l,SC s2 ob 3 c l->SC s3 ob 3 c l:=λc l h=>h.mono ib λk h1 h2 h3 h4=>⟨h2,pr k _ _ h1 h2 h4 Mo Mo⟩
   have bj4:∀c l,SC s2 ob 4 c l->SC s3 ob 4 c l:=λc l h=>h.mono ib λk h1 h2 h3 h4=>⟨h2,pr k _ _ h1 h2 h4 Mo Mo⟩
   have bm3:∀c l t,t≠210->t≠208->SC s' ob t c l->SC s2 ob t c l:=λc l t a1 a2 h=>h.mono J λk h1 h2 h3 h4=>⟨h2,kT k _ _ h1 h4 a1 a2⟩
   have adT:∀b cs,s2.get b=some (.cells cs 210 false 0 0)->b≠ob:=λb cs h=>Xy h uo Mo
   obtain⟨n1,n2,n3,n4,n5⟩:=Ju.lt;have tR:Ob s3 bS (m+1) (m+2) (m+3) (m+4) L1 E2 DU :=
    ⟨Ju.fst,λp hp=>(Ju.vs p hp).keep λc hc=>by rw[low bS J];exact hc,by rw[low _ J];exact Ju.map,by rw[low _ J];exact Ju.yK,by rw[low _ J];exact Ju.Vy,by
     rcases Ju.row with⟨h0,h1,h2⟩|⟨h0,h1,b,h2,h3,h4,h5⟩
     ·exact .inl ⟨h0,h1,h2⟩
     ·exact .inr ⟨h0,h1,b,h2,J,h4,pr b _ _ h3 (adT b _ h5) h5 Mo Mo⟩,J⟩
   refine IH (i+1) _ _ J ⟨λt ht=>?_,?_,λj h1=>?_,J,tU,L1,E2,DU,v',w',cN++[.sl jr 0 m0 none 1],cF++[.sl jc 0 m0 none 1],?_,i1,tR,uo3,hv3,hw3,by simp[ng],by simp[nc],λj h h'=>?_,λj h h'=>?_⟩
   ·have ZB:∀k:Nat,9<=k->(k=t)=False:=λk hk=>F_
    simp only[go_sem,ZB];exact (E3 t J).trans (hold t ht)
   ·simp only[go_sem]
   ·rw[low j J,k2 j J J J J,hs j h1]
   ·rw[show VD p.steps m0+1-(i+1)=VD p.steps m0-i by omega];exact Yf
   ·by_cases hj:j<cN.length
    ·rw[aqX hj];exact bj3 _ _ (bm3 _ _ _ Mo Mo (hBN j h hj))
    ·have hj:j=i:=by rw[ann,aqh] at h';omega
     subst hj;rw[aq2 J];simp only[List.getElem_singleton];rw[hFi h];exact bj3 _ _ ⟨jr,none,by rw[Wd,tO],jr2,J,J,hjr⟩
   ·by_cases hj:j<cF.length
    ·rw[aqX hj];exact bj4 _ _ (bm3 _ _ _ Mo Mo (hBF j h hj))
    ·have hj:j=i:=by rw[ann,aqh] at h';omega
     subst hj;rw[aq2 J];simp only[List.getElem_singleton];rw[hFi h];exact bj4 _ _ ⟨jc,none,by rw[WE,tN],jc2,J,J,hjc⟩
  all_goals simp only[go_sem,q1,q3,q7]
  all_goals rfl
 ·have G5:i=L'.length:=J;rw[aqA J] at Yf;simp only at Yf;have hFl:F.length=i:=by rw[<-Yf];omega
  have hle:decide ((i:Int)<(L'.length:Int))=false:=by rw[Z9];simp;omega
  simp only[go_sem,G6,q6,q9,uc,qg,hle];have kP:∀(x:Uf) j,j≠9->(s'.put 9 x).get j=s'.get j:=λx j h=>by rw[Z7,O3 h.symm]
  refine hk _ _ v1 w1 ?_ ?_ agV hs Vq hv.Zu hw.Zu hv.cells hw.cells (λx d=>?_) (λx d=>?_) Wk
  ·simp only[go_sem,q2]
  ·simp only[go_sem,q8]
  ·have k1:ZD (s'.put 9 x) s.next 48 1 cN.length cN v1:=by rw[ng];exact hv.So O0 λj c' h1 h2 h3=>by rw[kP x j J];exact h1
   have Pq:cN.all Zu=true:=by
    rw[ap8];intro x hx;obtain⟨j,hj,rfl⟩:=aqd.1 hx;obtain⟨_,_,e,_⟩:=hBN j J hj;rw[e];rfl
   exact k1.QV U qe qc Pq (d:=d+2) (RM J λj h h'=>((hBN j h' h).mono (s':=s'.put 9 x) (b':=ob) O0 λk h1 h2 h3 h4=>⟨h2,by rw[kP x k J];exact h4⟩).Ya AW AU (UR _) (TQ _ _ _))
  ·have k1:ZD (s'.put 9 x) s.next 72 1 cF.length cF w1:=by rw[nc];exact hw.So O0 λj c' h1 h2 h3=>by rw[kP x j J];exact h1
   have Pq:cF.all Zu=true:=by
    rw[ap8];intro x hx;obtain⟨j,hj,rfl⟩:=aqd.1 hx;obtain⟨_,_,e,_⟩:=hBF j J hj;rw[e];rfl
   exact k1.QV U qa p_ Pq (d:=d+2) (RM J λj h h'=>((hBF j h' h).mono (s':=s'.put 9 x) (b':=ob) O0 λk h1 h2 h3 h4=>⟨h2,by rw[kP x k J];exact h4⟩).Ya m9 m8 (S4 _) (M5 _ _ _))
def alR {p:Prog}(hS:Yu p.steps)(hn8:p.steps.length<=8)(hL:(ZL (p.steps.map Step.cond)).length<=2^20)(hl:1<=p.lines/\p.lines<=4)(hz:VD p.steps (2^p.lines.toNat)<=512):ZE U 64 [XU p]=some (XW (N4 p.lines (YF p.steps) (RP p.steps (2^p.lines.toNat)))):=by
 refine ZP anu It (by simp[ZT,YK]) ?_;have hns:=ZV p.nl (Zy p.steps);have FO:=ZK p.nl (Zy p.steps);have h98:=c98 p J;have hCw:=hS.jf;have eA:p.steps.map Step.cond≠[]:=λe=>by have:=hS.ne;rw[List.map_eq_nil_iff] at e;rw[e] at this;simp at this
 have wU:=zZ hCw eA;have hlz:(ZL (p.steps.map Step.cond)).length≠0:=λe=>wU (aqo.1 e)
 have Hn:2<=2^p.lines.toNat/\2^p.lines.toNat<=16:=by
  have:p.lines.toNat=1\/p.lines.toNat=2\/p.lines.toNat=3\/p.lines.toNat=4:=J;rcases this with h|h|h|h <;> rw[h] <;> decide
 have W_:=P_ hS (m:=2^p.lines.toNat);have a8:=(QF.pb hS hn8 Hn hz hL ⟨_,W_.2,W_.1⟩).1;rw[VQ eA] at h98;rw[bD,Ze] at *;simp only[go_sem,ai',h98,ahk];obtain⟨s0,hs0⟩:∃s0,s0=((Ym U).new (.cells [.int .i64 p.lines,ZU p.nl (Zy p.steps)] 25 false 0 0)).new (.cells [.int .i64 0,.ZQ,.ZQ] 42 false 0 0):=⟨_,rfl⟩;rw[<-hs0];have DV:s0.next=10:=by rw[hs0];simp only[go_sem]
 have h80:s0.get 8=some (.cells [.int .i64 p.lines,ZU p.nl (Zy p.steps)] 25 false 0 0):=by rw[hs0];simp only[go_sem]
 have h90:s0.get 9=some (.cells [.int .i64 0,.ZQ,.ZQ] 42 false 0 0):=by rw[hs0];simp only[go_sem]
 have fr0:Fr s0:=by rw[hs0];exact (Fr.own.new _).new _
 obtain⟨s1,lv,sv,st,e1,e2,e3,e4,R1,R2,R3⟩:=c92 s0 (.fz ((p.steps.map Step.cond).map Zo)) (p.steps.map Step.cond) hCw (by rw[ala];omega) hL (oI _ _) fr0;rw[DV] at e3 e4 R1 R2 R3;rcases R3 with⟨h,_⟩|⟨_,_,bS,b1,b2,rfl,b3⟩
 ·exact absurd h hlz
 rw[e1];have na1:=R1.Zu;have na2:=R2.Zu;have hc8:=(e4 8 J).trans h80;have hc9:=(e4 9 J).trans h90;have cm:∀k,(AV.map k).cells=[AV.map k]:=λ_=>rfl
 have nm:∀k,Zu (AV.map k)=true:=λ_=>rfl
 simp only[go_sem,na1,na2,cm,nm];obtain⟨S,AY⟩:∃S,S=(((((s1.new (.cells [.ZQ,.ZQ,.ZQ] 128 false 0 0)).put s1.next (.cells [.fz ((p.steps.map Step.cond).map Zo),lv,sv] 128 false 0 0)).new (.map [] false)).new (.cells [.O'] 207 false 0 0)).put (s1.next+1+1) (.cells [.map (s1.next+1)] 207 false 0 0)).new (.cells [.ZQ] 208 false 0 0):=⟨_,rfl⟩;rw[<-AY];have DX:S.next=s1.next+4:=by rw[AY];simp only[Z_,Z']
 have kS:∀j,j<s1.next->S.get j=s1.get j:=λj h1=>by rw[AY,Z5,Z_,Z',Z',Z_,Z',O3 J,Z7,O3 J,Z5,Z',Z_,Z',O3 J,Z5,Z_,Z',O3 J,Z7,O3 J,Z5,O3 J]
 have k0:S.get s1.next=some (.cells [.fz ((p.steps.map Step.cond).map Zo),lv,sv] 128 false 0 0):=by rw[AY,Z5,Z_,Z',Z',Z_,Z',O3 J,Z7,O3 J,Z5,Z',Z_,Z',O3 J,Z5,Z_,Z',O3 J,Z7,Of rfl]
 have k1:S.get (s1.next+1)=some (.map [] false):=by rw[AY,Z5,Z_,Z',Z',Z_,Z',O3 J,Z7,O3 J,Z5,Z',Z_,Z',O3 J,Z5,Z_,Z',Of rfl]
 have k2:S.get (s1.next+2)=some (.cells [.map (s1.next+1)] 207 false 0 0):=by rw[AY,Z5,Z_,Z',Z',Z_,Z',O3 J,Z7,Of rfl]
 have k3:S.get (s1.next+3)=some (.cells [.ZQ] 208 false 0 0):=by rw[AY,Z5,Z_,Z',Z',Z_,Z',Of rfl]
 have Jh:Fr S:=by
  rw[AY]
  repeat first|exact e2|apply Fr.new|apply Fr.put|apply Fr.upto
  all_goals simp only[Z_,Z']
  all_goals omega
 have hNS:Ob S bS (s1.next+1) (s1.next+2) (s1.next+3) (s1.next+4) [] [] .ZQ :=
  ⟨rfl,λp hp=>by simp at hp,k1,k2,k3,ZD.nil _ _ _ _,J⟩
 have aj2:((ZL (p.steps.map Step.cond)).map Xm).length=(ZL (p.steps.map Step.cond)).length:=ala _;obtain⟨s2,E2,DU,r1,r2,r3,r4,r5,r6,r7⟩:=aj3 hNS (λx hx=>by simp at hx) No a8 (V:=.sl bS 0 (ZL (p.steps.map Step.cond)).length none 1) (.inr ⟨by rw[show (AZ p.steps).YI=(ZL (p.steps.map Step.cond)).map Xm from rfl,aj2],by rw[kS bS b2];exact b3⟩) Jh;rw[YJ] at r1;have jA:Ry [] (AZ p.steps)=[AZ p.steps]:=by simp[Ry]
 rw[jA] at r2;unfold Vy at r1;have z1:(((AZ p.steps).cur.1:Nat):Int)=0:=rfl;have z2:(AZ p.steps).cur.2.1=0:=rfl;have z3:(AZ p.steps).cur.2.2=0:=rfl;have z4:(AZ p.steps).last = -1:=rfl;rw[z1,z2,z3,z4] at r1;have kk:∀j,j<s1.next->s2.get j=s1.get j:=λj h1=>by rw[r6 j J J J (by rintro⟨n,cap,h⟩;cases h),kS j h1]
 have m0:s2.get s1.next=some (.cells [.fz ((p.steps.map Step.cond).map Zo),lv,sv] 128 false 0 0):=by rw[r6 _ J J J (by rintro⟨n,cap,h⟩;cases h)];exact k0
 have aj4:=(kk 8 J).trans hc8;have f8:(s2.next=8)=False:=F_;simp only[ap2,Nat.reduceAdd];rw[r1];simp only[go_sem,aj4];obtain⟨T,hTd⟩:∃T,T=(s2.new (.cells [.int .i64 0,.ZQ,.ZQ] 42 false 0 0)).put s2.next (.cells [.int .i64 p.lines,.ZQ,.ZQ] 42 false 0 0):=⟨_,rfl⟩;rw[<-hTd];have hTn:T.next=s2.next+1:=by rw[hTd,Z_,Z']
 have kT:∀j,j<s2.next->T.get j=s2.get j:=λj h1=>by rw[hTd,Z7,O3 J,Z5,O3 J]
 have kTo:T.get s2.next=some (.cells [.int .i64 p.lines,.ZQ,.ZQ] 42 false 0 0):=by rw[hTd,Z7,Of rfl]
 have frT:Fr T:=by rw[hTd];exact (r3.new _).put O0 _
 refine agU (ZC:=λ(o:Option AV)=>o=some (.agg [.int .i64 p.lines,ZU true ((RP p.steps (2^p.lines.toNat)).map λx=>AV.fz (Zz (WY (YF p.steps) (RP p.steps (2^p.lines.toNat)) (2^p.lines.toNat) x))),ZU true ((RP p.steps (2^p.lines.toNat)).map λx=>AV.fz (Zt (WJ (YF p.steps) (2^p.lines.toNat) x)))])) hS hn8 hL hl hz (bS:=bS) (m:=s1.next) (ob:=s2.next) (v:=.fz ((p.steps.map Step.cond).map Zo)) (lv:=lv) (sv:=sv) (pv:=DU) (E0:=E2) (R1.ET hlz) ?aj5 ((kT _ J).trans m0) ((kT 8 J).trans aj4) J b2 ?_ ?_ ?_ ?_ ?_ ?_ ?_ kTo J (r2.mono J kT) frT ?aaB
 case aj5 =>
  intro s3 yX ib;have K:∀{t:TypeId} {n k:Nat} {cs:List AV} {w:AV},ZD s1 12 t n k cs w->ZD s3 12 t n k cs w:=λh=>h.mono J λj _ hj=>by rw[yX j J,kT j J,kk j hj]
  have f2:=(K R1).Wt U Gh Gg J Qj (d:=38) (λa=>Oh _ _ _);have f3:=(K R2);have f3:ZD s3 12 218 1 ((ZL (p.steps.map Step.cond)).map Xg).length ((ZL (p.steps.map Step.cond)).map Xg) sv:=by rw[ala];exact f3
  have f3:=f3.QV U fT fS (by rw[ap8];intro x hx;obtain⟨y,_,rfl⟩:=ap0.1 hx;exact Nu y) (d:=38) (Cn s3 35 _);rw[Wt,XT,ER,XT,f2,XT,f3,TJ,VQ wU,VQ wU];rfl
 case aaB =>
  intro e' s' v w p2 p8 u1 hs C0 nav naw cv cw fv fw Wk;have u9:s'.get 9=some (.cells [.int .i64 0,.ZQ,.ZQ] 42 false 0 0):=by rw[hs 9 J,kT 9 J,kk 9 J];exact hc9
  have fv':=λx=>fv x 36
  have fw':=λx=>fw x 36
  simp only[go_sem,p2,p8,u9,u1,nav,naw,fv',fw']
 all_goals simp only[go_sem]
 all_goals rfl
def mf:∀c:Z0,Dv c.norm=Dv c:=by
 intro c
 induction c using Z0.ind with
 |h k a b mi ma pat nl kids ih =>
 have hL:∀l:List Z0,(∀x∈l,x∈kids)->∀d,Mq (VM l) d=Mq l d:=by
  intro l
  induction l with
  |nil=>intro _ d;rfl
  |cons c l DB =>
   intro hm d;rw[VM,Mq,Mq,ih c (hm c (aba ..)),DB λx hx=>hm x (aab _ hx)]
 rw[Z0.norm,Dv,Dv,hL kids λ_ h=>h];rfl
def Ke:∀(l:List Step) (n x:Int),Ww (l.map Step.norm) n x=Ww l n x
 |[],_,_=>rfl
 |s::l,n,x=>by
  rw[aqe,Ww,Ww,Ke l];simp only[Step.norm,mf]
def xH (p:Prog):QL p.norm=QL p:=by
 rw[QL,QL,Prog.norm];simp only[Ke]
def nA:Zv:=⟨0,true,[],true,[]⟩
def pn:XW nA=.agg [.int .i64 0,.ZQ,.ZQ]:=rfl
def fG (a:Zv)(h:256<a.next.length):ZE U 62 [XW a]=some (.XQ [XW nA,.int .i64 5]):=by
 refine ZP ahD It (by simp[ZT,XC]) ?_;rw[YH a,pn];unfold VI XD;have nn:=ZV a.Xb (a.next.map ZF);have nf:=ZV a.WG (a.ZW.map ZM);have cn:=ZK a.Xb (a.next.map ZF);have cf:=ZK a.WG (a.ZW.map ZM);have ln:=ZN a.Xb (a.next.map ZF);rw[ala] at ln;have hd:decide ((a.next.length:Int)>256)=true:=F_;simp only[go_sem,aeo,ln,hd]
def aa1 (p:Prog):Bool:=decide (p.lines>4)||decide (QL p>65536)
def me (S:List Step)(lines:Int):Zv:=ZS (N4 lines (YF S) (RP S (2^lines.toNat)))
def aep (p:Prog)(hf:p.fits)(h:pk p=0)(hb:aa1 p=false)(hL:(ZL (p.steps.map Step.cond)).length<=2^20)(hz:VD p.steps (2^p.lines.toNat)<=512) :
  ZE U 16 [XU p]=some (bif decide (256<(me p.steps p.lines).next.length) then .XQ [XW nA,.int .i64 5] else .XQ [XW (me p.steps p.lines),.int .i64 0]):=by
 refine ZP k40 It (by simp[ZT,YK]) ?_;have h64:=c64 p hf;rw[h] at h64;have ok:=L8 ((xG p).symm.trans h);have hS:=RF ok;have h102:=alQ p hf (by have:=ok.lines;omega) (λs hs=>(IX p.lines s.cond 1 (ok.cond s hs)).1);unfold aa1 at hb;rw[aqx] at hb;obtain⟨b1,b2⟩:=hb;have hl:1<=p.lines/\p.lines<=4:=⟨ok.lines.1,by have:=of_decide_eq_false b1;omega⟩;have h105:=alR hS ok.few hL hl hz;have XP:=AF hS hl hz;have h104:=alS XP;have hm:ZS (N4 p.lines (YF p.steps) (RP p.steps (2^p.lines.toNat)))=me p.steps p.lines:=rfl;rw[hm] at h104;generalize me p.steps p.lines=M at *;generalize N4 p.lines (YF p.steps) (RP p.steps (2^p.lines.toNat))=X at *;have nn:=ZV M.Xb (M.next.map ZF);have nf:=ZV M.WG (M.ZW.map ZM);have cn:=ZK M.Xb (M.next.map ZF);have cf:=ZK M.WG (M.ZW.map ZM)
 cases hd:decide (256<M.next.length) with
 |true =>
  have h103:=fG M (of_decide_eq_true hd);generalize XW M=EM at *;generalize XW X=EX at *;rw[Ze] at h64 h102 h105 ⊢;rw[pn] at *;simp only[go_sem,r40,h64,h102,h105,h104,h103,b1,b2]
 |false =>
  have h103:=alT M (by have:=of_decide_eq_false hd;omega);generalize XW X=EX at *;rw[Ze] at h64 h102 h105 ⊢;rw[YH M] at *;unfold VI XD at *;simp only[go_sem,r40,h64,h102,h105,h104,h103,b1,b2,nn,nf,Vg]
def c39 (p:Prog)(hf:p.fits)(hl:0<=p.lines/\p.lines<=16)(n:Int):ZE U 26 [XU p,.int .i64 n]=some (.bool (decide (p.lines<=3)&&decide (Kq p<=n))):=by
 refine ZP k39 It (by simp[ZT,YK,still]) ?_;have h38:=c38 p hf hl;rw[Ze] at h38 ⊢
 cases h3:decide (p.lines<=3) with
 |true=>simp only[go_sem,r39,h38,h3,aqr]
 |false=>simp only[go_sem,r39,h3,aqK]
def HC {n:Nat}:∀(l:List Z0),(∀c∈l,leaves c<=n)->Zn l<=l.length*n
 |[],_=>by simp[Zn]
 |c::l,h=>by
  have h1:=h c (aba ..);have h2:=HC l λx hx=>h x (aab _ hx)
  rw[Zn,ap1,Nat.succ_mul];omega
def wD {p:Prog}{n:Int}(hn:n<=12)(h:short p n=true):Zn (p.steps.map Step.cond)<=2^20/\(ZL (p.steps.map Step.cond)).length<=2^20/\(ZL (p.norm.steps.map Step.cond)).length<=2^20:=by
 obtain⟨RX,TB⟩:=FB h;refine⟨?_,?_,?_⟩
 ·have:=HC (n:=12) (p.steps.map Step.cond) λc hc=>by
   obtain⟨s,LP,rfl⟩:=ap0.1 hc;have:=(TB s LP).2;omega
  rw[ala] at this;omega
 ·have:=EN (n:=12) (p.steps.map Step.cond) λc hc=>by
   obtain⟨s,LP,rfl⟩:=ap0.1 hc;have h1:=EF s.cond;have h2:=(TB s LP).2;omega
  rw[ala] at this;omega
 ·have:=EN (n:=12) (p.norm.steps.map Step.cond) λc hc=>by
   obtain⟨s,LP,rfl⟩:=ap0.1 hc;rw[Prog.norm] at LP;obtain⟨y,hy,rfl⟩:=ap0.1 LP;have h1:=EF y.cond.norm;rw[Ky] at h1;have h2:=(TB y hy).2;show (VE y.cond.norm).length<=12;omega
  rw[ala,show p.norm.steps.length=p.steps.length by rw[Prog.norm];simp] at this;omega
def dK {p:Prog}(hf:p.fits)(h:AH p=0)(hL:(ZL (p.norm.steps.map Step.cond)).length<=2^20)(h3:p.lines<=3)(hz:QL p<=400) :
  ZE U 16 [XU p.norm]=some (bif decide (256<(ZS (N4 p.lines (Un p.steps) (N5 p.steps (2^p.lines.toNat)))).next.length) then .XQ [XW nA,.int .i64 5] else .XQ [XW (ZS (N4 p.lines (Un p.steps) (N5 p.steps (2^p.lines.toNat)))),.int .i64 0]):=by
 have ok:=L8 h;have hS:=RF ok;have hl:1<=p.lines/\p.lines<=4:=⟨ok.lines.1,J⟩;have hzN:=oK ok ok.wf hl.2 (n:=400) (api _) hz;have hcp:pk p.norm=0:=by rw[xG,BT,h]
 have Tp:p.norm.lines=p.lines:=rfl;have hps:p.norm.steps=p.steps.map Step.norm:=rfl;have DX:=AG hS;have hzn:VD (p.steps.map Step.norm) (2^p.lines.toNat)<=512:=by rw[Cz];omega
 have hb:aa1 p.norm=false:=by
  unfold aa1;rw[xH,Tp,decide_eq_false J,decide_eq_false J];rfl
 have q:=aep p.norm (EO hf) hcp hb hL (by rw[hps,Tp];exact hzn);have e:me p.norm.steps p.norm.lines=ZS (N4 p.lines (Un p.steps) (N5 p.steps (2^p.lines.toNat))):=by
  unfold me;rw[hps,Tp,<-FU DX hl hzn,FX,mP]
 rw[e] at q;exact q
def By {a:Zv}(ha:a.ok)(Jx:ZS a=a):∀c∈UE a,c%a.fa.n=c / a.fa.n:=λc hc=>by
 have:=(S8 ha c).1 hc;rw[Jx] at this;exact r0 ha c this
def bW {a:Zv}(ha:a.ok)(Jx:ZS a=a):(UE a).length=a.fa.n:=by
 have hd:=By ha Jx;have YA:=gZ ha;have hm:=VW ha;have Ax:(UE a).Nodup:=(Gb ha hm rfl).nd;have hre:=λt (ht:t<(ZS a).fa.n)=>ni ha ht
 rw[Jx] at YA hre;refine Nat.le_antisymm ?_ ?_
 ·have h1:(((UE a).map (·%a.fa.n)).map id).Nodup:=by
   rw[List.map_id,List.Nodup,List.pairwise_map];refine List.Pairwise.imp_of_mem (λ{x y} hx hy ZB e=>ZB ?_) Ax;have e1:=Nat.div_add_mod x a.fa.n;have e2:=Nat.div_add_mod y a.fa.n;rw[<-hd x hx] at e1;rw[<-hd y hy] at e2;have e:x%a.fa.n=y%a.fa.n:=e;rw[e] at e1;exact e1.symm.trans e2
  have:=Wj h1 (n:=a.fa.n) λz hz=>by
   obtain⟨c,hc,rfl⟩:=ap0.1 hz;exact (YA c hc).2
  rwa [ala] at this
 ·have hch:∀t,∃i,t<a.fa.n->i<(UE a).length/\∀h:i<(UE a).length,(UE a)[i]%a.fa.n=t:=λt=>by
   by_cases ht:t<a.fa.n
   ·obtain⟨c,hc,e⟩:=hre t ht;obtain⟨i,hi,rfl⟩:=aqd.1 hc;exact⟨i,λ_=>⟨hi,λ_=>e⟩⟩
   ·exact⟨0,λh=>absurd h ht⟩
  have hf:∃f:Nat->Nat,∀t,t<a.fa.n->f t<(UE a).length/\∀h:f t<(UE a).length,(UE a)[f t]%a.fa.n=t:=⟨λt=>Classical.choose (hch t),λt=>Classical.choose_spec (hch t)⟩;obtain⟨f,hf⟩:=hf;have h1:(((List.range a.fa.n).map f).map id).Nodup:=by
   rw[List.map_id,List.Nodup,List.pairwise_map];refine List.Pairwise.imp_of_mem (λ{x y} hx hy ZB e=>ZB ?_) List.nodup_range;obtain⟨x1,x2⟩:=hf x (aqg.1 hx);obtain⟨y1,y2⟩:=hf y (aqg.1 hy);have q1:=x2 x1;have q2:=y2 y1;have e:f x=f y:=e;simp only[e] at q1;exact q1.symm.trans q2
  have:=Wj h1 (n:=(UE a).length) λz hz=>by
   obtain⟨t,ht,rfl⟩:=ap0.1 hz;exact (hf t (aqg.1 ht)).1
  rwa [ala,aqR] at this
def zJ {a:Zv}(ha:a.ok):a.next.length<=2^40/\∀r∈a.next,r.2.length<=2^40:=by
 have hf:=ha.few;refine⟨J,λr hr=>?_⟩;obtain⟨i,hi,rfl⟩:=aqd.1 hr;have h1:=(ha.row i hi).1;have h2:=Nat.pow_le_pow_right (n:=2) J (show a.lines.toNat<=4 by have:=ha.lines;omega);omega
structure Mi (a:Zv):Prop where
 ok:a.ok
 min:ZS a=a
 le:a.next.length<=150
def Mi.ck {a:Zv}(h:Mi a):tT a=0:=qt h.ok (by have:=h.le;omega)
def Mi.two {a b:Zv}(ha:Mi a)(hb:Mi b)(VK:a.lines=b.lines):Wz a b=0:=Ii ha.ck hb.ck VK
def bV {a:Zv}(ha:a.ok)(Jx:ZS a=a):AV.fz (zy a.fa.n (UE a))=ZU false ((DH a).map LY):=by
 rw[Ta];unfold zy DH;rw[Jx,aqY];rfl
structure bU (a:Zv)(L:List Nat):Prop where
 q27:ZE U 27 [XW a,XW a]=some (.XQ [.ZQ,.int .i64 7])
 At:ZE U 28 [XW a,XW a]=some (.XQ [.fz (zy a.fa.n L),.int .i64 0])
 DQ:ZE U 29 [XW a,XW a]=some (.bool true)
 cj:ZE U 30 [XW a,XW a,.fz (zy a.fa.n L)]=some (.int .i64 0)
 len:L.length=a.fa.n
 diag:∀c∈L,c%a.fa.n=c / a.fa.n
def ahf {a:Zv}(h:Mi a):bU a (UE a):=by
 obtain⟨a1,a2⟩:=zJ h.ok;have hn:=Co h.ok h.min;have hc:=h.two h rfl;have he:SS (Jt a a)=[]:=by unfold SS;rw[hn]
 have hl:=bW h.ok h.min;have hL:UE a=Sp a a:=by unfold UE;rw[h.min]
 have hsr:=zI h.ok h.min;have an6:(UE a).Pairwise (·<·):=by rw[hL];exact hsr
 have Tp:(Sp a a).length<=150:=by
  rw[hL] at hl;have h1:=h.le;have:a.fa.n=a.next.length:=rfl;omega
 refine⟨?_,?_,?_,?_,hl,By h.ok h.min⟩
 ·rw[c68 a a a1 a2 a1 a2];unfold pw;rw[hc,he];rfl
 ·rw[c69 a a a1 a2 a1 a2 λ_ _=>⟨Tp,hsr⟩];unfold aco;rw[hc,he,hL];rfl
 ·rw[ai8 h.ok h.ok rfl,kU]
 ·have h1:=aaA h.ok an6 (by have:=h.le;omega) h.ck;rw[h.min] at h1;rw[bV h.ok h.min,c70 a a a1 a2 a1 a2 (by rw[DH,ala,hl];have:=h.le;have:a.fa.n=a.next.length:=rfl;omega),h1]
structure bR (a b:Zv)(d:List Nat):Prop extends yi a b d where
 q27:ZE U 27 [XW a,XW b]=some (.XQ [ZU true (Zz d),.int .i64 0])
 At:ZE U 28 [XW a,XW b]=some (.XQ [.ZQ,.int .i64 29])
 DQ:ZE U 29 [XW a,XW b]=some (.bool false)
 short:d.length<=a.fa.n+b.fa.n
def ajF {a b:Zv}(ha:Mi a)(hb:Mi b)(VK:a.lines=b.lines){z:Nat×Nat}(hz:(Jt a b).2=some z):bR a b (SS (Jt a b)):=by
 obtain⟨k,x⟩:=z;have D:=dJ ha.ok hb.ok VK hz;obtain⟨a1,a2⟩:=zJ ha.ok;obtain⟨b1,b2⟩:=zJ hb.ok;have hc:=ha.two hb VK;have ZB:(SS (Jt a b)).length≠0:=by have:=D.pos;omega
 refine⟨D,?_,?_,?_,D.short ha.ok hb.ok VK⟩
 ·rw[c68 a b a1 a2 b1 b2];unfold pw;have h0:((SS (Jt a b)).length==0)=false:=by simpa using ZB
  rw[hc,h0];rfl
 ·rw[c69 a b a1 a2 b1 b2 λ_ h=>absurd h ZB];unfold aco;rw[hc,decide_eq_false ZB];rfl
 ·rw[ai8 ha.ok hb.ok VK]
  cases hs:rU a b with
  |false=>rfl
  |true =>
   have:=abv ha.ok hb.ok VK ha.min hb.min hs;subst this;rw[Co ha.ok ha.min] at hz
   cases hz
def aaQ {a b:Zv}(ha:Mi a)(hb:Mi b)(VK:a.lines=b.lines):a=b\/∃d,bR a b d:=by
 cases hz:(Jt a b).2 with
 |none=>exact .inl (fW ha.ok hb.ok VK ha.min hb.min hz)
 |some z=>exact .inr ⟨_,ajF ha hb VK hz⟩
def Q' (A:Fa)(l:List Int):List Int:=(IS A l l.length 0 0).1
def rr (A:Fa)(l:List Int):(Q' A l).length<=l.length:=by
 unfold Q';rw[PR,ala];have:=List.length_filter_le (WH A l) (List.range l.length)
 rwa [aqR] at this
def Rx (A:Fa)(d:List Nat):List Int:=((List.range (d.length-1)).filter (WH A (Ur d))).map λi=>((i:Nat):Int)
def fY (A:Fa)(d:List Nat):∀x∈Rx A d,x<((d.length-1:Nat):Int):=λx hx=>by
 obtain⟨i,hi,rfl⟩:=ap0.1 hx;have:=aqg.1 (List.mem_filter.1 hi).1;exact Int.ofNat_lt.2 this
def HZ (A:Fa){d:List Nat}(h:0<d.length):Q' A (Ur d)=Rx A d++(bif WH A (Ur d) (d.length-1) then [((d.length-1:Nat):Int)] else []):=by
 unfold Q' Rx;rw[PR,VG];have e:d.length=(d.length-1)+1:=J;rw[e,List.range_succ,List.filter_append,aqf,<-e]
 congr 1
 cases hf:WH A (Ur d) (d.length-1) <;> simp[hf]
def yi.base {a b:Zv}{d:List Nat}(h:yi a b d):Rx a.fa d=Rx b.fa d:=by
 unfold Rx
 congr 1
 refine List.filter_congr λi hi=>?_
 have hi:=aqg.1 hi;refine Classical.byContradiction λZB=>?_
 have:=h.first (Ur d) (Cp h.sym) i (by rw[VG];omega) ZB;omega
def yi.alike {a b:Zv}{d:List Nat}(h:yi a b d){l:List Int}(hl:l.length<=d.length-1)(hs:∀i,i<l.length->WL l i<a.fa.m):Q' a.fa l=Q' b.fa l:=by
 unfold Q';rw[PR,PR]
 congr 1
 refine List.filter_congr λi hi=>?_
 have hi:=aqg.1 hi;refine Classical.byContradiction λZB=>?_
 have:=h.first l hs i hi ZB;omega
structure ym (p:Prog)(A:Zv)(L:Nat):Prop extends Mi A where
 lines:A.lines=(L:Nat)
 q16:ZE U 16 [XU p.norm]=some (.XQ [XW A,.int .i64 0])
 times:∀l:List Int,l.length<=4096->(∀x∈l,0<=x/\x<(2:Int)^L)->UL l p.norm.steps=Q' A.fa l
def adv {p:Prog}(hs:short p 6=true)(BW:AH p=0){L:Nat}(Tp:p.lines=(L:Nat))(hL:L=1\/L=2)(Vt:QL p<=150):∃A,ym p A L:=by
 have ok:=L8 BW;have hf:=O2 hs;obtain⟨gV,_,uF⟩:=wD Mo hs;have hS:=RF ok;have hl:1<=p.lines/\p.lines<=4:=by rw[Tp];rcases hL with rfl|rfl <;> omega
 have hzn:=oK ok ok.wf hl.2 (n:=(QL p).toNat) J (Int.self_le_toNat _);have hX:=aaH hS hl J;have an7:=VW hX;have hAs:=jJ ok hl J;have hAt:=λl (h:ez (2^p.lines.toNat) l)=>rn ok hl J h
 have q16:=dK hf BW uF J J;have iX:=aaV hX;have hAl:(ZS (N4 p.lines (Un p.steps) (N5 p.steps (2^p.lines.toNat)))).lines=p.lines:=rfl;generalize ZS (N4 p.lines (Un p.steps) (N5 p.steps (2^p.lines.toNat)))=A at *;have hle:A.next.length<=150:=J;rw[decide_eq_false J,cond_false] at q16;refine⟨A,⟨an7,iX,hle⟩,by rw[hAl,Tp],q16,λl h1 h2=>?_⟩;rw[lE l p ok];refine (hAt l ⟨h1,λx hx=>?_⟩).symm;have:=h2 x hx;rw[Tp,aqt];push_cast;exact this
def az {i:Nat}(h:i<L.length):RT k (L.take i)++Yr k L[i]=RT k (L.take (i+1)):=by
 rw[ap7 h];unfold RT;rw[List.flatMap_append];simp
def yj (k:Nat)(L:List Nat):U1 (.fz (zy k L))=some (.int .i64 (L.length:Nat)):=by
 have:(zy k L).length=L.length:=by simp[zy]
 rw[<-this];rfl
def acP {i:Nat}(h:i<L.length):UJ 2 (.fz (zy k L)) (.int .i64 (i:Int))=some (.fp [.int .i64 ((L[i] / k:Nat):Int),.int .i64 ((L[i]%k:Nat):Int)] 0):=by
 have:=Vi 2 false (zy k L) .i64 (i:Int) (.agg (Yr k L[i])) J (by simp[zy,h]) rfl J;rw[Ta] at this;exact this
def ad8 {r:Option AV}{L:List Nat}(hL:L.length<=150)(hd:∀c∈L,c%k=c / k)
  (yU:e.get 13=.ZQ)(aoX:e.get 131=.fz (zy k L))(aoY:e.get 132=.int .i64 (L.length:Nat))(aoZ:e.get 133=.int .i64 (0:Nat))(fr:Fr s)
  (hk:∀e' s' v,(∀t:Nat,t<13->e'.get t=e.get t)->e'.get 13=v->ZD s' s.next 55 2 L.length (RT k L) v->(∀j,j<s.next->s'.get j=s.get j)->s.next<=s'.next->Fr s'->goN U (U7 U [.tmp 4]) ks e' s'=r) :
  SJ U (U7 U [.tmp 4]) (.bk 0::ks) KW e s=r:=by
 refine YT (σ:=Nat) (ZC:=λ(x:Option AV)=>x=r) (λi=>L.length-i) (λi e' s'=>i<=L.length/\(∀t:Nat,t<13\/15<t/\t<133->e'.get t=e.get t)/\e'.get 133=.int .i64 (i:Nat)/\(∀j,j<s.next->s'.get j=s.get j)/\s.next<=s'.next/\Fr s' /\
   ∃v,e'.get 13=v/\ZD s' s.next 55 2 i (RT k (L.take i)) v) 0 ?_
  ⟨apW _,λ_ _=>rfl,aoZ,λ_ _=>rfl,api _,fr,.ZQ,yU,ZD.nil _ _ _ _⟩
 rintro Lp i e' s' ⟨hi,hold,akF,hs,Vq,Wk,v,La,hv⟩ IH;have ao0:=(hold 131 J).trans aoX;have akG:=(hold 132 J).trans aoY;by_cases Qr:i<L.length
 ·have Ql:=ZI Qr J;have ix:=acP (k:=k) Qr;have hpt:=az (k:=k) Qr;have hdc:=hd _ (adm Qr);generalize hc:L[i]=c at *;unfold Yr at hpt;rw[hdc] at ix hpt;generalize c / k=z at *;have pJ:=hv.WV;have TV:(i+1)*16<=1099511627776:=J;have U5:i+1<=1099511627776:=J;obtain⟨S,hS⟩:∃S,S=((s'.new (.cells [.int .i64 0,.int .i64 0] 55 false 0 0)).put s'.next (.cells [.int .i64 (z:Nat),.int .i64 (z:Nat)] 55 false 0 0)).new (.cells [.int .i64 (z:Nat),.int .i64 (z:Nat)] 55 false 0 0):=⟨_,rfl⟩;have DX:S.next=s'.next+2:=by rw[hS,Z',Z_,Z']
  have kS:∀j,j<s'.next->S.get j=s'.get j:=λj h1=>by rw[hS,Z5,O3 O0,Z7,O3 J,Z5,O3 J]
  have Jh:Fr S:=by rw[hS];exact ((Wk.new _).put O0 _).new _
  have hvS:ZD S s.next 55 2 i (RT k (L.take i)) v:=hv.mono J λj _ hj=>kS j hj
  obtain⟨s1,a1,a2,a3,a4,a5⟩:=hvS.app J (m:=1) (new:=[.int .i64 (z:Nat),.int .i64 (z:Nat)]) J rfl rfl;have a1':An 55 2 16 v (some (1,[.int .i64 (z:Nat),.int .i64 (z:Nat)])) S=some (.sl S.next 0 (i+1) none 2,s1):=by
   rw[Zx (by rfl) (by rw[pJ];omega) (by rw[pJ];omega) J,a1]
  rw[hS] at a1';simp only[go_sem,KW,La,ao0,akG,akF,Z9,Qr,ix,Ql,a1'];have e2:S.next=s'.next+1+1:=DX;rw[e2] at a3;refine IH (i+1) _ _ J ⟨J,λt ht=>?_,?_,λj h1=>?_,J,a5 Jh,.sl (s'.next+1+1) 0 (i+1) none 2,?_,?_⟩
  ·have ZB:∀k:Nat,133<=k->(k=t)=False:=λk hk=>F_
   have h13:(13=t)=False:=F_;have h15:(15=t)=False:=F_;simp only[go_sem,ZB,h13,h15];exact hold t ht
  ·simp only[go_sem]
  ·rw[a4 j h1,kS j J,hs j h1]
  ·simp only[go_sem]
  ·rw[<-hpt];exact a3
 ·have G5:i=L.length:=J;subst G5;simp only[go_sem,KW,akG,akF,Z9,ap5];rw[aqN] at hv;refine hk _ _ v (λt ht=>?_) ?_ hv hs Vq Wk
  ·have ZB:∀k:Nat,133<=k->(k=t)=False:=λk hk=>F_
   simp only[go_sem,ZB];exact hold t J
  ·simp only[go_sem,La]
def qL (s:St)(a:Zv):Ya U s 40 (XW a)=some (XW a):=by
 rw[YH,Wt];unfold VI XD;simp only[XT,TJ,Kf,Vg,PT,PS]
def z30 {a:Zv}(C:bU a L)(h0:0<a.fa.n){B:Nat}(h:ZD s B 55 2 L.length (RT a.fa.n L) v):Yx U (ZE U 30 [XW a,XW a,v]) 30 [XW a,XW a,v] s=some (.int .i64 0,s):=by
 have hl:=C.len;rcases h with⟨h1,_⟩|⟨_,_,b,_,_,rfl,hg⟩
 ·omega
 ·rw[LR It s (by simp[ZT,XC,still])];have hf:=qw (d:=37) (cap:=none) hg;have hm:YS (Ya U s 40) [XW a,XW a,.sl b 0 L.length none 2]=some [XW a,XW a,.fz (zy a.fa.n L)]:=by
   simp only[YS,qL,hf]
  rw[hm];exact CY C.cj It (by simp[ZT,XC,still]) rfl s
def ad9 {a:Zv}(C:bU a L)(h0:0<a.fa.n){B:Nat}(g5:e.get 5=.ptr 10 0)(g7:e.get 7=.ptr 11 0)(uK:e.get 11=.fz (zy a.fa.n L))(yU:e.get 13=v)
  (u10:s.get 10=some (.cells [.int .i64 a.lines,VI a,XD a] 42 false 0 0))(u11:s.get 11=some (.cells [.int .i64 a.lines,VI a,XD a] 42 false 0 0))(h:ZD s B 55 2 L.length (RT a.fa.n L) v) :
  go U (U7 U [.tmp 4]) ks A6 e s=some (.bool true):=by
 have cj:=C.cj;have akH:=z30 C h0 h;have Hm:=yj a.fa.n L;have hn:U1 (VI a)=some (.int .i64 a.next.length):=by
  have:=ZN a.Xb (a.next.map ZF);rw[ala] at this;exact this
 have hlen:=C.len;have e1:((L.length:Int)==(a.next.length:Int))=true:=by
  have:a.fa.n=a.next.length:=rfl;rw[beq_iff_eq];omega
 have e0:((0:Int)==0)=true:=rfl;rw[YH] at cj akH;simp only[go_sem,A6,g5,g7,uK,yU,u10,u11,cj,akH,Hm,hn,e1,e0]
theorem acU {b:List Int}{last:Int}(h:∀x∈b,x<last)(h0:b≠[]):∃x:Int,UJ 1 (ZU true (ints b)) (.int .i64 ((b.length:Int)-1))=some (.fp [.int .i64 x] 0)/\(x==last)=false:=by
 have hl:0<b.length:=List.length_pos_iff.2 h0;have e:((b.length:Int)-1)=((b.length-1:Nat):Int):=J;refine⟨b[b.length-1],?_,?_⟩
 ·rw[e];exact Rh J
 ·have:=h b[b.length-1] (adm _);rw[beq_eq_false_iff_ne];omega
theorem aae (b:List Int)(last:Int):UJ 1 (ZU true (ints (b++[last]))) (.int .i64 (b.length:Int))=some (.fp [.int .i64 last] 0):=by
 have:=Rh (nl:=true) (l:=b++[last]) (i:=b.length) No;rw[this];simp
theorem aaf (b:List Int)(last:Int):Dh 1 (ZU true (ints (b++[last]))) none (some (.int .i64 (b.length:Int)))=some (ZU false (ints b)):=by
 have ZB:ZU true (ints (b++[last]))=.fz (ints (b++[last])):=by
  cases b <;> rfl
 have e1:Yv (some (.int .i64 (b.length:Int))) (ints (b++[last])).length (ints (b++[last])).length=some b.length:=by
  simp[Yv,ints];omega
 have e2:Yv none 0 b.length=some 0:=rfl;have e3:((ints (b++[last])).all λx=>x.cells.length==1)=true:=by
  rw[ap8];intro x hx;obtain⟨y,_,rfl⟩:=ap0.1 hx;rfl
 rw[ZB,Ta];simp only[Dh,e1,e2,e3,if_true];rw[aqy,ints,aqf,List.take_left' No];rfl
section
variable {p o:Prog}{b:List Int}{last:Nat}(hb:∀x∈b,x<(last:Int))(Ik:b.length<=last)(hl:last<=4096)
include hb Ik hl
theorem agy {L:Nat}(hL:L=1\/L=2)(Tp:p.lines=(L:Nat)){x16 x18:AV}{one:Bool}
  (h16:x16=bif one then ZU true (ints (b++[(last:Int)])) else ZU true (ints b))(h18:x18=bif one then ZU true (ints b) else ZU true (ints (b++[(last:Int)])))
  (g2:e.get 2=.ptr 8 0)(g3:e.get 3=.ptr 9 0)(Ny:e.get 16=x16)(qI:e.get 18=x18)(g20:e.get 20=.int .i64 (last:Nat))(g21:e.get 21=.bool one)(g22:e.get 22=.bool !one)
  (u8:s.get 8=some (.cells [.int .i64 p.lines,ZU p.nl (Zy p.steps)] 31 false 0 0))(u9:s.get 9=some (.cells [.int .i64 o.lines,ZU o.nl (Zy o.steps)] 31 false 0 0))
  (q33:ZE U 33 [XU p,XU o,.int .i64 (min (last:Int) (5-p.lines))]=some (.bool true)) :
  go U (U7 U [.tmp 4]) ks KT e s=some (.bool true):=by
 have w5:IntKind.i64.wrap (5-p.lines)=5-p.lines:=by rw[Tp];rcases hL with rfl|rfl <;> rfl
 have eb:∀x y:Bool,Xj U .eql 4 false (.bool x) (.bool y)=some (.bool (x==y)):=λx y=>by cases x <;> cases y <;> kernel_rfl
 have ll:U1 (ZU true (ints (b++[(last:Int)])))=some (.int .i64 ((b.length+1:Nat):Int)):=by
  rw[ZN,YB];simp
 have ws:IntKind.i64.wrap (((b.length+1:Nat):Int)-1)=(b.length:Int):=by rw[wrap_i64] <;> omega
 have Mt:=aaf b (last:Int);rw[Ze,Ze] at q33
 cases one with
 |true =>
  have h56:=c56 false true b b J;rw[Ri] at h56;subst h16 h18;simp only[go_sem,KT,g2,g3,Ny,qI,g20,g21,g22,u8,u9,eb,ll,ws,Mt,h56,w5,q33,aqB];rfl
 |false =>
  have h56:=c56 true false b b J;rw[Ri] at h56;subst h16 h18;simp only[go_sem,KT,g2,g3,Ny,qI,g20,g21,g22,u8,u9,eb,ll,ws,Mt,h56,w5,q33,aqF];rfl
theorem aeb {L:Nat}(hL:L=1\/L=2)(Tp:p.lines=(L:Nat)){d:List Nat}(hd:d.length=last+1){one:Bool}
  (g2:e.get 2=.ptr 8 0)(g3:e.get 3=.ptr 9 0)(g9:e.get 9=ZU true (Zz d))(Ny:e.get 16=bif one then ZU true (ints (b++[(last:Int)])) else ZU true (ints b))(qI:e.get 18=bif one then ZU true (ints b) else ZU true (ints (b++[(last:Int)])))
  (u8:s.get 8=some (.cells [.int .i64 p.lines,ZU p.nl (Zy p.steps)] 31 false 0 0))(u9:s.get 9=some (.cells [.int .i64 o.lines,ZU o.nl (Zy o.steps)] 31 false 0 0))(fr:Fr s)(nx:9<s.next)
  (q33:ZE U 33 [XU p,XU o,.int .i64 (min (last:Int) (5-p.lines))]=some (.bool true)) :
  go U (U7 U [.tmp 4]) ks Pf e s=some (.bool true):=by
 have ld:U1 (ZU true (Zz d))=some (.int .i64 ((last+1:Nat):Int)):=by
  rw[ZN,Wd,hd]
 have wl:IntKind.i64.wrap (((last+1:Nat):Int)-1)=(last:Int):=by rw[wrap_i64] <;> omega
 have ll:U1 (ZU true (ints (b++[(last:Int)])))=some (.int .i64 ((b.length+1:Nat):Int)):=by
  rw[ZN,YB];simp
 have lb:U1 (ZU true (ints b))=some (.int .i64 (b.length:Nat)):=by
  rw[ZN,YB]
 have ws:IntKind.i64.wrap (((b.length+1:Nat):Int)-1)=(b.length:Int):=by rw[wrap_i64] <;> omega
 have d1:decide (((b.length+1:Nat):Int)>0)=true:=decide_eq_true J;have iy:=aae b (last:Int);have ey:((last:Int)==(last:Int))=true:=by simp
 have fin:∀(E:Env) (S:St),(∀t:Nat,t=2\/t=3\/t=16\/t=18->E.get t=e.get t)->E.get 20=.int .i64 (last:Nat)->E.get 21=.bool one->E.get 22=.bool (!one)->(∀j,j<s.next->S.get j=s.get j)->go U (U7 U [.tmp 4]) ks KT E S=some (.bool true):=λE S h1 h20 h21 h22 hS =>
  agy (p:=p) (o:=o) (b:=b) (last:=last) hb Ik hl hL Tp (x16:=e.get 16) (x18:=e.get 18) Ny qI ((h1 2 J).trans g2) ((h1 3 J).trans g3) (h1 16 J) (h1 18 J) h20 h21 h22 ((hS 8 J).trans u8) ((hS 9 J).trans u9) q33
 have Ps:=fr.at;have env:∀t:Nat,t=2\/t=3\/t=16\/t=18->(20=t)=False/\(21=t)=False/\(22=t)=False/\∀k:Nat,200<=k->(k=t)=False:=λt ht=>⟨F_,F_,F_,λk hk=>F_⟩
 by_cases ZB:b=[]
 ·have d0:decide ((b.length:Int)>0)=false:=by rw[ZB];rfl
  generalize ZU true (ints (b++[(last:Int)]))=X at *;generalize ZU true (ints b)=Y at *;generalize b.length=n at *
  cases one with
  |true =>
   rw[cond_true] at Ny qI;simp only[go_sem,Pf,g9,Ny,qI,ld,wl,ll,lb,ws,d1,d0,iy,ey,Ug];refine fin _ _ (λt ht=>?_) ?_ ?_ ?_ λj hj=>?_
   ·obtain⟨uv,sF,n22,hk⟩:=env t ht;simp only[go_sem,uv,sF,n22,hk]
   all_goals simp only[go_sem,ZR]
   all_goals rfl
  |false =>
   rw[cond_false] at Ny qI;simp only[go_sem,Pf,g9,Ny,qI,ld,wl,ll,lb,ws,d1,d0,iy,ey,Ug];refine fin _ _ (λt ht=>?_) ?_ ?_ ?_ λj hj=>?_
   ·obtain⟨uv,sF,n22,hk⟩:=env t ht;simp only[go_sem,uv,sF,n22,hk]
   all_goals simp only[go_sem,ZR]
   all_goals rfl
 ·have Hk:=List.length_pos_iff.2 ZB;have d0:decide ((b.length:Int)>0)=true:=decide_eq_true J;have wn:IntKind.i64.wrap ((b.length:Int)-1)=(b.length:Int)-1:=by rw[wrap_i64] <;> omega
  obtain⟨x,ix,ex⟩:=acU hb ZB;generalize ZU true (ints (b++[(last:Int)]))=X at *;generalize ZU true (ints b)=Y at *;generalize b.length=n at *
  cases one with
  |true =>
   rw[cond_true] at Ny qI;simp only[go_sem,Pf,g9,Ny,qI,ld,wl,ll,lb,ws,wn,d1,d0,iy,ey,ix,ex];refine fin _ _ (λt ht=>?_) ?_ ?_ ?_ λj hj=>?_
   ·obtain⟨uv,sF,n22,hk⟩:=env t ht;simp only[go_sem,uv,sF,n22,hk]
   all_goals simp only[go_sem,ZR]
   all_goals rfl
  |false =>
   rw[cond_false] at Ny qI;simp only[go_sem,Pf,g9,Ny,qI,ld,wl,ll,lb,ws,wn,d1,d0,iy,ey,ix,ex];refine fin _ _ (λt ht=>?_) ?_ ?_ ?_ λj hj=>?_
   ·obtain⟨uv,sF,n22,hk⟩:=env t ht;simp only[go_sem,uv,sF,n22,hk]
   all_goals simp only[go_sem,ZR]
   all_goals rfl
end
end Go.Am
