/- A part of the proof of a statement of this seat: the machine on which the program is read, and what it computes; for every input. -/
import Derived.Test.YtkmaeondbkpajaaGreatDoorG18
import Derived.Test.YtkmaeondbkpajaaGreatDoorG05
import Derived.Test.YtkmaeondbkpajaaGreatDoorG24
import Derived.Test.YtkmaeondbkpajaaGreatDoorG20
import Derived.Test.YtkmaeondbkpajaaGreatDoorG07
import Derived.Test.YtkmaeondbkpajaaGreatDoorG17
set_option linter.all false
namespace Go.Am
open Go
variable [ZZ]
set_option maxRecDepth 100000
set_option maxHeartbeats 8000000
theorem aeD {s':St}{B:Nat}{l:List Int}{w:AV}{e:Int}(h:ZF s' B 3 1 l.length (ints l) w) :
  (if flat (.XF [w,.int .i64 e])=true then some (AV.XF [w,.int .i64 e]) else Xy U s' U2 (.XF [w,.int .i64 e]))=some (.XF [ZG true (ints l),.int .i64 e]):=by
 rcases Nat.eq_zero_or_pos l.length with h0|h0
 ·have hl:l=[]:=List.eq_nil_of_length_eq_zero h0;subst hl;rcases h with⟨_,rfl,_⟩|⟨h1,_⟩
  ·rfl
  ·exact absurd h1 (by simp)
 ·have hf:flat (.XF [w,.int .i64 e])=false:=by
   rcases h with⟨h1,_⟩|⟨_,_,b,_,_,rfl,_⟩
   ·omega
   ·rfl
  have hd:U2=39+1:=rfl;rw[hf,hd,if_neg (by decide)];have h':ZF s' B 3 1 (ints l).length (ints l) w:=by rw[Zl];exact h
  exact EP (h'.Hm DP DO (VB l) (d:=38) (Hl s' 37 l)) rfl
theorem ahu (p:Prog)(hf:p.fits)(hL:(ZQ (p.steps.map Step.cond)).length<=2^20)(nl:Bool)(l:List Int)(rT:xW p=0)(nF:U0 p.lines l=0)(s:St) :
  Tq U 18 (some [UU p,ZG nl (ints l)]) s=some (.XF [ZG true (ints (UR l p.steps)),.int .i64 0],s):=by
 refine Ri U s ?_;obtain⟨w,s',B,h1,h2⟩:=o32 (fin:=Rs U [.tmp 4,.tmp 5]) (Zu:=fun x=>∃w s' B,x=some (AV.XF [w,.int .i64 0],s')/\ZF s' B 3 1 (UR l p.steps).length (ints (UR l p.steps)) w) p hf hL nl l rT nF
  fun e s w B h4 h5 hv=>⟨w,s,B,by simp only[go_sem,h4,h5],hv⟩
 unfold UN;rw[CN k32 h1];simp only[ajn,if_false];exact aeD h2
theorem ahv (a:YY)(hn:a.next.length<=2^40)(hr:∀r∈a.next,r.2.length<=2^40)(nl:Bool)(l:List Int)(Dk:VY a l=0)(s:St) :
  Tq U 19 (some [VQ a,ZG nl (ints l)]) s=some (.XF [ZG true (ints (Yb a.fa l l.length 0 0).1),.int .i64 0],s):=by
 refine Ri U s ?_;obtain⟨w,s',B,h1,h2⟩:=o57 (fin:=Rs U [.tmp 4,.tmp 5]) (Zu:=fun x=>∃w s' B,x=some (AV.XF [w,.int .i64 0],s')/\ZF s' B 3 1 (Yb a.fa l l.length 0 0).1.length (ints (Yb a.fa l l.length 0 0).1) w) a hn hr nl l Dk
  fun e s w B h4 h5 hv=>⟨w,s,B,by simp only[go_sem,h4,h5],hv⟩
 unfold UN;rw[CN k57 h1];simp only[ajn,if_false];exact aeD h2
theorem CM {f:FuncId}(hp:Pq f=true){x v r:AV}{L:List Int}{s:St}{B:Nat}(hx:still x=true)(hfx:Yc U s 40 x=some x)(h:ZF s B 3 1 L.length (ints L) v)
  (h1:Zw U f [x,ZG true (ints L)]=some r)(h2:Tq U f (some [x,ZG true (ints L)]) s=some (r,s)):XR U (Zw U f [x,v]) f [x,v] s=some (r,s):=by
 have hf:=h.U_ 38;rcases Nat.eq_zero_or_pos L.length with h0|dy
 ·have hL:L=[]:=List.eq_nil_of_length_eq_zero h0;subst hL;have hv:v=.ZM:=by
   rcases h with⟨_,e,_⟩|⟨e,_⟩
   ·exact e
   ·exact absurd e (by simp)
  subst hv;rw[show ZG true (ints [])=.ZM from rfl] at h1;rw[h1,Vy]
 ·have lF:=h.HF (by omega);rw[yP hp s (by simp[ZO,hx,lF])];have hm:YT (Yc U s 40) [x,v]=some [x,ZG true (ints L)]:=by
   simp only[YT,hfx,hf]
  rw[hm];exact h2
theorem wQ (s:St)(p:Prog):Yc U s 40 (UU p)=some (UU p):=by
 rw[Yg,WK];simp only[Yf,Us,Ml,VW,Rn,Rm]
theorem Hk (s:St)(a:YY):Yc U s 40 (VQ a)=some (VQ a):=by
 rw[WT,WK];unfold U6 Xd;simp only[Yf,Us,Ml,VW,Rn,Rm]
theorem ahw {p:Prog}(hf:p.fits)(hL:(ZQ (p.steps.map Step.cond)).length<=2^20)(rT:xW p=0){l:List Int}(nF:U0 p.lines l=0){s:St}{B:Nat}{v:AV}(h:ZF s B 3 1 l.length (ints l) v) :
  XR U (Zw U 18 [UU p,v]) 18 [UU p,v] s=some (.XF [ZG true (ints (UR l p.steps)),.int .i64 0],s):=by
 refine CM (by kernel_rfl) (XX p) (wQ s p) h ?_ (ahu p hf hL true l rT nF s);rw[c32 p hf hL true l];unfold aay;rw[rT,nF];rfl
theorem ahx {a:YY}(hn:a.next.length<=2^40)(hr:∀r∈a.next,r.2.length<=2^40){l:List Int}(Dk:VY a l=0){s:St}{B:Nat}{v:AV}(h:ZF s B 3 1 l.length (ints l) v) :
  XR U (Zw U 19 [VQ a,v]) 19 [VQ a,v] s=some (.XF [ZG true (ints (Yb a.fa l l.length 0 0).1),.int .i64 0],s):=by
 refine CM (by kernel_rfl) (Xp a) (Hk s a) h ?_ (ahv a hn hr true l Dk s);rw[c57 a hn hr true l];unfold lE;rw[Dk];rfl
theorem ahy {a:YY}(hn:a.next.length<=2^40)(hr:∀r∈a.next,r.2.length<=2^40){l:List Int}(Dk:VY a l=0){s:St}{B:Nat}{v:AV}(h:ZF s B 3 1 l.length (ints l) v) :
  XR U (Zw U 20 [VQ a,v]) 20 [VQ a,v] s=some (.XF [.int .i64 (((Yb a.fa l l.length 0 0).2:Nat):Int),.int .i64 0],s):=by
 have h1:Zw U 20 [VQ a,ZG true (ints l)]=some (.XF [.int .i64 (((Yb a.fa l l.length 0 0).2:Nat):Int),.int .i64 0]):=by
  rw[c62 a hn hr true l];unfold lD;rw[Dk];rfl
 exact CM (by kernel_rfl) (Xp a) (Hk s a) h h1 (FL h1 (by kernel_rfl) (by simp[ZO,Xp,YZ]) rfl s)
theorem wP {t:TypeId}{n bytes:Nat}{d:AV}{s:St}(h2:Xg d*bytes<=2^40)(h3:Xg d<=2^40):JW t n bytes d (some (0,[])) s=abu d s:=by
 simp only[JW];rw[if_neg (by simp;omega)];simp
theorem iA {s:St}{B b:Nat}{l:List Int}{v:AV}(h:ZF s B 3 1 l.length (ints l) v)(hb:s.get b=some (.cells [] 3 false 0 0))(aQ:b<s.next)(hl:l.length<=1000) :
  ∃d s1,JW 3 1 8 (.sl b 0 0 (some 0) 1) (WV 1 v s) s=some (d,s1)/\s.next<=s1.next/\Zx d=true/\(∀j,j<s.next->s1.get j=s.get j)/\(Fr s->Fr s1) /\
   ∀s2 x,s1.next<=s2.next->(∀j,j<s1.next->j=b\/s.next<=j->s2.get j=s1.get j)->∃s3,JW 3 1 8 d (some (1,[.int .i64 x])) s2=some (.sl s2.next 0 (l.length+1) none 1,s3)/\s3.next=s2.next+1/\ZF s3 s2.next 3 1 (l++[x]).length (ints (l++[x])) (.sl s2.next 0 (l.length+1) none 1)/\(∀j,j<s.next->s3.get j=s2.get j)/\(Fr s2->Fr s3):=by
 have hz:Go.Am.Xg (.sl b 0 0 (some 0) 1)=0:=rfl;have hi:∀x,ints l++[.int .i64 x]=ints (l++[x]):=fun x=>by rw[ints,ints,ajA];rfl
 have hL:∀x:Int,(l++[x]).length=l.length+1:=fun x=>by simp
 rcases h with⟨h0,rfl,h1⟩|⟨h0,h1,j,bj,hj2,rfl,hg⟩
 ·have gF:l=[]:=List.eq_nil_of_length_eq_zero h0;subst gF;refine⟨.sl b 0 0 (some 0) 1,s,?_,ajg _,rfl,fun _ _=>rfl,id,fun s2 x hn hk=>?_⟩
  ·rw[Km,wP (by rw[hz];omega) (by rw[hz];omega)];rfl
  ·have VD:=(hk b aQ (.inl rfl)).trans hb;refine⟨s2.new (.cells (ints [x]) 3 false 0 0),?_,Z' _ _,?_,fun j hj=>by rw[ZY,if_neg (by omega)],fun hf=>hf.new _⟩
   ·rw[ZD (by rfl) (by rw[hz];omega) (by rw[hz];omega) (by omega),TU VD rfl (by omega)];rfl
   ·exact .inr ⟨by simp,by rw[ajP,Zl];rfl,s2.next,ajg _,by rw[Z'];omega,rfl,by rw[ZY,if_pos rfl];rfl⟩
 ·refine⟨.sl s.next 0 l.length none 1,s.new (.cells (ints l) 3 false 0 0),?_,by rw[Z'];omega,rfl,fun j hj=>by rw[ZY,if_neg (by omega)],fun hf=>hf.new _,fun s2 x hn hk=>?_⟩
  ·rw[KY,hg,LV,El,ajj,<-Zl,Wi,Ek];rw[ZD (by rw[Zl];omega) (by rw[hz,Zl];omega) (by rw[hz,Zl];omega) (by rw[Zl];omega),TU hb rfl (by rw[Zl];omega)];rw[ajr];rfl
  ·rw[Z'] at hn hk;have VD:s2.get s.next=some (.cells (ints l) 3 false 0 0):=by
    rw[hk s.next (by omega) (.inr (ajg _)),ZY,if_pos rfl]
   refine⟨(s2.put s.next .gone).new (.cells (ints (l++[x])) 3 false 0 0),?_,?_,?_,fun j hj=>?_,fun hf=>(hf.put (by omega) _).new _⟩
   ·rw[ZD (by rfl) (by rw[QB];omega) (by rw[QB];omega) (by omega),Tg,VD,UO (by rw[Zl];omega) (by omega) rfl,hi]
   ·rw[Z',Z_]
   ·exact .inr ⟨by rw[hL];omega,by rw[Zl];omega,s2.next,ajg _,by rw[Z',Z_];omega,by rw[hL],by rw[ZY,Z_,if_pos rfl]⟩
   ·rw[ZY,Z_,if_neg (by omega),Z0,if_neg (by omega)]
theorem kK (X:Cx)(t:TypeId)(c:Bool)(a m:Nat)(hm:m≠0):WO X .rem t c (.int .i64 (a:Int)) (.int .i64 (m:Int))=some (.int .i64 ((a%m:Nat):Int)):=by
 have hz:¬((m:Int)=0):=by omega
 have e:((a:Int).tmod (m:Int))=((a%m:Nat):Int):=rfl;simp only[WO,Pp,e,if_true];rw[if_neg hz]
theorem kJ (t:TypeId)(cst:Bool){L:Nat}(hL:L=1\/L=2)(a:Int)(h0:0<=a)(h1:a<2^62):WO U .and t cst (.int .i64 a) (.int .i64 (2^L-1))=some (.int .i64 (a%2^L)):=by
 rcases hL with rfl|rfl
 ·exact L2 t cst a h0 h1
 ·show WO U .and t cst (.int .i64 a) (.int .i64 3)=some (.int .i64 (a%4));simp only[WO,if_true,Pp];have h2:IntKind.i64.bits=64:=rfl;rw[h2];have:((BitVec.ofInt 64 a &&& BitVec.ofInt 64 3).toNat:Int)=a%4:=by
   rw[BitVec.toNat_and,BitVec.toNat_ofInt,BitVec.toNat_ofInt];have e1:(3%((2^64:Nat):Int)).toNat=3:=by decide
   have e2:(a%((2^64:Nat):Int)).toNat=a.toNat:=by
    rw[Int.emod_eq_of_lt h0 (by omega)]
   have e3:=Nat.and_two_pow_sub_one_eq_mod a.toNat 2;rw[e1,e2];have e4:a.toNat &&& 3=a.toNat%4:=e3;rw[e4];omega
  rw[this,wrap_i64] <;> omega
structure oZ (p:Prog)(A:YY)(s:St):Prop where
 g8:s.get 8=some (.cells [.int .i64 p.lines,ZG p.nl (Zr p.steps)] 31 false 0 0)
 g9:s.get 9=some (.cells [.int .i64 p.lines,ZG true (Zr p.norm.steps)] 25 false 0 0)
 Qo:s.get 10=some (.cells [.int .i64 A.lines,U6 A,Xd A] 42 false 0 0)
 nx:12<=s.next
 fr:Fr s
theorem oZ.mono {p:Prog}{A:YY}{s s':St}(h:oZ p A s)(hn:s.next<=s'.next)(hf:Fr s')(hg:∀j,j<11->s'.get j=s.get j):oZ p A s' :=
 ⟨(hg 8 (by omega)).trans h.g8,(hg 9 (by omega)).trans h.g9,(hg 10 (by omega)).trans h.Qo,aka h.nx hn,hf⟩
section
variable {p:Prog}{A:YY}{L n:Nat}(hL:L=1\/L=2)(Tz:p.lines=(L:Nat))(hn:L*n<=6)
include hL Tz hn
theorem eD {fin:Fl->Option AV}{ks:List K}{r:Option AV}{e:Env}{s:St}{x2 x5 x6 x8:AV}(h2:x2=.ptr 8 0)(gs:s.get 8=some (.cells [.int .i64 p.lines,ZG p.nl (Zr p.steps)] 31 false 0 0))
  (g2:Env.get e 2=x2)(g5:Env.get e 5=x5)(g6:Env.get e 6=x6)(g8:Env.get e 8=x8)(g9:Env.get e 9=.int .i64 1)(g58:Env.get e 58=.int .i64 (n:Nat))(g59:Env.get e 59=.int .i64 0)
  (hk:∀e' tt,tt<=64->Env.get e' 2=x2->Env.get e' 5=x5->Env.get e' 6=x6->Env.get e' 8=x8->Env.get e' 9=.int .i64 ((tt:Nat):Int)->goN U fin ks e' s=r) :
  SC U fin (.bk 0::ks) LZ e s=r:=by
 subst h2;refine YG (σ:=Nat) (Zu:=fun (x:Option AV)=>x=r) (fun i=>n-i) (fun i e s'=>s'=s/\i<=n/\Env.get e 2=.ptr 8 0/\Env.get e 5=x5/\Env.get e 6=x6/\Env.get e 8=x8/\Env.get e 9=.int .i64 ((2^(L*i):Nat):Int)/\Env.get e 58=.int .i64 (n:Nat)/\Env.get e 59=.int .i64 (i:Nat)) 0 ?_ ⟨rfl,aji _,g2,g5,g6,g8,g9,g58,g59⟩;clear g2 g5 g6 g8 g9 g58 g59 e;rintro Lp i e s' ⟨rfl,hi,g2,g5,g6,g8,g9,g58,g59⟩ IH;have hle:∀i,i<=n->2^(L*i)<=64:=fun i hi=>Nat.pow_le_pow_right (n:=2) (by omega) (show L*i<=6 from aka (Nat.mul_le_mul_left L hi) hn)
 by_cases hd:i<n
 ·have hn6:n<=6:=by rcases hL with rfl|rfl <;> omega
  have hw:=ZE hd (by omega);have h64:=hle (i+1) hd;have hmul:((2^(L*i):Nat):Int)*2^L=((2^(L*(i+1)):Nat):Int):=by
   rw[Nat.mul_add,ajj,Nat.pow_add];push_cast;rfl
  have hwm:IntKind.i64.wrap (((2^(L*i):Nat):Int)*2^L)=((2^(L*(i+1)):Nat):Int):=by
   rw[hmul];generalize 2^(L*(i+1))=y at h64;rw[wrap_i64] <;> omega
  have SF:=Va U 3 true .i64 (n:=p.lines) (by rw[Tz];rcases hL with rfl|rfl <;> omega);rw[show p.lines.toNat=L by rw[Tz];rfl] at SF;simp only[go_sem,LZ,g2,g5,g6,g8,g9,g58,g59,gs,Z9,hd,SF,hwm,hw];refine IH (i+1) _ _ (by omega) ⟨rfl,by omega,?_,?_,?_,?_,?_,?_,?_⟩ <;> simp only[go_sem,g2,g5,g6,g8,g58,hw]
 ·have:i=n:=by omega
  subst this;simp only[go_sem,LZ,g58,g59,Z9,ajp];refine hk _ (2^(L*i)) (hle i hi) ?_ ?_ ?_ ?_ ?_ <;> simp only[go_sem,g2,g5,g6,g8,g9]
theorem eC {fin:Fl->Option AV}{ks:List K}{r:Option AV}{e:Env}{s:St}{q:Nat}(hq:q<=64)(H:oZ p A s){x6 x8 x10 x68 x69:AV}
  (g2:Env.get e 2=.ptr 8 0)(g5:Env.get e 5=.ptr 9 0)(g6:Env.get e 6=x6)(g8:Env.get e 8=x8)(Qo:Env.get e 10=x10)(DZ:Env.get e 11=.int .i64 (q:Nat))(SB:Env.get e 12=.ZM)(DA:Env.get e 68=x68)(Dz:Env.get e 69=x69)(g72:Env.get e 72=.int .i64 (n:Nat))(g73:Env.get e 73=.int .i64 0)
  (hk:∀e' s' l v,oZ p A s'->s'.get 11=s.get 11->l.length=n->(∀x∈l,0<=x/\x<2^L)->ZF s' 12 3 1 l.length (ints l) v->Env.get e' 2=.ptr 8 0->Env.get e' 5=.ptr 9 0->Env.get e' 6=x6->Env.get e' 8=x8->Env.get e' 10=x10->Env.get e' 12=v->Env.get e' 68=x68->Env.get e' 69=x69->goN U fin ks e' s'=r) :
  SC U fin (.bk 4::ks) LY e s=r:=by
 refine YG (σ:=Nat) (Zu:=fun (x:Option AV)=>x=r) (fun i=>n-i) (fun i e s'=>oZ p A s'/\s'.get 11=s.get 11/\i<=n/\Env.get e 2=.ptr 8 0/\Env.get e 5=.ptr 9 0/\Env.get e 6=x6/\Env.get e 8=x8/\Env.get e 10=x10/\Env.get e 11=.int .i64 (q:Nat)/\Env.get e 68=x68/\Env.get e 69=x69/\Env.get e 72=.int .i64 (n:Nat)/\Env.get e 73=.int .i64 (i:Nat) /\
  ∃(l:List Int) (v:AV),Env.get e 12=v/\l.length=i/\(∀x∈l,0<=x/\x<2^L)/\ZF s' 12 3 1 l.length (ints l) v) 0 ?_ ⟨H,rfl,aji _,g2,g5,g6,g8,Qo,DZ,DA,Dz,g72,g73,[],.ZM,SB,rfl,fun x hx=>(by cases hx),ZF.nil _ _ _ _⟩
 clear g2 g5 g6 g8 Qo DZ SB DA Dz g72 g73 e;rintro Lp i e s' ⟨H',h11,hi,g2,g5,g6,g8,Qo,DZ,DA,Dz,g72,g73,l,v,SB,hl,aS,hv⟩ IH;have hn6:n<=6:=by rcases hL with rfl|rfl <;> omega
 by_cases hd:i<n
 ·have hw:=ZE hd (by omega);have hle:L*i<=6:=aka (Nat.mul_le_mul_left L hi) hn;have hwm:IntKind.i64.wrap ((i:Int)*p.lines)=((L*i:Nat):Int):=by
   rw[Tz,Int.mul_comm,<-Int.natCast_mul,wrap_i64] <;> omega
  have ae0:=Jo 3 false (q:Int) ((L*i:Nat):Int) (by omega) (by omega);rw[ajD] at ae0;have SF:=Va U 3 true .i64 (n:=p.lines) (by rw[Tz];rcases hL with rfl|rfl <;> omega);rw[show p.lines.toNat=L by rw[Tz];rfl] at SF;have af3:(2:Int)^L=2\/(2:Int)^L=4:=by rcases hL with rfl|rfl <;> simp
  have hws:IntKind.i64.wrap ((2:Int)^L-1)=2^L-1:=by rw[wrap_i64] <;> omega
  have hdv:=CT (L*i) (show (0:Int)<=(q:Int) by omega);have hand:=kJ 3 false hL ((q:Int) / 2^(L*i)) hdv.1 (by omega);generalize hx:(q:Int) / 2^(L*i)%2^L=x at hand;have ti:0<=x/\x<2^L:=by
   rw[<-hx];exact⟨Int.emod_nonneg _ (by omega),Int.emod_lt_of_pos _ (by omega)⟩
  have Qf:=hv.Xg;have Ub:=hv.Zx;have Un:(l.length+1)*8<=1099511627776:=by omega
  have VD:l.length+1<=1099511627776:=by omega
  have gs:=H'.g8;have LC:=H'.fr.at;have UL:=H'.nx;have ne:∀a k,a<=11->(s'.next+k=a)=False:=fun a k ha=>by simp;omega
  simp only[go_sem,LY,g2,DZ,SB,g72,g73,gs,Z9,hd,hwm,ae0,SF,hws,hand,LC,ne,ZD,Nat.reducePow,ajB,Qf,Ub,Un,VD];have hN:∀W,((s'.upto (s'.next+15)).put (s'.next+12) W).next=s'.next+15:=fun W=>by rw[Z_,ZV]
  have hG:∀W j,j<s'.next->((s'.upto (s'.next+15)).put (s'.next+12) W).get j=s'.get j:=fun W j hj=>by rw[Z0,if_neg (by omega),ZH]
  have hF:∀W,Fr ((s'.upto (s'.next+15)).put (s'.next+12) W):=fun W=>(H'.fr.upto (by omega)).put (by rw[ZV];omega) _
  have Cy:∀W,ZF ((s'.upto (s'.next+15)).put (s'.next+12) W) 12 3 1 l.length (ints l) v:=fun W=>hv.mono (by rw[hN];omega) fun j _ hj=>hG W j hj
  obtain⟨s1,e1,e2,e3,e4,e5⟩:=(Cy (.cells [.int .i64 x] 3 false 0 0)).app (by rw[hN];omega) (m:=1) (new:=[.int .i64 x]) (by omega) (by rfl) (by rfl);rw[hN] at e1 e2 e3;have xp:∀j,j<12->s1.get j=s'.get j:=fun j hj=>(e4 j hj).trans (hG _ j (by omega))
  have jn:l.length+1=(l++[x]).length:=by simp
  have hI1:ints l++[.int .i64 x]=ints (l++[x]):=by rw[ints,ints,ajA];rfl
  rw[e1];simp only[go_sem,g73,hw];rw[hI1,jn] at e3;refine IH (i+1) _ _ (by omega) ⟨H'.mono (by omega) (e5 (hF _)) fun j hj=>xp j (by omega),(xp 11 (by omega)).trans h11,by omega,?_,?_,?_,?_,?_,?_,?_,?_,?_,?_,l++[x],_,?_,by rw[<-jn,hl],fun y hy=>?_,e3⟩
  case refine_12 =>
   rcases ajX.1 hy with h|h
   ·exact aS y h
   ·rw[ajm] at h;rw[h];exact ti
  all_goals simp only[go_sem,g2,g5,g6,g8,Qo,DZ,DA,Dz,g72,hw,jn]
 ·have:i=n:=by omega
  subst this;simp only[go_sem,LY,g72,g73,Z9,ajp];refine hk _ _ l v H' h11 hl aS hv ?_ ?_ ?_ ?_ ?_ ?_ ?_ ?_ <;> simp only[go_sem,g2,g5,g6,g8,Qo,SB,DA,Dz]
end
end Go.Am
namespace Go.Am
open Go
variable [ZZ]
set_option maxRecDepth 100000
set_option maxHeartbeats 8000000
section
variable {nl:Bool}{l:List Int}(hl:EV l){t:Nat}(ht:t+1=l.length){k:X6}{a b mi ma:Int}{pat:X6}{knl:Bool}{kids:List ZX}
include hl ht
end
end Go.Am
namespace Go.Am
open Go
section
variable {S:Type} [DecidableEq S]
def WN:List S->S->Nat
 |[],_=>0
 |x::l,c=>if x=c then 0 else WN l c+1
theorem Oo:∀(l:List S) (c:S),WN l c<l.length<->c∈l
 |[],c=>by simp[WN]
 |x::l,c=>by
  have:=Oo l c;rw[WN,ajk,ajo];by_cases h:x=c
  ·rw[if_pos h];exact⟨fun _=>.inl h.symm,fun _=>by omega⟩
  ·rw[if_neg h]
   constructor
   ·intro h2;exact .inr (this.1 (by omega))
   ·rintro (h2|h2)
    ·exact absurd h2.symm h
    ·have:=this.2 h2;omega
theorem zT (c:S):∀(L R:List S),c∈L->WN (L++R) c=WN L c
 |[],R,h=>by simp at h
 |x::L,R,h=>by
  rw[ajz,WN,WN];by_cases hx:x=c
  ·rw[if_pos hx,if_pos hx]
  ·rw[if_neg hx,if_neg hx,zT c L R (by
    rcases ajo.1 h with h|h
    ·exact absurd h.symm hx
    ·exact h)]
theorem zR (c:S):∀(L:List S),c∉L->WN (L++[c]) c=L.length
 |[],_=>by simp[WN]
 |x::L,h=>by
  rw[ajz,WN,if_neg (fun e=>h (by rw[e];exact aba ..)),zR c L fun h2=>h (aab _ h2)];rfl
theorem CK (c:S):∀(L:List S),c∉L->WN L c=L.length
 |[],_=>rfl
 |x::L,h=>by
  rw[WN,if_neg (fun e=>h (by rw[e];exact aba ..)),CK c L fun h2=>h (aab _ h2)];rfl
theorem Jm:∀{l:List S} {c:S},c∈l->l[WN l c]? = some c
 |[],c,h=>by simp at h
 |x::l,c,h=>by
  rw[WN];by_cases hx:x=c
  ·rw[if_pos hx,hx];rfl
  ·rw[if_neg hx,ajO];exact Jm (by
    rcases ajo.1 h with h|h
    ·exact absurd h.symm hx
    ·exact h)
def SX (L:List S)(z:S):List S:=if z∈L then L else L++[z]
theorem Iw (L:List S)(z:S):∃R,SX L z=L++R:=by
 unfold SX;by_cases h:z∈L
 ·exact⟨[],by rw[if_pos h,ajG]⟩
 ·exact⟨[z],by rw[if_neg h]⟩
theorem zS (L:List S)(z:S):z∈SX L z:=by
 unfold SX;by_cases h:z∈L
 ·rw[if_pos h];exact h
 ·rw[if_neg h];exact List.mem_append_right _ (ajm.2 rfl)
theorem tP {L:List S}{z c:S}(h:c∈SX L z):c∈L\/c=z:=by
 unfold SX at h;by_cases hz:z∈L
 ·rw[if_pos hz] at h;exact .inl h
 ·rw[if_neg hz] at h;rcases ajX.1 h with h|h
  ·exact .inl h
  ·exact .inr (ajm.1 h)
theorem dW {L:List S}(h:L.Nodup)(z:S):(SX L z).Nodup:=by
 unfold SX;by_cases hz:z∈L
 ·rw[if_pos hz];exact h
 ·rw[if_neg hz];rw[List.nodup_append];refine⟨h,by simp,fun a ha b hb=>?_⟩;rw[ajm.1 hb];rintro rfl;exact hz ha
def Uz (g:Nat->S):Nat->Nat->List S->List S
 |0,_,L=>L
 |r+1,y,L=>Uz g r (y+1) (SX L (g y))
def PZ (nx:S->Nat->S)(m:Nat):Nat->Nat->List S->List S
 |0,_,L=>L
 |f+1,i,L=>match L[i]? with
  |none=>L
  |some x=>PZ nx m f (i+1) (Uz (nx x) m 0 L)
theorem GJ {Inv:S->Prop}{g:Nat->S}:∀(r y:Nat) (L:List S),(∀z,y<=z->z<y+r->Inv (g z))->L.Nodup->(∀x∈L,Inv x) ->
  (∃R,Uz g r y L=L++R)/\(Uz g r y L).Nodup/\(∀x∈Uz g r y L,Inv x)/\∀z,y<=z->z<y+r->g z∈Uz g r y L
 |0,y,L,_,h1,h2=>⟨⟨[],(ajG L).symm⟩,h1,h2,fun z a b=>by omega⟩
 |r+1,y,L,hg,h1,h2=>by
  obtain⟨R0,e0⟩:=Iw L (g y);obtain⟨⟨R,e⟩,k1,k2,k3⟩:=GJ (Inv:=Inv) (g:=g) r (y+1) (SX L (g y)) (fun z a b=>hg z (by omega) (by omega)) (dW h1 _) fun x hx=>by
   rcases tP hx with h|h
   ·exact h2 x h
   ·rw[h];exact hg y (ajg _) (by omega)
  refine⟨⟨R0++R,by rw[Uz,e,e0,ajQ]⟩,k1,k2,fun z a b=>?_⟩;by_cases hz:z=y
  ·subst hz;rw[Uz,e];exact List.mem_append_left _ (zS L (g z))
  ·exact k3 z (by omega) (by omega)
structure Cw (nx:S->Nat->S)(m:Nat)(Inv:S->Prop)(i:Nat)(L:List S):Prop where
 nd:L.Nodup
 inv:∀x∈L,Inv x
 le:i<=L.length
 cl:∀j,j<i->∀(h:j<L.length) y,y<m->nx L[j] y∈L
theorem Cw.len {nx:S->Nat->S}{m n:Nat}{Inv:S->Prop}{κ:S->Nat}(hκ:∀x,Inv x->κ x<n)(hinj:∀x y,Inv x->Inv y->κ x=κ y->x=y){i:Nat}{L:List S}(h:Cw nx m Inv i L):L.length<=n:=by
 have BL:((L.map κ).map id).Nodup:=by
  rw[List.map_id,List.nodup_iff_pairwise_ne,List.pairwise_map];exact (List.nodup_iff_pairwise_ne.1 h.nd).imp_of_mem fun ha hb (Zv:_≠_) e=>Zv (hinj _ _ (h.inv _ ha) (h.inv _ hb) e)
 have:=Vm BL (n:=n) fun a ha=>by
  obtain⟨x,hx,rfl⟩:=ajs.1 ha;exact hκ x (h.inv x hx)
 rwa [aje] at this
theorem Cw.row {nx:S->Nat->S}{m:Nat}{Inv:S->Prop}(hI:∀x,Inv x->∀y,y<m->Inv (nx x y)){i:Nat}{L:List S}(h:Cw nx m Inv i L)(hi:i<L.length):Cw nx m Inv (i+1) (Uz (nx L[i]) m 0 L)/\∃R,Uz (nx L[i]) m 0 L=L++R:=by
 obtain⟨⟨R,e⟩,k1,k2,k3⟩:=GJ (Inv:=Inv) (g:=nx L[i]) m 0 L (fun z _ hz=>hI _ (h.inv _ (ajc hi)) z (by omega)) h.nd h.inv;refine⟨⟨k1,k2,by rw[e,ajh];omega,fun j hj hjl y hy=>?_⟩,R,e⟩;have hg:(Uz (nx L[i]) m 0 L)[j]=L[j]'(by omega):=by
  have:(L++R)[j]'(by rw[ajh];omega)=L[j]'(by omega):=aj9 (by omega);rw[<-this]
  congr 1
 rw[hg];by_cases hji:j=i
 ·subst hji;exact k3 y (aji _) (by omega)
 ·rw[e];exact List.mem_append_left _ (h.cl j (by omega) (by omega) y hy)
theorem QU {nx:S->Nat->S}{m n:Nat}{Inv:S->Prop}{κ:S->Nat}(hI:∀x,Inv x->∀y,y<m->Inv (nx x y))(hκ:∀x,Inv x->κ x<n)(hinj:∀x y,Inv x->Inv y->κ x=κ y->x=y) :
  ∀(f i:Nat) (L:List S),Cw nx m Inv i L->n+1<=f+i->Cw nx m Inv (PZ nx m f i L).length (PZ nx m f i L)/\(PZ nx m f i L).length<=n/\∃R,PZ nx m f i L=L++R:=by
 have hlen:∀i L,Cw nx m Inv i L->L.length<=n:=fun i L h=>h.len hκ hinj
 intro f
 induction f with
 |zero =>
  intro i L h hf;have:=hlen i L h;have:=h.le;omega
 |succ f ih =>
  intro i L h hf;rw[PZ];by_cases hi:i<L.length
  ·rw[aaa hi];simp only;obtain⟨h',R,e⟩:=h.row hI hi;obtain⟨k1,k2,R2,e2⟩:=ih (i+1) _ h' (by omega);exact⟨k1,k2,R++R2,by rw[e2,e,ajQ]⟩
  ·rw[akb (by omega)];have:i=L.length:=by have:=h.le;omega
   subst this;exact⟨h,hlen _ _ h,[],(ajG L).symm⟩
end
end Go.Am
