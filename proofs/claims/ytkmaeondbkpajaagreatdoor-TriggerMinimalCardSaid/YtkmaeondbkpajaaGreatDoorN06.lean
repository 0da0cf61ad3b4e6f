/- A part of the proof of a statement of this seat: the machine on which the program is read, and what it computes; for every input. -/
import Derived.Test.YtkmaeondbkpajaaGreatDoorN05
import Derived.Test.YtkmaeondbkpajaaGreatDoorN04
import Derived.Test.YtkmaeondbkpajaaGreatDoorN00
set_option linter.all false
namespace Go.Am
open Go
variable [Z3]
set_option maxRecDepth 100000
set_option maxHeartbeats 4000000
theorem gV (k:IntKind)(p:Bool)(x y:Int):br p (AV.int k x) (AV.int k y)=.int k (br p x y):=by cases p <;> rfl
attribute [go_sem] gV
theorem c94 (n a b:Int):Zv U 65 [.int .i64 n,.int .i64 a,.int .i64 b]=some (.bool (outside n a b)):=by
 refine Za k94 (by kernel_rfl) rfl ?_;simp +contextual only[go_sem,r94];rfl
theorem Jx (p:Bool)(n:Int):Zv U 85 [.bool p,.int .i64 n]=some (.int .i64 (br p n 0)):=by
 refine Za abX (by kernel_rfl) rfl ?_;simp +contextual only[go_sem,dm]
theorem acA (n a b:Int):Zv U 111 [.int .i64 n,.int .i64 a,.int .i64 b]=some (.int .i64 (within n a b)):=by
 refine Za abY (by kernel_rfl) rfl ?_;simp +contextual only[go_sem,dk,Jx];rfl
theorem VQ {X:Cx}{β:Type}{fin:Fl->β}{ks:List K} [Stat] {b:RC}{σ:Type}(m:σ->Nat)(R:σ->β)(I:σ->Env->St->Prop)(x:σ){r:β}{e:Env}{s:St}
  (h:∀(L:RC) (x:σ) (e:Env) (s:St),I x e s->(∀(y:σ) (e':Env) (s':St),m y<m x->I y e' s'->Vx X fin ks L e' s'=R y)->go X fin (.lp L::ks) b e s=R x)
  (hr:R x=r)(hI:I x e s):Vx X fin ks b e s=r:=by
 rw[<-hr];exact zN X fin ks m I R h x hI
theorem Xz (l:List Int):(ints l).length=l.length:=by simp[ints]
theorem Rp (l:List Int)(i:Nat):(ints l)[i]? = (l[i]?).map (.int .i64 ·):=by simp[ints]
theorem Z8 (a b:Nat):decide ((a:Int)<(b:Int))=decide (a<b):=by congr 1;apply propext;omega
theorem g89 (l:List Int)(hlen:l.length<2^62):go U (VZ U [.tmp 2]) [] r89 (ZM 0 [.fz (ints l)] .nil) (YH U)=some (.int .i64 (X0 l)):=by
 simp only[go_sem,r89];refine VQ (σ:=Nat) (fun i=>l.length-i) (fun i=>some (AV.int .i64 (X0 (l.drop i)))) (fun i e s=>i<=l.length/\Env.get e 5=.fz (ints l)/\Env.get e 6=.int .i64 l.length/\Env.get e 7=.int .i64 i) 0 ?_ rfl ?_
 ·rintro L i e s ⟨hi,h5,h6,h7⟩ ih;by_cases hd:i<l.length
  ·have hx:(ints l)[i]? = some (.int .i64 l[i]):=by rw[Rp,aaa hd];rfl
   have hw:IntKind.i64.wrap ((i:Int)+1)=((i+1:Nat):Int):=by rw[wrap_i64] <;> omega
   simp only[go_sem,Dv,h5,h6,h7,Z8,hd,hx];rw[aeY hd,X0]
   cases hb:l[i] != 0
   ·simp only[go_sem,hw];refine ih (i+1) _ _ (by omega) ⟨by omega,?_,?_,?_⟩ <;> simp only[go_sem,h5,h6,h7,hw]
   ·simp only[go_sem]
  ·have:i=l.length:=by omega
   subst this;simp only[go_sem,Dv,h5,h6,h7,Z8,afg];rw[afE];rfl
 ·refine⟨ae5 _,?_,?_,?_⟩ <;> simp only[go_sem,Xz] <;> rfl
theorem Uo.ind {P:Uo->Prop}(h:∀k a b mi ma p nl kids,(∀x∈kids,P x)->P (.mk k a b mi ma p nl kids)):∀c,P c:=by
 intro c;exact Uo.rec (motive_1:=P) (motive_2:=fun l=>∀x∈l,P x) (fun k a b mi ma p nl kids ih=>h k a b mi ma p nl kids ih) (fun x hx=>by cases hx)
  (fun c l h1 h2 x hx=>by
   rcases afa.1 hx with rfl|hx
   ·exact h1
   ·exact h2 x hx) c
theorem ZI {i n:Nat}(h:i<n)(hn:n<2^62):IntKind.i64.wrap ((i:Int)+1)=((i+1:Nat):Int):=by rw[wrap_i64] <;> omega
end Go.Am
namespace Go.Am
open Go
variable [Z3]
set_option maxRecDepth 100000
set_option maxHeartbeats 8000000
theorem wL (k:IntKind)(p:Bool)(x y:Int):some (AV.int k (br p x y))=br p (some (.int k x)) (some (.int k y)):=by cases p <;> rfl
end Go.Am
namespace Go.Am
open Go
variable [Z3]
set_option maxRecDepth 100000
end Go.Am
namespace Go.Am
open Go
variable [Z3]
set_option maxRecDepth 100000
set_option maxHeartbeats 8000000
def xB (X:Cx)(t:TypeId)(ok:Bool)(m k:Option AV)(s:St):Option (AV×St):=match m,k with
 |some m,some k=>ZA (WI X t m k ok s) s
 |_,_=>none
theorem DP (X:Cx)(ex:Ex)(e:Env)(s:St)(t:TypeId)(m k:Operand)(ok:Bool):Zb X ex e (.lookup t m k ok) s=xB X t ok (eval X e m) (eval X e k) s:=by
 unfold xB;simp only[Zb];rfl
theorem DO (X:Cx)(t:TypeId)(ok:Bool)(m k:AV)(s:St):xB X t ok (some m) (some k) s=ZA (WI X t m k ok s) s:=(fun h=>h) rfl
attribute [go_sem] DP DO
theorem xn {f:FuncId}{us:List AV}{v:AV}(h:Zv U f us=some v)(hp:Re f=true)(Xg:ZK us=true)(hf:flat v=true)(s:St):UC U f (some us) s=some (v,s):=by
 have h:=G_ h (YH U);obtain⟨p1,p2⟩:=Ui hp;unfold WW Wa at h;rw[p2] at h;simp only[p1,if_true,Rm,Yb,Xg] at h
 split at h
 ·rename_i w hq
  cases h
  refine Yk U s ?_;unfold YV at hq ⊢
  split at hq
  ·rename_i v0 s' hB;simp only[if_true] at hq;have:=Fu s' _ _ _ hq hf;subst this;simp[hf]
  ·cases hq
 ·cases h
theorem lZ (l:List Int)(hl:l.length<2^62)(s:St):UC U 93 (some [.fz (ints l)]) s=some (.int .i64 (X0 l),s) :=
 xn (Za k89 (by kernel_rfl) (by simp[ZK,still]) (g89 l hl)) (by kernel_rfl) (by simp[ZK,still]) rfl s
theorem K_ (a b:Int)(s:St):UC U 93 (some [.fz [.int .i64 a,.int .i64 b]]) s=some (.int .i64 (X0 [a,b]),s):=lZ [a,b] (by simp) s
theorem lY (a b c:Int)(s:St):UC U 93 (some [.fz [.int .i64 a,.int .i64 b,.int .i64 c]]) s=some (.int .i64 (X0 [a,b,c]),s):=lZ [a,b,c] (by simp) s
theorem lX (a b c d:Int)(s:St):UC U 93 (some [.fz [.int .i64 a,.int .i64 b,.int .i64 c,.int .i64 d]]) s=some (.int .i64 (X0 [a,b,c,d]),s):=lZ [a,b,c,d] (by simp) s
theorem eY {args:List AV}{s:St}(h:ZK args=false):YX U (Zv U 93 args) 93 args s=UC U 93 (Zg (YG U s 40) args) s:=Jv (by kernel_rfl) s h
end Go.Am
namespace Go.Am
open Go
variable [Z3]
set_option maxRecDepth 100000
section
variable (X:Cx)
def tp (len:Nat)(x:Option (List AV)):Option (Nat×List AV):=match x with
 |some r=>some (len,r)
 |none=>none
def oL (len k o:Nat)(x:Option (List AV)):Option (Nat×List AV):=match x with
 |some c=>tp len (YB k o c)
 |none=>none
theorem yh (len:Nat)(r:List AV):tp len (some r)=some (len,r):=(fun h=>h) rfl
theorem yg (len k o:Nat)(c:List AV):oL len k o (some c)=tp len (YB k o c):=(fun h=>h) rfl
theorem H8 (n b o len:Nat)(cap:Option Nat)(z:Nat)(s:St):Wt n (.sl b o len cap z) s=oL len (len*n) o (cellsOf (s.get b)):=by
 simp only[Wt,<-MW,oL,tp];rfl
def tn (t:TypeId)(n m:Nat)(new:List AV)(b o len:Nat)(Xo:Nat)(s:St)(x:Option UK):Option (AV×St):=match x with
 |some (.cells c e0 false RA Ss)=>match YB (len*n) o c with
  |some old=>if Xo=n/\Ss<=o+len*n/\e0=t/\new.all Zw=true then
    some (.sl s.next 0 (len+m) none n,(s.put b .gone).new (.cells (old++new) t false (RA-o) (Ss-o)))
   else none
  |none=>none
 |_=>none
def SG (t:TypeId)(n m:Nat)(new:List AV)(d:AV)(s:St):Option (AV×St):=match d with
 |.ZR=>some (.sl s.next 0 m none n,s.new (.cells new t false 0 0))
 |.sl b o len cap Xo=>match s.cells b with
  |some c=>match YB (len*n) o c with
   |some old =>
    match cap with
    |some k=>if len+m<=k then
      if Xo=n then match Yi s b (o+len*n) new with
       |some s'=>some (.sl b o (len+m) (some k) n,s')
       |none=>none
      else none
     else some (.sl s.next 0 (len+m) none n,s.new (.cells (old++new) t false 0 0))
    |none=>match s.get b with
     |some (.cells _ e0 false RA Ss) =>
      if Xo=n/\Ss<=o+len*n/\e0=t/\new.all Zw=true then
       some (.sl s.next 0 (len+m) none n,(s.put b .gone).new (.cells (old++new) t false (RA-o) (Ss-o)))
      else none
     |_=>none
   |none=>none
  |none=>none
 |_=>none
def aaP (d:AV)(s:St):Option (AV×St):=match d with
 |.ZR=>some (d,s)
 |.sl ..=>some (d,s)
 |.fz _=>some (d,s)
 |_=>none
def HQ (t:TypeId)(n bytes:Nat)(d:AV)(x:Option (Nat×List AV))(s:St):Option (AV×St):=match x with
 |some (m,new) =>
  if new.length≠m*n\/(WK d+m)*bytes>2^40\/WK d+m>2^40 then none
  else if m=0 then aaP d s else SG t n m new d s
 |none=>none
theorem ic (t:TypeId)(n bytes:Nat)(d x:AV)(s:St):yY t n bytes d x s=HQ t n bytes d (Wt n x s) s:=by
 unfold yY HQ SG aaP;rfl
theorem ZD {t:TypeId}{n bytes:Nat}{d:AV}{m:Nat}{new:List AV}{s:St}(h1:new.length=m*n)(h2:(WK d+m)*bytes<=2^40)(h3:WK d+m<=2^40)(h4:m≠0) :
  HQ t n bytes d (some (m,new)) s=SG t n m new d s:=by
 simp only[HQ];rw[if_neg (by omega),if_neg h4]
theorem Xy (t:TypeId)(n m:Nat)(new:List AV)(s:St):SG t n m new .ZR s=some (.sl s.next 0 m none n,s.new (.cells new t false 0 0)):=(fun h=>h) rfl
theorem Uq (t:TypeId)(n m:Nat)(new:List AV)(b o len Xo:Nat)(s:St):SG t n m new (.sl b o len none Xo) s=tn t n m new b o len Xo s (s.get b):=by
 simp only[SG,tn,St.cells]
 cases s.get b with
 |none=>rfl
 |some x =>
  cases x <;> simp only
  rename_i c e0 ro lo hi
  cases ro <;> simp only
  cases YB (len*n) o c <;> rfl
theorem Wm {t:TypeId}{n m:Nat}{new:List AV}{b len:Nat}{s:St}{cs:List AV}{lo hi:Nat}(hl:cs.length=len*n)(hh:hi<=len*n)(LP:new.all Zw=true) :
  tn t n m new b 0 len n s (some (.cells cs t false lo hi))=some (.sl s.next 0 (len+m) none n,(s.put b .gone).new (.cells (cs++new) t false lo hi)):=by
 simp only[tn];rw[<-hl,XG];simp only[true_and];rw[if_pos ⟨by omega,LP⟩];simp
theorem yf:WK .ZR=0:=(fun h=>h) rfl
theorem N8 (b o n:Nat)(c:Option Nat)(z:Nat):WK (.sl b o n c z)=n:=(fun h=>h) rfl
def Zi (s:St)(B:Nat)(t:TypeId)(n i:Nat)(cs:List AV)(v:AV):Prop :=
 (i=0/\v=.ZR/\cs=[])\/(0<i/\cs.length=i*n/\∃b,B<=b/\b<s.next/\v=.sl b 0 i none n/\s.get b=some (.cells cs t false 0 0))
theorem Zi.nil (s:St)(B:Nat)(t:TypeId)(n:Nat):Zi s B t n 0 [] .ZR:=.inl ⟨rfl,rfl,rfl⟩
theorem Zi.Zw {s:St}{B:Nat}{t:TypeId}{n i:Nat}{cs:List AV}{v:AV}(h:Zi s B t n i cs v):Zw v=true:=by
 rcases h with⟨_,rfl,_⟩|⟨_,_,b,_,_,rfl,_⟩ <;> rfl
theorem Zi.cells {s:St}{B:Nat}{t:TypeId}{n i:Nat}{cs:List AV}{v:AV}(h:Zi s B t n i cs v):v.cells=[v]:=by
 rcases h with⟨_,rfl,_⟩|⟨_,_,b,_,_,rfl,_⟩ <;> rfl
theorem Zi.len {s:St}{B:Nat}{t:TypeId}{n i:Nat}{cs:List AV}{v:AV}(h:Zi s B t n i cs v):U7 v=some (.int .i64 i):=by
 rcases h with⟨rfl,rfl,_⟩|⟨_,_,b,_,_,rfl,_⟩ <;> rfl
theorem Zi.WK {s:St}{B:Nat}{t:TypeId}{n i:Nat}{cs:List AV}{v:AV}(h:Zi s B t n i cs v):Go.Am.WK v=i:=by
 rcases h with⟨rfl,rfl,_⟩|⟨_,_,b,_,_,rfl,_⟩ <;> rfl
theorem Zi.mono {s s':St}{B:Nat}{t:TypeId}{n i:Nat}{cs:List AV}{v:AV}(h:Zi s B t n i cs v)(hn:s.next<=s'.next)(hg:∀j,B<=j->j<s.next->s'.get j=s.get j):Zi s' B t n i cs v:=by
 rcases h with⟨h0,h1,h2⟩|⟨h0,h1,b,h2,h3,h4,h5⟩
 ·exact .inl ⟨h0,h1,h2⟩
 ·exact .inr ⟨h0,h1,b,h2,by omega,h4,by rw[hg b h2 h3];exact h5⟩
theorem Zi.app {s:St}{B:Nat}{t:TypeId}{n i:Nat}{cs:List AV}{v:AV}(h:Zi s B t n i cs v)(hB:B<=s.next){m:Nat}{new:List AV}(hm:m≠0)(hl:new.length=m*n)(LP:new.all Go.Am.Zw=true) :
  ∃s1,SG t n m new v s=some (.sl s.next 0 (i+m) none n,s1)/\s1.next=s.next+1/\Zi s1 B t n (i+m) (cs++new) (.sl s.next 0 (i+m) none n)/\(∀j,j<B->s1.get j=s.get j)/\(Fr s->Fr s1):=by
 rcases h with⟨rfl,rfl,rfl⟩|⟨h0,h1,b,h2,h3,rfl,h5⟩
 ·refine⟨s.new (.cells new t false 0 0),by rw[Xy,ad4],rfl,.inr ⟨by omega,by rw[ad4,afP];exact hl,s.next,hB,by rw[Z'];omega,rfl,by rw[ZZ,if_pos rfl];rfl⟩,fun j hj=>by rw[ZZ,if_neg (by omega)],fun hf=>hf.new _⟩
 ·refine⟨(s.put b .gone).new (.cells (cs++new) t false 0 0),by rw[Uq,h5,Wm h1 (by omega) LP],rfl,.inr ⟨by omega,by rw[aeW,h1,hl,Nat.add_mul],s.next,hB,by rw[Z',Z9];omega,rfl,?_⟩,fun j hj=>?_,fun hf=>(hf.put h3 _).new _⟩
  ·rw[ZZ,Z9,if_pos rfl]
  ·rw[ZZ,Z9,if_neg (by omega),Z7,if_neg (by omega)]
theorem JP {A:Type}(enc:A->AV)(n:Nat)(hc:∀a,∃c,enc a=.agg c/\c.length=n):∀l:List A,Ys true n l.length (l.flatMap fun a=>(enc a).cells)=l.map enc
 |[]=>rfl
 |a::l=>by
  obtain⟨c,h1,h2⟩:=hc a;have ih:=JP enc n hc l;rw[afc,PR,afn,h1,Ih,afm,h1];rw[show (c++l.flatMap fun a=>(enc a).cells).take n=c from by rw[<-h2,List.take_left],show (c++l.flatMap fun a=>(enc a).cells).drop n=l.flatMap fun a=>(enc a).cells from by rw[<-h2,List.drop_left],ih]
theorem Vv {f:AV->Option AV}:∀{l:List AV},(∀x∈l,f x=some x)->Zg f l=some l
 |[],_=>rfl
 |x::l,h=>by
  rw[Zg,h x (aeZ ..),Vv fun y hy=>h y (abc _ hy)]
theorem Zi.HD {s:St}{B:Nat}{t:TypeId}{n:Nat}{A:Type}{enc:A->AV}{l:List A}{v:AV}(h:Zi s B t n l.length (l.flatMap fun a=>(enc a).cells) v)(Jc:YZ X t=some true)(WU:size X t=some n)(hn:n≠0)
  (hc:∀a,∃c,enc a=.agg c/\c.length=n){d:Nat}(hf:∀a,YG X s d (enc a)=some (enc a)):YG X s (d+1) v=some (ZP true (l.map enc)):=by
 rcases h with⟨h0,rfl,_⟩|⟨h0,h1,b,_,_,rfl,hg⟩
 ·have:l=[]:=afq.1 h0;subst this;rfl
 ·rw[WQ,hg,YI,<-h1,XG,Jc,WU]
  cases n with
  |zero=>exact absurd rfl hn
  |succ n =>
   rw[K4,JP enc (n+1) hc,Vv (fun x hx=>?_),VT]
   ·cases l with
    |nil=>simp at h0
    |cons a l=>rfl
   ·obtain⟨a,_,rfl⟩:=afe.1 hx;exact hf a
theorem Zi.Qp {s:St}{B:Nat}{t:TypeId}{l:List AV}{v:AV}(h:Zi s B t 1 l.length l v)(Jc:YZ X t=some false)(WU:size X t=some 1)(LP:l.all Go.Am.Zw=true)
  {d:Nat}{r:List AV}(hf:Zg (YG X s d) l=some r):YG X s (d+1) v=some (ZP true r):=by
 rcases h with⟨h0,rfl,_⟩|⟨h0,h1,b,_,_,rfl,hg⟩
 ·have:l=[]:=afq.1 h0;subst this;simp only[Zg] at hf;cases hf;rfl
 ·rw[WQ,hg,YI,ae3,XG,Jc,WU,Xj,if_pos LP,Yw,hf,VT]
  cases r with
  |nil =>
   exfalso
   cases l with
   |nil=>simp at h0
   |cons a l =>
    simp only[Zg] at hf
    split at hf <;> cases hf
  |cons a r=>rfl
end
attribute [go_sem] yh yg H8 ic Xy Uq yf N8
end Go.Am
namespace Go.Am
open Go
variable [Z3]
set_option maxRecDepth 100000
set_option maxHeartbeats 8000000
theorem Lx (X:Cx)(g:FuncId)(x y args:List AV)(s:St):G4 X (.fn (.func g) x y) args s=YX X (Zv X g (x++args++y)) g (x++args++y) s:=by
 rw[<-Zu];rfl
attribute [go_sem] Lx afP List.append_nil List.cons_append
theorem Rq (X:Cx)(t:TypeId)(c:Bool)(j:IntKind){n:Int}(h:0<=n/\n<=16):X_ X .shl t c (.int .i64 1) (.int j n)=some (.int .i64 (2^n.toNat)):=by
 obtain⟨h0,h1⟩:=h;have hn:¬n<0:=by omega
 simp only[X_,PE,hn,if_false];have hm:min n.toNat IntKind.i64.bits=n.toNat:=by
  have:IntKind.i64.bits=64:=rfl;rw[this];omega
 rw[hm,Int.one_mul];have hp:(2:Int)^n.toNat<=2^16:=by
  have h2:(2:Nat)^n.toNat<=2^16:=Nat.pow_le_pow_right (by omega) (by omega)
  exact_mod_cast h2
 have bQ:(0:Int)<=2^n.toNat:=Int.pow_nonneg (by omega);rw[wrap_i64 (by omega) (by omega)]
theorem SI {p:Bool}{e x:Int}(h:br p e x=0)(he:e≠0):p=false/\x=0:=by
 cases p
 ·exact⟨rfl,h⟩
 ·exact absurd h he
theorem Df {n a b:Int}(h:outside n a b=false):a<=n/\n<=b:=by
 unfold outside at h;simp only[Bool.or_eq_false_iff,decide_eq_false_iff_not] at h;omega
theorem Tl (l:List Bool):(ZH l).all Zw=true:=by
 rw[ae9];intro x hx;obtain⟨b,_,rfl⟩:=afe.1 hx;rfl
theorem Vr (l:List Int):(ints l).all Zw=true:=by
 rw[ae9];intro x hx;obtain⟨b,_,rfl⟩:=afe.1 hx;rfl
theorem Qq (s:St)(d:Nat)(l:List Bool):Zg (YG U s (d+1)) (ZH l)=some (ZH l):=Vv fun x hx=>by
 obtain⟨b,_,rfl⟩:=afe.1 hx;rfl
theorem SH (s:St)(d:Nat)(l:List Int):Zg (YG U s (d+1)) (ints l)=some (ints l):=Vv fun x hx=>by
 obtain⟨b,_,rfl⟩:=afe.1 hx;rfl
theorem Ym (l:List Bool):(ZH l).length=l.length:=by simp[ZH]
theorem Zi.Qq {s:St}{B:Nat}{l:List Bool}{v:AV}(h:Zi s B 4 1 l.length (ZH l) v)(d:Nat):YG U s (d+2) v=some (ZP true (ZH l)):=by
 have h':Zi s B 4 1 (ZH l).length (ZH l) v:=by rw[Ym];exact h
 exact h'.Qp U vR vQ (Tl l) (Go.Am.Qq s d l)
theorem Zi.SH {s:St}{B:Nat}{l:List Int}{v:AV}(h:Zi s B 3 1 l.length (ints l) v)(d:Nat):YG U s (d+2) v=some (ZP true (ints l)):=by
 have h':Zi s B 3 1 (ints l).length (ints l) v:=by rw[Xz];exact h
 exact h'.Qp U De Dd (Vr l) (Go.Am.SH s d l)
theorem zt (l:List Bool)(i:Nat):(ZH l)[i]? = (l[i]?).map .bool:=by simp[ZH]
theorem Uh (n:Int)(h1:n<=16):(1:Int)<=2^n.toNat/\(2:Int)^n.toNat<=65536:=by
 obtain⟨k,hk⟩:∃k:Nat,n.toNat=k:=⟨_,rfl⟩;rw[hk];have:∀k:Fin 17,(1:Int)<=2^k.val/\(2:Int)^k.val<=65536:=by decide
 exact this ⟨k,by omega⟩
theorem ZC {X:Cx}{β:Type}{fin:Fl->β}{ks:List K} [Stat] {b:RC}{σ:Type}{ZV:β->Prop}(m:σ->Nat)(I:σ->Env->St->Prop)(x:σ){e:Env}{s:St}
  (h:∀(L:RC) (x:σ) (e:Env) (s:St),I x e s->(∀(y:σ) (e':Env) (s':St),m y<m x->I y e' s'->ZV (Vx X fin ks L e' s'))->ZV (go X fin (.lp L::ks) b e s))
  (hI:I x e s):ZV (Vx X fin ks b e s):=by
 have key:∀n (x:σ) (e:Env) (s:St),m x=n->I x e s->ZV (Vx X fin ks b e s):=by
  intro n
  induction n using Nat.strongRecOn with
  |ind n ih =>
   intro x e s hx hI;rw[Rd];exact h b x e s hI fun y e' s' hy eJ=>ih (m y) (by omega) y e' s' rfl eJ
 exact key _ x e s rfl hI
theorem Zi.kd {s:St}{B:Nat}{t:TypeId}{n i:Nat}{cs:List AV}{v:AV}(h:Zi s B t n i cs v)(hB:B<=s.next){m:Nat}{new:List AV}(hm:m≠0)(hl:new.length=m*n)(LP:new.all Go.Am.Zw=true) :
  ∃s1,SG t n m new v s=some (.sl s.next 0 (i+m) none n,s1)/\s1.next=s.next+1/\Zi s1 B t n (i+m) (cs++new) (.sl s.next 0 (i+m) none n)/\(∀j,j≠s.next->v≠.sl j 0 i none n->s1.get j=s.get j)/\(Fr s->Fr s1):=by
 rcases h with⟨rfl,rfl,rfl⟩|⟨h0,h1,b,h2,h3,rfl,h5⟩
 ·refine⟨s.new (.cells new t false 0 0),by rw[Xy,ad4],rfl,.inr ⟨by omega,by rw[ad4,afP];exact hl,s.next,hB,by rw[Z'];omega,rfl,by rw[ZZ,if_pos rfl];rfl⟩,fun j hj _=>by rw[ZZ,if_neg (by omega)],fun hf=>hf.new _⟩
 ·refine⟨(s.put b .gone).new (.cells (cs++new) t false 0 0),by rw[Uq,h5,Wm h1 (by omega) LP],rfl,.inr ⟨by omega,by rw[aeW,h1,hl,Nat.add_mul],s.next,hB,by rw[Z',Z9];omega,rfl,?_⟩,fun j hj hv=>?_,fun hf=>(hf.put h3 _).new _⟩
  ·rw[ZZ,Z9,if_pos rfl]
  ·have:b≠j:=fun e=>hv (by rw[e])
   rw[ZZ,Z9,if_neg (by omega),Z7,if_neg this]
theorem Zi.far {s:St}{B:Nat}{t:TypeId}{n i:Nat}{cs:List AV}{v:AV}(h:Zi s B t n i cs v){j:Nat}(hj:s.next<=j\/j<B):v≠.sl j 0 i none n:=by
 rintro rfl;rcases h with⟨_,h,_⟩|⟨_,_,b,h1,h2,h3,_⟩
 ·cases h
 ·cases h3;omega
theorem Zi.other {s:St}{B:Nat}{t:TypeId}{n i:Nat}{cs:List AV}{v:AV}(h:Zi s B t n i cs v){j:Nat}{c:List AV}{t':TypeId}{lo hi:Nat}(hj:s.get j=some (.cells c t' false lo hi))(ht:t'≠t):v≠.sl j 0 i none n:=by
 rintro rfl;rcases h with⟨_,h,_⟩|⟨_,_,b,h1,h2,h3,h4⟩
 ·cases h
 ·cases h3
  rw[hj] at h4
  cases h4;exact ht rfl
theorem Tp {β:Type}{c:Code}{n:Nat}{l:List vP}(h:Pf U c=some (n,l))(fin:Fl->β)(ks:List K)(e:Env)(s:St):go U fin ks (.raw c) e s =
  bif U0 s.next s l then vO U (A4 U fin ks c e s) fin ks s.next l e (s.upto (s.next+n)) [s.upto (s.next+n)] [] else A4 U fin ks c e s:=ka U h fin ks e s
theorem UZ (x:AV):∀n:Nat,WD n [x]=List.replicate n x
 |0=>rfl
 |n+1=>by rw[WD,UZ x n];rfl
theorem LA:∀(cs:List AV) (i:Nat) (x:AV),i<cs.length->lay i [x] cs=some (cs.set i x)
 |[],i,x,h=>by simp at h
 |c::cs,0,x,h=>by rw[Oh,GZ];rfl
 |c::cs,i+1,x,h=>by
  rw[Og,LA cs i x (by simpa using h)];rfl
def part {A:Type}(l:List A)(z:A)(n i:Nat):List A:=l.take i++List.replicate (n-i) z
theorem A3 {s:St}{b d:Nat}{cap:Option Nat}{l:List Int}(hg:s.get b=some (.cells (ints l) 3 false 0 0)):YG U s (d+2) (.sl b 0 l.length cap 1)=some (.fz (ints l)):=by
 have e:l.length=(ints l).length:=(Xz l).symm;rw[WQ,hg,YI,ae3,e,XG,De,Dd,Xj,if_pos (Vr l),Yw,SH,VT]
def Dc (P:Int->Bool):Nat->List Int->Int
 |_,[] => -1
 |i,x::l=>bif P x then (i:Int) else Dc P (i+1) l
theorem Fe (P:Int->Bool):∀(l:List Int) (i:Nat),decide (Dc P i l>=0)=l.any P
 |[],i=>by simp[Dc]
 |x::l,i=>by
  rw[Dc,List.any_cons]
  cases P x with
  |true=>simp
  |false=>rw[cond_false,Fe P l (i+1),afV]
theorem acs {args:List AV}{s:St}(h:ZK args=false):YX U (Zv U 134 args) 134 args s=UC U 134 (Zg (YG U s 40) args) s:=Jv (by kernel_rfl) s h
def Oe:List Int->List Int->Bool
 |[],[]=>true
 |x::a,y::b=>bif x != y then false else Oe a b
 |_,_=>false
theorem Ir:∀{a b:List Int},a.length≠b.length->Oe a b=false
 |[],[],h=>absurd rfl h
 |[],_::_,_=>rfl
 |_::_,[],_=>rfl
 |a::x,b::y,h=>by
  rw[Oe,Ir (fun e=>h (by simp[e]))]
  cases a != b <;> rfl
theorem K3:∀a:List Int,Oe a a=true
 |[]=>rfl
 |a::x=>by rw[Oe,K3 x];simp
theorem acu {f:FuncId}(hk:YQ f=some ([.tmp 4],j_))(hp:Re f=true)(na nb:Bool)(a b:List Int)(ha:a.length<2^62):Zv U f [ZP na (ints a),ZP nb (ints b)]=some (.bool (Oe a b)):=by
 refine Za hk hp (by simp[ZK,Wk,still]) ?_;simp (maxSteps:=2000000) +contextual only[go_sem,j_,ZL,Xz]
 cases hl:((a.length:Int) != (b.length:Int)) with
 |true =>
  have:a.length≠b.length:=by simp at hl;omega
  rw[Ir this];simp +contextual only[go_sem]
 |false =>
  have hl:a.length=b.length:=by simp at hl;omega
  simp +contextual only[go_sem];refine VQ (σ:=Nat) (fun i=>a.length-i) (fun i=>some (AV.bool (Oe (a.drop i) (b.drop i)))) (fun i e s=>i<=a.length/\Env.get e 0=ZP na (ints a)/\Env.get e 1=ZP nb (ints b)/\Env.get e 5=.int .i64 i) 0 ?_ rfl ?_
  ·rintro L i e s ⟨hi,g0,g1,g5⟩ ih;by_cases hd:i<a.length
   ·have Wy:i<b.length:=by omega
    have hx:UT 1 (ZP na (ints a)) (.int .i64 (i:Int))=some (.fp [.int .i64 a[i]] 0):=Ve 1 na (ints a) .i64 i (.int .i64 a[i]) (by omega) (by rw[Int.toNat_natCast,Rp,aaa hd];rfl) rfl (by decide);have hy:UT 1 (ZP nb (ints b)) (.int .i64 (i:Int))=some (.fp [.int .i64 b[i]] 0):=Ve 1 nb (ints b) .i64 i (.int .i64 b[i]) (by omega) (by rw[Int.toNat_natCast,Rp,aaa Wy];rfl) rfl (by decide);have hw:=ZI hd (by omega);rw[aeY hd,aeY Wy,Oe];simp +contextual only[go_sem,GY,g0,g1,g5,Z8,hd,hx,hy,ZL,Xz]
    cases hb:a[i] != b[i] with
    |true=>simp +contextual only[go_sem]
    |false =>
     simp +contextual only[go_sem,hw];refine ih (i+1) _ _ (by omega) ⟨by omega,?_,?_,?_⟩ <;> simp +contextual only[go_sem,g0,g1,g5,hw]
   ·have:i=a.length:=by omega
    subst this;simp +contextual only[go_sem,GY,g0,g1,g5,Z8,afg,ZL,Xz];rw[afE,hl,afE];rfl
  ·refine⟨ae5 _,?_,?_,?_⟩ <;> simp +contextual only[go_sem] <;> rfl
theorem abk (na nb:Bool)(a b:List Int)(ha:a.length<2^62):Zv U 92 [ZP na (ints a),ZP nb (ints b)]=some (.bool (Oe a b)):=acu acv (by kernel_rfl) na nb a b ha
end Go.Am
namespace Go.Am
open Go
variable [Z3]
set_option maxRecDepth 100000
set_option maxHeartbeats 4000000
def XK (a:ZN):AV:=ZP a.YC (a.next.map ZX)
def YK (a:ZN):AV:=ZP a.Yx (a.Z4.map ZY)
theorem ZB (a:ZN):YP a=.agg [.int .i64 a.lines,XK a,YK a]:=rfl
theorem YF (a:ZN):still (YP a)=true:=by simp[YP,still,ZK,Wk]
theorem Xi {nl:Bool}{l:List (Bool×List Int)}{i:Nat}(h:i<l.length):UT 1 (ZP nl (l.map ZX)) (.int .i64 (i:Int))=some (.fp [ZP l[i].1 (ints l[i].2)] 0):=by
 have:=Ve 1 nl (l.map ZX) .i64 i (ZX l[i]) (by omega) (by rw[Int.toNat_natCast,afs,aaa h];rfl) (by rw[ZX,ZS];rfl) (by decide);rw[ZX,ZS] at this;exact this
theorem Xh {nl:Bool}{l:List (Bool×List Bool)}{i:Nat}(h:i<l.length):UT 1 (ZP nl (l.map ZY)) (.int .i64 (i:Int))=some (.fp [ZP l[i].1 (ZH l[i].2)] 0):=by
 have:=Ve 1 nl (l.map ZY) .i64 i (ZY l[i]) (by omega) (by rw[Int.toNat_natCast,afs,aaa h];rfl) (by rw[ZY,ZS];rfl) (by decide);rw[ZY,ZS] at this;exact this
theorem Od {nl:Bool}{l:List Int}{i:Nat}(h:i<l.length):UT 1 (ZP nl (ints l)) (.int .i64 (i:Int))=some (.fp [.int .i64 l[i]] 0) :=
 Ve 1 nl (ints l) .i64 i (.int .i64 l[i]) (by omega) (by rw[Int.toNat_natCast,Rp,aaa h];rfl) rfl (by decide)
theorem QF {nl:Bool}{l:List Bool}{i:Nat}(h:i<l.length):UT 1 (ZP nl (ZH l)) (.int .i64 (i:Int))=some (.fp [.bool l[i]] 0) :=
 Ve 1 nl (ZH l) .i64 i (.bool l[i]) (by omega) (by rw[Int.toNat_natCast,zt,aaa h];rfl) rfl (by decide)
def I6 (lines:Int):Int:=2^lines.toNat
def Vq (m n:Int):List (Bool×List Int)->List (Bool×List Bool)->Int
 |[],_=>0
 |r::l,f=>br ((r.2.length:Int) != m||(((f.headD (true,[])).2.length:Int) != m)) 2 <| br (r.2.any fun x=>outside x 0 (n-1)) 10 <| Vq m n l f.tail
def Jf (a:ZN):Int :=
 br (outside a.lines 1 4) 3 <| br ((a.next.length:Int)==0) 12 <| br (decide ((a.next.length:Int)>256)) 5 <| br ((a.Z4.length:Int) != a.next.length) 2 <| Vq (I6 a.lines) a.next.length a.next a.Z4
theorem c50 (a:ZN):Zv U 17 [YP a]=some (.int .i64 (Jf a)):=by
 refine Za k50 (by kernel_rfl) (by simp[ZK,YF]) ?_;rw[ZB,Jf];have nn:=ZT a.YC (a.next.map ZX);have nf:=ZT a.Yx (a.Z4.map ZY);have ln:=ZL a.YC (a.next.map ZX);have lf:=ZL a.Yx (a.Z4.map ZY);have cn:=ZS a.YC (a.next.map ZX);have cf:=ZS a.Yx (a.Z4.map ZY);rw[ae7] at ln lf;unfold XK YK
 cases ho:outside a.lines 1 4 with
 |true =>
  simp only[go_sem,r50,c94,nn,nf,cn,cf,ho]
 |false =>
 have hl:1<=a.lines/\a.lines<=4:=by
  simp only[outside,Bool.or_eq_false_iff,decide_eq_false_iff_not] at ho;omega
 have Qy:=Rq U 3 true .i64 (n:=a.lines) (show 0<=a.lines/\a.lines<=16 by omega);simp only[go_sem,r50,c94,nn,nf,cn,cf,ln,lf,ho];simp only[wL];refine jU fun h1=>?_
 refine jU fun h2=>?_
 refine jU fun h3=>?_
 have hn:a.next.length<=256:=by simp at h2;omega
 have Sx:a.Z4.length=a.next.length:=by simp at h3;omega
 have hp:=Uh a.lines (by omega);have nC:IntKind.i64.wrap ((a.next.length:Int)-1)=(a.next.length:Int)-1:=by rw[wrap_i64] <;> omega
 refine VQ (σ:=Nat) (fun i=>a.next.length-i) (fun i=>some (AV.int .i64 (Vq (I6 a.lines) a.next.length (a.next.drop i) (a.Z4.drop i)))) (fun i e s=>i<=a.next.length/\Env.get e 1=.ptr 8 0/\Env.get e 3=.int .i64 (i:Nat)/\8<s.next /\
  s.get 8=some (.cells [.int .i64 a.lines,ZP a.YC (a.next.map ZX),ZP a.Yx (a.Z4.map ZY)] 46 false 0 0)) 0 ?_ (by rw[afJ,afJ]) ?_
 ·rintro L i e s ⟨hi,g1,g3,nx,gs⟩ IH;by_cases hd:i<a.next.length
  ·have hw:=ZI hd (by omega);have hx:=Xi (nl:=a.YC) hd;have hy:=Xh (nl:=a.Yx) (show i<a.Z4.length by omega);have Db:=ZL a.next[i].1 (ints a.next[i].2);have VD:=ZL a.Z4[i].1 (ZH a.Z4[i].2);rw[Xz] at Db;rw[Ym] at VD;have bJ:(a.Z4.drop i).headD (true,[])=a.Z4[i]:=by rw[aeY (show i<a.Z4.length by omega)];rfl
   have fM:(a.Z4.drop i).tail=a.Z4.drop (i+1):=by rw[List.tail_drop]
   rw[aeY hd,Vq,bJ,fM];generalize hR:a.next[i]=R at *;generalize hF:a.Z4[i]=F at *;have ne8:∀q,(s.next+q=8)=False:=fun q=>by simp;omega
   cases h4:((R.2.length:Int) != I6 a.lines) with
   |true =>
    unfold I6 at h4;simp only[go_sem,KJ,g1,g3,gs,Z8,hd,ln,lf,hx,hy,Db,VD,Qy,h4]
    all_goals rfl
   |false =>
   cases h5:((F.2.length:Int) != I6 a.lines) with
   |true =>
    unfold I6 at h4 h5;simp only[go_sem,KJ,g1,g3,gs,Z8,hd,ln,lf,hx,hy,Db,VD,Qy,h4,h5]
    all_goals rfl
   |false =>
    unfold I6 at h4 h5;simp only[go_sem,KJ,g1,g3,gs,Z8,hd,ln,lf,hx,hy,Db,VD,Qy,h4,h5];have h_:R.2.length<=65536:=by simp at h4;omega
    refine VQ (σ:=Nat) (fun x=>R.2.length-x) (fun x=>some (AV.int .i64 (br ((R.2.drop x).any fun y=>outside y 0 ((a.next.length:Int)-1)) 10 (Vq (I6 a.lines) a.next.length (a.next.drop (i+1)) (a.Z4.drop (i+1)))))) (fun x e s=>x<=R.2.length/\Env.get e 1=.ptr 8 0/\Env.get e 3=.int .i64 (i:Nat)/\Env.get e 4=.int .i64 (x:Nat)/\8<s.next /\
     s.get 8=some (.cells [.int .i64 a.lines,ZP a.YC (a.next.map ZX),ZP a.Yx (a.Z4.map ZY)] 46 false 0 0)) 0 ?_ (by rw[afJ];rfl) ?_
    ·rintro L' x e' s' ⟨PH,g1',g3',g4',nx',JD⟩ IH';by_cases Wy:x<R.2.length
     ·have L5:=ZI Wy (by omega);have hxx:=Od (nl:=R.1) Wy;rw[aeY Wy,List.any_cons]
      cases MA:outside R.2[x] 0 ((a.next.length:Int)-1) with
      |true=>simp only[go_sem,Hg,g1',g3',g4',JD,Z8,Wy,ln,hx,Db,hxx,nC,c94,MA,Bool.true_or]
      |false =>
       simp only[go_sem,Hg,g1',g3',g4',JD,Z8,Wy,ln,hx,Db,hxx,nC,c94,MA,afV,L5];refine IH' (x+1) _ _ (by omega) ⟨by omega,?_,?_,?_,?_,?_⟩
       all_goals simp only[go_sem,g1',g3',g4',JD,L5,Z0]
       all_goals omega
     ·have:x=R.2.length:=by omega
      subst this;simp only[go_sem,Hg,g1',g3',g4',JD,Z8,afg,ln,hx,Db,hw];rw[afE];refine IH (i+1) _ _ (by omega) ⟨by omega,?_,?_,?_,?_⟩
      all_goals try simp only[go_sem,g1',g3',JD,hw]
      all_goals omega
    ·refine⟨ae5 _,?_,?_,?_,?_,?_⟩
     all_goals try simp only[go_sem,g1,g3,gs]
     all_goals first|rfl|omega
  ·have:i=a.next.length:=by omega
   subst this;simp only[go_sem,KJ,g1,g3,gs,Z8,afg,ln];rw[afE,Vq]
 ·refine⟨ae5 _,?_,?_,?_,?_⟩
  all_goals try simp only[go_sem]
  all_goals rfl
def Ko (a:ZN):List AV:=[.int .i64 a.lines,ZP a.YC (a.next.map ZX),ZP a.Yx (a.Z4.map ZY)]
theorem acw (x:Int)(a:ZN)(hn:a.next.length<=2^40):Zv U 154 [.int .i64 x,.fp (Ko a) 0]=some (.bool (outside x 0 ((a.next.length:Int)-1))):=by
 refine Za acx (by kernel_rfl) (by simp[ZK,still]) ?_;have ln:=ZL a.YC (a.next.map ZX);rw[ae7] at ln;have hp:outside x 0 ((a.next.length:Int)-1)=(decide (x<0)||decide (x>=(a.next.length:Int))):=by
  unfold outside
  congr 1
  congr 1
  apply propext;omega
 rw[hp];unfold Ko
 cases h:decide (x<0) <;> simp +contextual only[go_sem,bP,ln,h]
 all_goals rfl
theorem bO (x:Int)(a:ZN)(hn:a.next.length<=2^40)(s:St):G4 U (.fn (.func 154) [] [.fp (Ko a) 0]) [.int .i64 x] s=some (.bool (outside x 0 ((a.next.length:Int)-1)),s):=by
 have h:=acw x a hn;simp only[Lx,afP,List.cons_append,h,Kn]
theorem bN (P:Int->Bool)(fn:AV)(Xg:still fn=true)(hf:∀x s,G4 U fn [.int .i64 x] s=some (.bool (P x),s))(nl:Bool)(l:List Int)(hl:l.length<=2^40):Zv U 173 [ZP nl (ints l),fn]=some (.int .i64 (Dc P 0 l)):=by
 refine Za acy (by kernel_rfl) (by simp[ZK,Wk,Xg]) ?_;simp +contextual only[go_sem,bM,ZL,Xz];refine VQ (σ:=Nat) (fun i=>l.length-i) (fun i=>some (AV.int .i64 (Dc P i (l.drop i)))) (fun i e s=>i<=l.length/\Env.get e 0=ZP nl (ints l)/\Env.get e 1=fn/\Env.get e 7=.int .i64 l.length/\Env.get e 8=.int .i64 i) 0 ?_ rfl ?_
 ·rintro L i e s ⟨hi,g0,g1,g7,g8⟩ ih;by_cases hd:i<l.length
  ·have hx:=Od (nl:=nl) hd;have hw:=ZI hd (by omega);rw[aeY hd,Dc];have hc:=hf l[i]
   cases hb:P l[i] with
   |true=>simp +contextual only[go_sem,Ls,g0,g1,g7,g8,Z8,hd,hx,hc,hb]
   |false =>
    simp +contextual only[go_sem,Ls,g0,g1,g7,g8,Z8,hd,hx,hc,hb,hw];refine ih (i+1) _ _ (by omega) ⟨by omega,?_,?_,?_,?_⟩ <;> simp +contextual only[go_sem,g0,g1,g7,g8,hw]
  ·have:i=l.length:=by omega
   subst this;simp +contextual only[go_sem,Ls,g0,g1,g7,g8,Z8,afg];rw[afE];rfl
 ·refine⟨ae5 _,?_,?_,?_,?_⟩ <;> simp +contextual only[go_sem] <;> rfl
theorem bL (P:Int->Bool)(fn:AV)(Xg:still fn=true)(hf:∀x s,G4 U fn [.int .i64 x] s=some (.bool (P x),s))(nl:Bool)(l:List Int)(hl:l.length<=2^40):Zv U 134 [ZP nl (ints l),fn]=some (.bool (l.any P)):=by
 refine Za acz (by kernel_rfl) (by simp[ZK,Wk,Xg]) ?_;have h:=bN P fn Xg hf nl l hl;have hi:=Fe P l 0;simp +contextual only[go_sem,bK,h,hi]
theorem c58 (a:ZN)(hn:a.next.length<=2^40)(hr:∀r∈a.next,r.2.length<=2^40):Zv U 94 [YP a]=some (.int .i64 (Jf a)):=by
 refine Za k58 (by kernel_rfl) (by simp[ZK,YF]) ?_;rw[ZB];have nn:=ZT a.YC (a.next.map ZX);have nf:=ZT a.Yx (a.Z4.map ZY);have ln:=ZL a.YC (a.next.map ZX);have lf:=ZL a.Yx (a.Z4.map ZY);have cn:=ZS a.YC (a.next.map ZX);have cf:=ZS a.Yx (a.Z4.map ZY);rw[ae7] at ln lf;unfold XK YK;have hz:ZK [.sl 29 0 4 (some 4) 1]=false:=rfl;simp (maxSteps:=2000000) +contextual only[go_sem,r58,acA,Jx,nn,nf,cn,cf,ln,lf,eY,lX];rw[show within a.lines 1 4=br (outside a.lines 1 4) 3 0 from rfl,Jf]
 cases ho:outside a.lines 1 4 with
 |true=>rfl
 |false =>
 cases h1:((a.next.length:Int)==0) with
 |true=>rfl
 |false =>
 cases h2:decide ((a.next.length:Int)>256) with
 |true=>rfl
 |false =>
 cases h3:((a.Z4.length:Int) != a.next.length) with
 |true=>rfl
 |false =>
 have hl:1<=a.lines/\a.lines<=4:=by
  simp only[outside,Bool.or_eq_false_iff,decide_eq_false_iff_not] at ho;omega
 have Qy:=Rq U 3 true .i64 (n:=a.lines) (show 0<=a.lines/\a.lines<=16 by omega);have hp:=Uh a.lines (by omega);have hn:a.next.length<=256:=by simp at h2;omega
 have Sx:a.Z4.length=a.next.length:=by simp at h3;omega
 simp only[Zh];rw[show (X0 [0,0,0,0] != 0)=false from rfl,Zh];refine VQ (σ:=Nat) (fun i=>a.next.length-i) (fun i=>some (AV.int .i64 (Vq (I6 a.lines) a.next.length (a.next.drop i) (a.Z4.drop i)))) (fun i e s=>i<=a.next.length/\Env.get e 1=.ptr 8 0/\Env.get e 36=ZP a.YC (a.next.map ZX)/\Env.get e 37=.int .i64 a.next.length/\Env.get e 38=.int .i64 (i:Nat)/\8<s.next/\Fr s /\
  s.get 8=some (.cells [.int .i64 a.lines,ZP a.YC (a.next.map ZX),ZP a.Yx (a.Z4.map ZY)] 42 false 0 0)) 0 ?_ (by rw[afJ,afJ]) ?_
 ·rintro L i e s ⟨hi,g1,fV,qV,g38,nx,fr,gs⟩ IH;by_cases hd:i<a.next.length
  ·have hw:=ZI hd (by omega);have hx:=Xi (nl:=a.YC) hd;have hy:=Xh (nl:=a.Yx) (show i<a.Z4.length by omega);have Db:=ZL a.next[i].1 (ints a.next[i].2);have VD:=ZL a.Z4[i].1 (ZH a.Z4[i].2);rw[Xz] at Db;rw[Ym] at VD;have bJ:(a.Z4.drop i).headD (true,[])=a.Z4[i]:=by rw[aeY (show i<a.Z4.length by omega)];rfl
   have fM:(a.Z4.drop i).tail=a.Z4.drop (i+1):=by rw[List.tail_drop]
   rw[aeY hd,Vq,bJ,fM];generalize hR:a.next[i]=R at *;generalize hF:a.Z4[i]=F at *;have ne8:∀q,(s.next+q=8)=False:=fun q=>by simp;omega
   have bI:(s.next=8)=False:=by simp;omega
   have R_:=fr.at;have xT:=hr R (by rw[<-hR];exact ae2 hd);have hz:=fun s=>xn (bL _ (.fn (.func 154) [] [.fp (Ko a) 0]) (by simp[still,ZK]) (fun x s=>bO x a (by omega) s) R.1 R.2 xT) (by kernel_rfl) (by simp[ZK,still,Wk]) rfl s
   have Xg:ZK [ZP R.1 (ints R.2),.fn (.func 154) [] [.ptr 8 0]]=false:=by simp[ZK,still,Wk]
   have w7:∀j,ZK [.sl j 0 2 (some 2) 1]=false:=fun _=>rfl
   simp only[Ko] at hz;simp (maxSteps:=2000000) +contextual only[go_sem,Dy,g1,fV,qV,g38,gs,Z8,hd,ln,lf,hx,hy,Db,VD,Qy,ne8,bI,R_,acs Xg,KD,hz,Jx,eY,K_,w7,aeX,Nat.left_eq_add];have hm:(2:Int)^a.lines.toNat=I6 a.lines:=rfl;rw[hm]
   cases h4:((R.2.length:Int) != I6 a.lines||(F.2.length:Int) != I6 a.lines) with
   |true=>rfl
   |false =>
   cases h5:(R.2.any fun x=>outside x 0 ((a.next.length:Int)-1)) with
   |true=>rfl
   |false =>
   simp only[Zh];rw[show (X0 [0,0] != 0)=false from rfl,Zh];refine IH (i+1) _ _ (by omega) ⟨by omega,?_,?_,?_,?_,?_,?_,?_⟩
   case refine_6 =>
    repeat first|exact fr|apply Fr.new|apply Fr.put|apply Fr.upto
    all_goals try simp +contextual only[go_sem]
    all_goals omega
   all_goals try simp +contextual only[go_sem,g1,fV,qV,gs,hw,ne8,bI]
   all_goals omega
  ·have:i=a.next.length:=by omega
   subst this;simp +contextual only[go_sem,Dy,qV,g38,Z8,afg];rw[afE,Vq]
 ·refine⟨ae5 _,?_,?_,?_,?_,?_,?_,?_⟩
  case refine_6 =>
   repeat first|exact Fr.own|apply Fr.new|apply Fr.put|apply Fr.upto
   all_goals simp +contextual only[go_sem]
  all_goals try simp +contextual only[go_sem]
  all_goals rfl
end Go.Am
namespace Go.Am
open Go
structure Fa where
 n:Nat
 m:Nat
 nx:Nat->Nat->Nat
 fr:Nat->Nat->Bool
structure Fa.ok (A:Fa):Prop where
 pos:0<A.n
 lt:∀s x,s<A.n->x<A.m->A.nx s x<A.n
def Fa.E (A:Fa)(f:Nat->Nat)(u v:Nat):Prop:=∀x,x<A.m->A.fr u x=A.fr v x/\f (A.nx u x)=f (A.nx v x)
theorem Fa.gn (A:Fa)(f:Nat->Nat)(u:Nat):A.E f u u:=fun _ _=>⟨rfl,rfl⟩
theorem Fa.E.symm {A:Fa}{f:Nat->Nat}{u v:Nat}(h:A.E f u v):A.E f v u:=fun x hx=>⟨(h x hx).1.symm,(h x hx).2.symm⟩
theorem Fa.E.trans {A:Fa}{f:Nat->Nat}{u v w:Nat}(h:A.E f u v)(k:A.E f v w):A.E f u w:=fun x hx=>⟨(h x hx).1.trans (k x hx).1,(h x hx).2.trans (k x hx).2⟩
def sE (A:Fa)(f:Nat->Nat)(u v:Nat):Nat->Bool
 |0=>true
 |x+1=>sE A f u v x&&(A.fr u x==A.fr v x&&f (A.nx u x)==f (A.nx v x))
theorem D9 (A:Fa)(f:Nat->Nat)(u v:Nat):∀k,sE A f u v k=true<->∀x,x<k->A.fr u x=A.fr v x/\f (A.nx u x)=f (A.nx v x)
 |0=>by simp[sE]
 |k+1=>by
  rw[sE,aab,D9 A f u v k,aab,beq_iff_eq,beq_iff_eq]
  constructor
  ·rintro⟨h1,h2⟩ x hx;by_cases e:x=k
   ·subst e;exact h2
   ·exact h1 x (by omega)
  ·intro h;exact⟨fun x hx=>h x (by omega),h k (by omega)⟩
def alk (A:Fa)(f:Nat->Nat)(u v:Nat):Bool:=sE A f u v A.m
theorem Al (A:Fa)(f:Nat->Nat)(u v:Nat):alk A f u v=true<->A.E f u v:=D9 A f u v A.m
def ND (al:Nat->Bool):Nat->Nat->Nat
 |0,c=>c
 |k+1,c=>ND al k (bif al k then k else c)
theorem Po (al:Nat->Bool):∀k c,k<=c->(ND al k c<=c)/\(ND al k c=c\/(ND al k c<k/\al (ND al k c)=true))/\∀o,o<k->o<ND al k c->al o=false
 |0,c,_=>⟨aba _,.inl rfl,fun o h=>by omega⟩
 |k+1,c,hk=>by
  rw[ND]
  cases ha:al k with
  |true =>
   obtain⟨h1,h2,h3⟩:=Po al k k (aba _);simp only[cond_true];refine⟨by omega,.inr ?_,fun o ho hs=>h3 o (by omega) hs⟩;rcases h2 with h2|⟨h2,h4⟩
   ·rw[h2];exact⟨by omega,ha⟩
   ·exact⟨by omega,h4⟩
  |false =>
   obtain⟨h1,h2,h3⟩:=Po al k c (by omega);simp only[cond_false];refine⟨h1,?_,fun o ho hs=>?_⟩
   ·rcases h2 with h2|⟨h2,h4⟩
    ·exact .inl h2
    ·exact .inr ⟨by omega,h4⟩
   ·by_cases e:o=k
    ·subst e;exact ha
    ·exact h3 o (by omega) hs
def Un (A:Fa)(f:Nat->Nat)(s:Nat):Nat:=ND (alk A f s) s s
theorem Qh (A:Fa)(f:Nat->Nat)(s:Nat):Un A f s<=s/\A.E f s (Un A f s)/\∀o,o<Un A f s->¬A.E f s o:=by
 obtain⟨h1,h2,h3⟩:=Po (alk A f s) s s (aba _);refine⟨h1,?_,fun o ho he=>?_⟩
 ·rcases h2 with h2|⟨_,h2⟩
  ·show A.E f s (ND _ s s);rw[h2];exact A.gn f s
  ·exact (Al A f _ _).1 h2
 ·have:=h3 o (by unfold Un at ho;omega) ho;rw[(Al A f _ _).2 he] at this
  cases this
theorem NC (A:Fa)(f:Nat->Nat)(u v:Nat):Un A f u=Un A f v<->A.E f u v:=by
 obtain⟨u1,u2,u3⟩:=Qh A f u;obtain⟨v1,v2,v3⟩:=Qh A f v
 constructor
 ·intro h;rw[h] at u2;exact u2.trans v2.symm
 ·intro h;have a:¬Un A f u<Un A f v:=fun hl=>v3 _ hl (h.symm.trans u2)
  have b:¬Un A f v<Un A f u:=fun hl=>u3 _ hl (h.trans v2)
  omega
structure Can (g:Nat->Nat):Prop where
 le:∀s,g s<=s
 fix:∀s,g (g s)=g s
theorem Can.min {g:Nat->Nat}(h:Can g){s u:Nat}(e:g u=g s):g s<=u:=by rw[<-e];exact h.le u
theorem JG (A:Fa)(f:Nat->Nat):Can (Un A f):=⟨fun s=>(Qh A f s).1,fun s=>((NC A f _ _).2 (Qh A f s).2.1).symm⟩
def nY (g f:Nat->Nat):Prop:=∀u v,g u=g v->f u=f v
theorem xW (A:Fa){f:Nat->Nat}(h:nY (Un A f) f):nY (Un A (Un A f)) (Un A f):=fun u v e=>by
 rw[NC] at e ⊢;exact fun x hx=>⟨(e x hx).1,h _ _ (e x hx).2⟩
def QJ (g:Nat->Nat):Nat->Nat
 |0=>0
 |k+1=>QJ g k+if g k=k then 1 else 0
theorem Ak (g:Nat->Nat):∀k,QJ g k<=k
 |0=>aba _
 |k+1=>by have:=Ak g k;rw[QJ];split <;> omega
theorem HS {g h:Nat->Nat}(H:∀s,g s=s->h s=s):∀k,QJ g k<=QJ h k
 |0=>aba _
 |k+1=>by
  have:=HS H k;rw[QJ,QJ];by_cases e:g k=k
  ·rw[if_pos e,if_pos (H k e)];omega
  ·rw[if_neg e];split <;> omega
theorem Aj {g h:Nat->Nat}(H:∀s,g s=s->h s=s){t:Nat}(h1:h t=t)(h2:g t≠t):∀k,t<k->QJ g k<QJ h k
 |k+1,hk=>by
  rw[QJ,QJ];by_cases e:t=k
  ·subst e;have:=HS H t;rw[if_neg h2,if_pos h1];omega
  ·have:=Aj H h1 h2 k (by omega);by_cases e:g k=k
   ·rw[if_pos e,if_pos (H k e)];omega
   ·rw[if_neg e];split <;> omega
theorem grow {g h:Nat->Nat}(cg:Can g)(ch:Can h)(hf:nY h g){n s:Nat}(hs:s<n)(ZQ:h s≠g s):QJ g n<QJ h n:=by
 refine Aj (t:=h s) (fun u hu=>?_) (ch.fix s) (fun e=>?_) n (afA (ch.le s) hs)
 ·have:=hf (h u) u (ch.fix u);have:=cg.min this;have:=ch.le u;omega
 ·have:=hf (h s) s (ch.fix s);exact ZQ (by omega)
def PW (g f:Nat->Nat):Nat->Bool
 |0=>true
 |k+1=>PW g f k&&g k==f k
theorem MG (g f:Nat->Nat):∀k,PW g f k=true<->∀s,s<k->g s=f s
 |0=>by simp[PW]
 |k+1=>by
  rw[PW,aab,MG g f k,beq_iff_eq]
  constructor
  ·rintro⟨h1,h2⟩ s hs;by_cases e:s=k
   ·subst e;exact h2
   ·exact h1 s (by omega)
  ·intro h;exact⟨fun s hs=>h s (by omega),h k (by omega)⟩
def LL (A:Fa):Nat->(Nat->Nat)->Nat->Nat
 |0,f=>f
 |r+1,f=>bif PW (Un A f) f A.n then f else LL A r (Un A f)
theorem D8 {g f:Nat->Nat}{k:Nat}(h:PW g f k=false):∃s,s<k/\g s≠f s:=by
 refine Classical.byContradiction fun hc=>?_
 have:PW g f k=true:=(MG g f k).2 fun s hs=>Classical.byContradiction fun e=>hc ⟨s,hs,e⟩
 rw[h] at this;cases this
theorem L7 (A:Fa):∀(r:Nat) (f:Nat->Nat),Can f->nY (Un A f) f->A.n<QJ f A.n+r->∀s,s<A.n->Un A (LL A r f) s=LL A r f s
 |0,f,_,_,h=>by have:=Ak f A.n;omega
 |r+1,f,cf,hf,h=>by
  rw[LL]
  cases hs:PW (Un A f) f A.n with
  |true=>exact (MG _ _ _).1 hs
  |false =>
   obtain⟨s,h1,h2⟩:=D8 hs;have:=grow cf (JG A f) hf h1 h2;exact L7 A r _ (JG A f) (xW A hf) (by omega)
theorem D7 (A:Fa):∀(r:Nat) (f:Nat->Nat),Can f->Can (LL A r f)
 |0,f,h=>h
 |r+1,f,h=>by
  rw[LL]
  cases PW (Un A f) f A.n with
  |true=>exact h
  |false=>exact D7 A r _ (JG A f)
structure eW (A:Fa)(B:Nat->Nat->Prop):Prop where
 lt:∀u v,B u v->u<A.n/\v<A.n
 fr:∀u v,B u v->∀x,x<A.m->A.fr u x=A.fr v x
 nx:∀u v,B u v->∀x,x<A.m->B (A.nx u x) (A.nx v x)
theorem D6 {A:Fa}{B:Nat->Nat->Prop}(hB:eW A B):∀(r:Nat) (f:Nat->Nat),(∀u v,B u v->f u=f v)->∀u v,B u v->LL A r f u=LL A r f v
 |0,f,h=>h
 |r+1,f,h=>by
  rw[LL]
  cases PW (Un A f) f A.n with
  |true=>exact h
  |false=>exact D6 hB r _ fun u v xC=>(NC A f u v).2 fun x hx=>⟨hB.fr u v xC x hx,h _ _ (hB.nx u v xC x hx)⟩
def Zy (A:Fa):Nat->Nat:=LL A (A.n+1) fun _=>0
theorem Y2 (A:Fa):Can (Zy A):=D7 A _ _ ⟨fun _=>ae5 _,fun _=>rfl⟩
theorem Yd {A:Fa}(h:A.ok){u v:Nat}(hu:u<A.n)(hv:v<A.n):Zy A u=Zy A v<->A.E (Zy A) u v:=by
 have h0:0<QJ (fun _=>0) A.n:=by
  have:∀k,0<k->0<QJ (fun _=>0) k:=by
   intro k hk
   induction k with
   |zero=>omega
   |succ k ih =>
    rw[QJ];by_cases e:k=0
    ·subst e;decide
    ·have:=ih (by omega);omega
  exact this _ h.pos
 have st:=L7 A (A.n+1) (fun _=>0) ⟨fun _=>ae5 _,fun _=>rfl⟩ (fun _ _ _=>rfl) (by omega);have e:=NC A (Zy A) u v;rw[<-e];show _<->Un A (LL A (A.n+1) fun _=>0) u=Un A (LL A (A.n+1) fun _=>0) v;rw[st u hu,st v hv];rfl
theorem Pa {A:Fa}{B:Nat->Nat->Prop}(hB:eW A B)(u v:Nat)(h:B u v):Zy A u=Zy A v:=D6 hB _ _ (fun _ _ _=>rfl) u v h
theorem DQ {A:Fa}(h:A.ok):eW A fun u v=>u<A.n/\v<A.n/\Zy A u=Zy A v :=
 ⟨fun u v k=>⟨k.1,k.2.1⟩,fun u v k x hx=>(((Yd h k.1 k.2.1).1 k.2.2) x hx).1,fun u v k x hx=>⟨h.lt u x k.1 hx,h.lt v x k.2.1 hx,(((Yd h k.1 k.2.1).1 k.2.2) x hx).2⟩⟩
def gt (l:List Nat)(i:Nat):Nat:=l.getD i 0
theorem VG (l:List Nat)(i x j:Nat):gt (l.set i x) j=if i=j/\j<l.length then x else gt l j:=by
 unfold gt;rw[ae4,ae4,List.getElem?_set];by_cases e:i=j
 ·subst e;by_cases h:i<l.length
  ·simp[h]
  ·simp[h]
 ·simp[e]
theorem Nd (l:List Nat)(x j:Nat):gt (l++[x]) j=if j=l.length then x else gt l j:=by
 unfold gt;rw[ae4,ae4];by_cases e:j=l.length
 ·subst e;simp
 ·rw[if_neg e];by_cases h:j<l.length
  ·rw[afo h]
  ·rw[afz (by simp;omega),afz (by omega)]
structure Pt where
 list:List Nat
 place:List Nat
 set:List Nat
 bg:List Nat
 en:List Nat
 mr:List Nat
structure Pt.Wf (n:Nat)(p:Pt):Prop where
 ll:p.list.length=n
 lp:p.place.length=n
 ls:p.set.length=n
 le:p.en.length=p.bg.length
 lm:p.mr.length=p.bg.length
 pl:∀u,u<n->gt p.place u<n/\gt p.list (gt p.place u)=u
 li:∀i,i<n->gt p.list i<n/\gt p.place (gt p.list i)=i
 st:∀u,u<n->gt p.set u<p.bg.length/\gt p.bg (gt p.set u)<=gt p.place u/\gt p.place u<gt p.en (gt p.set u)
 sp:∀k,k<p.bg.length->gt p.bg k<gt p.en k/\gt p.en k<=n/\∀i,gt p.bg k<=i->i<gt p.en k->gt p.set (gt p.list i)=k
 mr:∀k,k<p.bg.length->gt p.bg k+gt p.mr k<=gt p.en k
def Pt.Mk (p:Pt)(u:Nat):Prop:=gt p.place u<gt p.bg (gt p.set u)+gt p.mr (gt p.set u)
instance (p:Pt)(u:Nat):Decidable (p.Mk u):=inferInstanceAs (Decidable (_<_))
def Pt.XT (p:Pt)(u:Nat):Pt×Bool :=
 bif decide (gt p.place u<gt p.bg (gt p.set u)+gt p.mr (gt p.set u)) then (p,false) else
  ({ p with
   list:=(p.list.set (gt p.place u) (gt p.list (gt p.bg (gt p.set u)+gt p.mr (gt p.set u)))).set (gt p.bg (gt p.set u)+gt p.mr (gt p.set u)) u
   place:=(p.place.set (gt p.list (gt p.bg (gt p.set u)+gt p.mr (gt p.set u))) (gt p.place u)).set u (gt p.bg (gt p.set u)+gt p.mr (gt p.set u))
   mr:=p.mr.set (gt p.set u) (gt p.mr (gt p.set u)+1) },gt p.mr (gt p.set u)+1==1)
theorem PT {n:Nat}{p:Pt}(h:p.Wf n){u:Nat}(hu:u<n):(p.XT u).1.Wf n/\(p.XT u).1.set=p.set/\(p.XT u).1.bg=p.bg/\(p.XT u).1.en=p.en/\(∀v,v<n->((p.XT u).1.Mk v<->p.Mk v\/v=u)) /\
  ((p.XT u).2=true<->gt p.mr (gt p.set u)=0)/\(∀k,k<p.bg.length->(0<gt (p.XT u).1.mr k<->0<gt p.mr k\/k=gt p.set u)):=by
 obtain⟨Ur,WC,LI⟩:=h.st u hu;obtain⟨FA,zw,hk3⟩:=h.sp _ Ur;obtain⟨Je,Pn⟩:=h.pl u hu;unfold Pt.XT;generalize hs:gt p.set u=s at *;generalize ha:gt p.place u=a at *;generalize ht:gt p.bg s+gt p.mr s=t at *;by_cases hm:a<t
 ·rw[decide_eq_true hm,cond_true];refine⟨h,rfl,rfl,rfl,fun v hv=>⟨.inl,?_⟩,?_,fun k hk=>⟨.inl,?_⟩⟩
  ·rintro (h1|rfl)
   ·exact h1
   ·unfold Pt.Mk;rw[hs,ha,ht];exact hm
  ·simp;omega
  ·rintro (h1|rfl)
   ·exact h1
   ·simp only;omega
 ·rw[decide_eq_false hm,cond_false];have kr:t<n:=by omega
  obtain⟨Ae,FY⟩:=h.li t kr;have hso:=hk3 t (by omega) (by omega);generalize ho:gt p.list t=o at *;have L:∀i,gt ((p.list.set a o).set t u) i=if i=t then u else if i=a then o else gt p.list i:=fun i=>by
   rw[VG,VG,afi,h.ll];by_cases e1:i=t
   ·subst e1;rw[if_pos ⟨rfl,kr⟩,if_pos rfl]
   ·rw[if_neg (by omega),if_neg e1];by_cases e2:i=a
    ·subst e2;rw[if_pos ⟨rfl,Je⟩,if_pos rfl]
    ·rw[if_neg (by omega),if_neg e2]
  have P:∀v,gt ((p.place.set o a).set u t) v=if v=u then t else if v=o then a else gt p.place v:=fun v=>by
   rw[VG,VG,afi,h.lp];by_cases e1:v=u
   ·subst e1;rw[if_pos ⟨rfl,hu⟩,if_pos rfl]
   ·rw[if_neg (by omega),if_neg e1];by_cases e2:v=o
    ·subst e2;rw[if_pos ⟨rfl,Ae⟩,if_pos rfl]
    ·rw[if_neg (by omega),if_neg e2]
  have M:∀k,gt (p.mr.set s (gt p.mr s+1)) k=if k=s then gt p.mr s+1 else gt p.mr k:=fun k=>by
   rw[VG,h.lm];by_cases e:k=s
   ·subst e;rw[if_pos ⟨rfl,Ur⟩,if_pos rfl]
   ·rw[if_neg (by omega),if_neg e]
  have hou:o=u<->a=t:=by
   constructor
   ·intro e;rw[e,ha] at FY;exact FY
   ·intro e;rw[<-e,Pn] at ho;exact ho.symm
  refine⟨⟨?_,?_,h.ls,h.le,?_,fun v hv=>?_,fun i hi=>?_,fun v hv=>?_,fun k hk=>?_,fun k hk=>?_⟩,rfl,rfl,rfl,fun v hv=>?_,?_,fun k hk=>?_⟩
  ·simp[h.ll]
  ·simp[h.lp]
  ·simp[h.lm]
  ·show gt ((p.place.set o a).set u t) v<n/\gt ((p.list.set a o).set t u) (gt ((p.place.set o a).set u t) v)=v;rw[P v];by_cases e1:v=u
   ·rw[if_pos e1];exact⟨kr,by rw[L,if_pos rfl,e1]⟩
   ·rw[if_neg e1];by_cases e2:v=o
    ·rw[if_pos e2];exact⟨Je,by rw[L,if_neg (fun e=>e1 (e2.trans (hou.2 e))),if_pos rfl,e2]⟩
    ·rw[if_neg e2];obtain⟨q1,q2⟩:=h.pl v hv;refine⟨q1,?_⟩;rw[L,if_neg (fun e=>e2 (by rw[<-q2,e,ho])),if_neg (fun e=>e1 (by rw[<-q2,e,Pn])),q2]
  ·show gt ((p.list.set a o).set t u) i<n/\gt ((p.place.set o a).set u t) (gt ((p.list.set a o).set t u) i)=i;rw[L i];by_cases e1:i=t
   ·rw[if_pos e1];exact⟨hu,by rw[P,if_pos rfl,e1]⟩
   ·rw[if_neg e1];by_cases e2:i=a
    ·rw[if_pos e2];exact⟨Ae,by rw[P,if_neg (fun e=>e1 (e2.trans (hou.1 e))),if_pos rfl,e2]⟩
    ·rw[if_neg e2];obtain⟨q1,q2⟩:=h.li i hi;refine⟨q1,?_⟩;rw[P,if_neg (fun e=>e2 (by rw[<-q2,e,ha])),if_neg (fun e=>e1 (by rw[<-q2,e,FY])),q2]
  ·show gt p.set v<p.bg.length/\gt p.bg (gt p.set v)<=gt ((p.place.set o a).set u t) v/\gt ((p.place.set o a).set u t) v<gt p.en (gt p.set v);rw[P v];by_cases e1:v=u
   ·rw[if_pos e1,e1,hs];exact⟨Ur,by omega,by omega⟩
   ·rw[if_neg e1];by_cases e2:v=o
    ·rw[if_pos e2,e2,hso];exact⟨Ur,by omega,by omega⟩
    ·rw[if_neg e2];exact h.st v hv
  ·obtain⟨q1,q2,q3⟩:=h.sp k hk;refine⟨q1,q2,fun i fD hi2=>?_⟩;show gt p.set (gt ((p.list.set a o).set t u) i)=k;have:=q3 i fD hi2;rw[L i];by_cases e1:i=t
   ·rw[if_pos e1,hs];rw[e1,ho,hso] at this;exact this
   ·rw[if_neg e1];by_cases e2:i=a
    ·rw[if_pos e2,hso];rw[e2,Pn,hs] at this;exact this
    ·rw[if_neg e2];exact this
  ·show gt p.bg k+gt (p.mr.set s (gt p.mr s+1)) k<=gt p.en k;rw[M k];by_cases e:k=s
   ·rw[if_pos e,e];omega
   ·rw[if_neg e];exact h.mr k hk
  ·show gt ((p.place.set o a).set u t) v<gt p.bg (gt p.set v)+gt (p.mr.set s (gt p.mr s+1)) (gt p.set v)<->p.Mk v\/v=u;unfold Pt.Mk;rw[P v,M];by_cases e1:v=u
   ·rw[if_pos e1,e1,hs,if_pos rfl];exact⟨fun _=>.inr rfl,fun _=>by omega⟩
   ·rw[if_neg e1];by_cases e2:v=o
    ·have D1:a≠t:=fun e=>e1 (e2.trans (hou.2 e))
     rw[if_pos e2,e2,hso,if_pos rfl,FY]
     constructor
     ·intro hh;exfalso;omega
     ·rintro (hh|hh)
      ·exfalso;omega
      ·exact absurd (e2.trans hh) e1
    ·rw[if_neg e2];by_cases e3:gt p.set v=s
     ·have ZQ:gt p.place v≠t:=fun e=>e2 (by rw[<-(h.pl v hv).2,e,ho])
      rw[e3,if_pos rfl]
      constructor
      ·intro hh;exact .inl (by omega)
      ·rintro (hh|hh)
       ·omega
       ·exact absurd hh e1
     ·rw[if_neg e3];exact⟨.inl,fun hh=>hh.resolve_right e1⟩
  ·simp
  ·show 0<gt (p.mr.set s (gt p.mr s+1)) k<->_;rw[M k];by_cases e:k=s
   ·rw[if_pos e];exact⟨fun _=>.inr e,fun _=>by omega⟩
   ·rw[if_neg e];exact⟨.inl,fun hh=>hh.resolve_right e⟩
def Yq (k:Nat):List Nat->List Nat->List Nat
 |[],s=>s
 |u::l,s=>Yq k l (s.set u k)
theorem PC (k:Nat):∀(l s:List Nat),(Yq k l s).length=s.length
 |[],s=>rfl
 |u::l,s=>by rw[Yq,PC k l,afi]
theorem Iu (k:Nat):∀(l s:List Nat) (v:Nat),v<s.length->gt (Yq k l s) v=if v∈l then k else gt s v
 |[],s,v,_=>by simp[Yq]
 |u::l,s,v,hv=>by
  rw[Yq,Iu k l _ v (by rw[afi];exact hv),VG];by_cases h1:v∈l
  ·rw[if_pos h1,if_pos (abc _ h1)]
  ·rw[if_neg h1];by_cases h2:u=v
   ·rw[if_pos ⟨h2,hv⟩,if_pos (by rw[h2];exact aeZ ..)]
   ·rw[if_neg (by omega),if_neg (by simp[h1];omega)]
def piece (l:List Nat)(a b:Nat):List Nat:=(l.drop a).take (b-a)
theorem QI {l:List Nat}{a b x:Nat}(hb:b<=l.length):x∈piece l a b<->∃i,a<=i/\i<b/\gt l i=x:=by
 unfold piece;rw[List.mem_take_iff_getElem]
 constructor
 ·rintro⟨j,hj,e⟩;rw[afQ] at hj;rw[List.getElem_drop] at e;refine⟨a+j,by omega,by omega,?_⟩;unfold gt;rw[ae4,aaa (by omega)];exact e
 ·rintro⟨i,h1,h2,e⟩;refine⟨i-a,by rw[afQ];omega,?_⟩;rw[List.getElem_drop];unfold gt at e;rw[ae4,aaa (by omega)] at e;simp only[afZ] at e;rw[<-e]
  congr 1
  omega
def Pt.cut (p:Pt)(s:Nat):Pt×Bool :=
 bif gt p.mr s==gt p.en s-gt p.bg s then ({ p with mr:=p.mr.set s 0 },false) else
 bif decide (2*gt p.mr s>gt p.en s-gt p.bg s) then
  ({ p with mr:=p.mr.set s 0++[0],bg:=p.bg++[gt p.bg s+gt p.mr s],en:=p.en.set s (gt p.bg s+gt p.mr s)++[gt p.en s],set:=Yq p.bg.length (piece p.list (gt p.bg s+gt p.mr s) (gt p.en s)) p.set },true)
 else
  ({ p with mr:=p.mr.set s 0++[0],bg:=p.bg.set s (gt p.bg s+gt p.mr s)++[gt p.bg s],en:=p.en++[gt p.bg s+gt p.mr s],set:=Yq p.bg.length (piece p.list (gt p.bg s) (gt p.bg s+gt p.mr s)) p.set },true)
structure Cut (n:Nat)(p:Pt)(s:Nat)(r:Pt×Bool):Prop where
 wf:r.1.Wf n
 len:r.1.bg.length=p.bg.length+(bif r.2 then 1 else 0)
 num:∀v,v<n->gt r.1.set v=gt p.set v\/(gt p.set v=s/\gt r.1.set v=p.bg.length/\r.2=true)
 eq:∀u v,u<n->v<n->(gt r.1.set u=gt r.1.set v<->gt p.set u=gt p.set v/\(gt p.set u=s->(p.Mk u<->p.Mk v)))
 mr:∀k,k<p.bg.length->k≠s->gt r.1.mr k=gt p.mr k
 mk0:gt r.1.mr s=0
 mkK:r.2=true->gt r.1.mr p.bg.length=0
 Mk:∀v,v<n->gt p.set v≠s->(r.1.Mk v<->p.Mk v)
theorem Fh {n:Nat}{p:Pt}(h:p.Wf n){s:Nat}(hs:s<p.bg.length)(b:Bool){f t f' t':Nat}(hb:gt p.bg s<=f/\f<t/\t<=gt p.en s)(UF:gt p.bg s<=f'/\f'<t'/\t'<=gt p.en s)
  (hm:∀i,gt p.bg s<=i->i<gt p.en s->((f<=i/\i<t<->(i<gt p.bg s+gt p.mr s<->b=true))/\(f'<=i/\i<t'<->¬(f<=i/\i<t)))){r8 vV:List Nat}
  (LK:r8.length=p.bg.length)(sf:vV.length=p.bg.length)(hbg:∀k,gt r8 k=if k=s then f' else gt p.bg k)(hen:∀k,gt vV k=if k=s then t' else gt p.en k) :
  Cut n p s ({ p with mr:=p.mr.set s 0++[0],bg:=r8++[f],en:=vV++[t],set:=Yq p.bg.length (piece p.list f t) p.set },true):=by
 obtain⟨k1,k2,k3⟩:=h.sp s hs;have hS:∀v,v<n->gt (Yq p.bg.length (piece p.list f t) p.set) v=if gt p.set v=s/\(p.Mk v<->b=true) then p.bg.length else gt p.set v:=fun v hv=>by
  rw[Iu _ _ _ _ (by rw[h.ls];exact hv)];obtain⟨q1,q2⟩:=h.pl v hv;have hi:v∈piece p.list f t<->gt p.set v=s/\(p.Mk v<->b=true):=by
   rw[QI (by rw[h.ll];omega)]
   constructor
   ·rintro⟨i,h1,h2,rfl⟩;have R4:i<n:=by omega
    have e:=(h.li i R4).2;have es:=k3 i (by omega) (by omega);refine⟨es,?_⟩;have:=((hm i (by omega) (by omega)).1).1 ⟨h1,h2⟩;unfold Pt.Mk;rw[e,es];exact this
   ·rintro⟨h1,h2⟩;obtain⟨_,r2,r3⟩:=h.st v hv;rw[h1] at r2 r3;unfold Pt.Mk at h2;rw[h1] at h2;obtain⟨h3,h4⟩:=((hm _ r2 r3).1).2 h2;exact⟨_,h3,h4,q2⟩
  by_cases e:v∈piece p.list f t
  ·rw[if_pos e,if_pos (hi.1 e)]
  ·rw[if_neg e,if_neg fun c=>e (hi.2 c)]
 have hK:∀v,v<n->gt p.set v<p.bg.length:=fun v hv=>(h.st v hv).1
 have hM:∀k,gt (p.mr.set s 0++[0]) k=if k=s\/k=p.bg.length then 0 else gt p.mr k:=fun k=>by
  rw[Nd,VG,afi,h.lm];by_cases e1:k=p.bg.length
  ·rw[if_pos e1,if_pos (.inr e1)]
  ·rw[if_neg e1];by_cases e2:k=s
   ·rw[if_pos ⟨e2.symm,by omega⟩,if_pos (.inl e2)]
   ·rw[if_neg (by omega),if_neg (by omega)]
 have hB:∀k,gt (r8++[f]) k=if k=p.bg.length then f else if k=s then f' else gt p.bg k:=fun k=>by rw[Nd,LK,hbg]
 have hE:∀k,gt (vV++[t]) k=if k=p.bg.length then t else if k=s then t' else gt p.en k:=fun k=>by rw[Nd,sf,hen]
 have R4:∀v,v<n->gt p.set v=s->((f<=gt p.place v/\gt p.place v<t<->(p.Mk v<->b=true))/\(f'<=gt p.place v/\gt p.place v<t'<->¬(f<=gt p.place v/\gt p.place v<t))):=fun v hv e=>by
  obtain⟨_,r2,r3⟩:=h.st v hv;rw[e] at r2 r3;have:=hm _ r2 r3;unfold Pt.Mk;rw[e];exact this
 refine⟨⟨h.ll,h.lp,by rw[PC];exact h.ls,by simp[sf,LK],by simp[h.lm,LK],h.pl,h.li,fun v hv=>?_,fun k hk=>?_,fun k hk=>?_⟩,by simp[LK],fun v hv=>?_,fun u v hu hv=>?_,fun k hk ZQ=>?_,?_,fun _=>?_,fun v hv ZQ=>?_⟩
 ·show gt (Yq p.bg.length (piece p.list f t) p.set) v<(r8++[f]).length/\gt (r8++[f]) (gt (Yq p.bg.length (piece p.list f t) p.set) v)<=gt p.place v/\gt p.place v<gt (vV++[t]) (gt (Yq p.bg.length (piece p.list f t) p.set) v);rw[hS v hv,hB,hE,aeW,LK];have hkv:=hK v hv;obtain⟨r1,r2,r3⟩:=h.st v hv;by_cases c:gt p.set v=s/\(p.Mk v<->b=true)
  ·have:=((R4 v hv c.1).1).2 c.2;simp only[if_pos c];exact⟨by simp,this.1,this.2⟩
  ·simp only[if_neg c];have ZQ:¬gt p.set v=p.bg.length:=by omega
   rw[if_neg ZQ,if_neg ZQ];by_cases e:gt p.set v=s
   ·have:=((R4 v hv e).2).2 fun c2=>c ⟨e,((R4 v hv e).1).1 c2⟩
    rw[if_pos e,if_pos e];exact⟨by simp;omega,this.1,this.2⟩
   ·rw[if_neg e,if_neg e];exact⟨by simp;omega,r2,r3⟩
 ·show gt (r8++[f]) k<gt (vV++[t]) k/\gt (vV++[t]) k<=n/\∀i,gt (r8++[f]) k<=i->i<gt (vV++[t]) k->gt (Yq p.bg.length (piece p.list f t) p.set) (gt p.list i)=k;have hk:k<p.bg.length+1:=by simpa[LK] using hk
  rw[hB,hE];by_cases e1:k=p.bg.length
  ·rw[if_pos e1,if_pos e1];refine⟨hb.2.1,by omega,fun i h1 h2=>?_⟩;obtain⟨q1,q2⟩:=h.li i (by omega);have es:=k3 i (by omega) (by omega);rw[hS _ q1,if_pos ⟨es,((R4 _ q1 es).1).1 (by rw[q2];exact⟨h1,h2⟩)⟩,e1]
  ·rw[if_neg e1,if_neg e1];by_cases e2:k=s
   ·rw[if_pos e2,if_pos e2];refine⟨UF.2.1,by omega,fun i h1 h2=>?_⟩;obtain⟨q1,q2⟩:=h.li i (by omega);have es:=k3 i (by omega) (by omega);have TL:¬(f<=i/\i<t):=((hm i (by omega) (by omega)).2).1 ⟨h1,h2⟩;rw[hS _ q1,if_neg (fun c=>TL (by have:=((R4 _ q1 es).1).2 c.2;rw[q2] at this;exact this)),es,e2]
   ·rw[if_neg e2,if_neg e2];obtain⟨r1,r2,r3⟩:=h.sp k (by omega);refine⟨r1,r2,fun i h1 h2=>?_⟩;obtain⟨q1,_⟩:=h.li i (by omega);have es:=r3 i h1 h2;rw[hS _ q1,if_neg (fun c=>e2 (es.symm.trans c.1)),es]
 ·show gt (r8++[f]) k+gt (p.mr.set s 0++[0]) k<=gt (vV++[t]) k;have hk:k<p.bg.length+1:=by simpa[LK] using hk
  rw[hB,hE,hM];by_cases e1:k=p.bg.length
  ·rw[if_pos e1,if_pos e1,if_pos (.inr e1)];omega
  ·rw[if_neg e1,if_neg e1];by_cases e2:k=s
   ·rw[if_pos e2,if_pos e2,if_pos (.inl e2)];omega
   ·rw[if_neg e2,if_neg e2,if_neg (by omega)];exact h.mr k (by omega)
 ·show gt (Yq p.bg.length (piece p.list f t) p.set) v=_\/_;rw[hS v hv];by_cases c:gt p.set v=s/\(p.Mk v<->b=true)
  ·right
   refine⟨c.1,?_,rfl⟩;rw[if_pos c]
  ·rw[if_neg c];exact .inl rfl
 ·show gt (Yq p.bg.length (piece p.list f t) p.set) u=gt (Yq p.bg.length (piece p.list f t) p.set) v<->_;have hku:=hK u hu;have hkv:=hK v hv;rw[hS u hu,hS v hv];by_cases cu:gt p.set u=s/\(p.Mk u<->b=true)
  ·by_cases cv:gt p.set v=s/\(p.Mk v<->b=true)
   ·rw[if_pos cu,if_pos cv];exact⟨fun _=>⟨cu.1.trans cv.1.symm,fun _=>cu.2.trans cv.2.symm⟩,fun _=>rfl⟩
   ·rw[if_pos cu,if_neg cv]
    constructor
    ·intro e;omega
    ·rintro⟨e1,e2⟩;exact absurd ⟨e1.symm.trans cu.1,(e2 cu.1).symm.trans cu.2⟩ cv
  ·by_cases cv:gt p.set v=s/\(p.Mk v<->b=true)
   ·rw[if_neg cu,if_pos cv]
    constructor
    ·intro e;omega
    ·rintro⟨e1,e2⟩;have es:=e1.trans cv.1;exact absurd ⟨es,(e2 es).trans cv.2⟩ cu
   ·rw[if_neg cu,if_neg cv]
    constructor
    ·intro e;refine⟨e,fun es=>?_⟩;have c1:¬(p.Mk u<->b=true):=fun c=>cu ⟨es,c⟩
     have c2:¬(p.Mk v<->b=true):=fun c=>cv ⟨e.symm.trans es,c⟩
     cases b with
     |true=>simp only[iff_true] at c1 c2;exact⟨fun x=>absurd x c1,fun x=>absurd x c2⟩
     |false =>
      simp only[ae1,iff_false,Classical.not_not] at c1 c2;exact⟨fun _=>c2,fun _=>c1⟩
    ·exact fun e=>e.1
 ·show gt (p.mr.set s 0++[0]) k=gt p.mr k;rw[hM,if_neg (by omega)]
 ·show gt (p.mr.set s 0++[0]) s=0;rw[hM,if_pos (.inl rfl)]
 ·show gt (p.mr.set s 0++[0]) p.bg.length=0;rw[hM,if_pos (.inr rfl)]
 ·show gt p.place v<gt (r8++[f]) (gt (Yq p.bg.length (piece p.list f t) p.set) v)+gt (p.mr.set s 0++[0]) (gt (Yq p.bg.length (piece p.list f t) p.set) v)<->p.Mk v;have hkv:=hK v hv;rw[hS v hv,if_neg (fun c=>ZQ c.1),hB,hM,if_neg (by omega),if_neg ZQ,if_neg (by omega)];rfl
theorem Gi {n:Nat}{p:Pt}(h:p.Wf n){s:Nat}(hs:s<p.bg.length)(hm:0<gt p.mr s):Cut n p s (p.cut s):=by
 obtain⟨k1,k2,k3⟩:=h.sp s hs;have kk:=h.mr s hs;unfold Pt.cut
 cases X9:gt p.mr s==gt p.en s-gt p.bg s with
 |true =>
  have X9:gt p.mr s=gt p.en s-gt p.bg s:=by simpa using X9
  rw[cond_true];have hM:∀k,gt (p.mr.set s 0) k=if k=s then 0 else gt p.mr k:=fun k=>by
   rw[VG,h.lm];by_cases e:k=s
   ·rw[if_pos ⟨e.symm,by omega⟩,if_pos e]
   ·rw[if_neg (by omega),if_neg e]
  refine⟨⟨h.ll,h.lp,h.ls,h.le,by simp[h.lm],h.pl,h.li,h.st,h.sp,fun k hk=>?_⟩,rfl,fun v _=>.inl rfl,fun u v hu hv=>⟨fun e=>⟨e,fun es=>?_⟩,fun e=>e.1⟩,fun k hk ZQ=>?_,?_,fun h=>(nomatch h),fun v hv ZQ=>?_⟩
  ·show gt p.bg k+gt (p.mr.set s 0) k<=gt p.en k;rw[hM];have:=h.mr k hk
   split <;> omega
  ·have au:=(h.st u hu).2.2;have av:=(h.st v hv).2.2;have e:gt p.set u=gt p.set v:=e;unfold Pt.Mk;rw[<-e] at av ⊢;rw[es] at au av ⊢
   constructor <;> intro _ <;> omega
  ·show gt (p.mr.set s 0) k=_;rw[hM,if_neg ZQ]
  ·show gt (p.mr.set s 0) s=0;rw[hM,if_pos rfl]
  ·show gt p.place v<gt p.bg (gt p.set v)+gt (p.mr.set s 0) (gt p.set v)<->p.Mk v;rw[hM,if_neg ZQ];rfl
 |false =>
  have X9:gt p.mr s≠gt p.en s-gt p.bg s:=by simpa using X9
  rw[cond_false]
  cases decide (2*gt p.mr s>gt p.en s-gt p.bg s) with
  |true =>
   rw[cond_true];refine Fh h hs false (f:=gt p.bg s+gt p.mr s) (t:=gt p.en s) (f':=gt p.bg s) (t':=gt p.bg s+gt p.mr s) (by omega) (by omega) (fun i h1 h2=>?_) rfl (by rw[afi];exact h.le) (fun k=>?_) fun k=>?_
   ·simp only[ae1,iff_false];omega
   ·by_cases e:k=s
    ·rw[if_pos e,e]
    ·rw[if_neg e]
   ·rw[VG,h.le];by_cases e:k=s
    ·rw[if_pos ⟨e.symm,by omega⟩,if_pos e]
    ·rw[if_neg (by omega),if_neg e]
  |false =>
   rw[cond_false];refine Fh h hs true (f:=gt p.bg s) (t:=gt p.bg s+gt p.mr s) (f':=gt p.bg s+gt p.mr s) (t':=gt p.en s) (by omega) (by omega) (fun i h1 h2=>?_) (by rw[afi]) h.le (fun k=>?_) fun k=>?_
   ·simp only[iff_true];omega
   ·rw[VG];by_cases e:k=s
    ·rw[if_pos ⟨e.symm,by omega⟩,if_pos e]
    ·rw[if_neg (by omega),if_neg e]
   ·by_cases e:k=s
    ·rw[if_pos e,e]
    ·rw[if_neg e]
def Zd:List Nat->Pt->List Nat->Pt×List Nat
 |[],p,T=>(p,T)
 |u::l,p,T=>Zd l (p.XT u).1 (bif (p.XT u).2 then T++[gt p.set u] else T)
theorem MF:∀(a b:List Nat) (p:Pt) (T:List Nat),Zd (a++b) p T=Zd b (Zd a p T).1 (Zd a p T).2
 |[],b,p,T=>rfl
 |u::a,b,p,T=>by rw[List.cons_append,Zd,Zd,MF a b]
structure eX (p:Pt)(T:List Nat):Prop where
 nd:T.Nodup
 mem:∀k,k<p.bg.length->(k∈T<->0<gt p.mr k)
 lt:∀k∈T,k<p.bg.length
structure rP (n:Nat)(us:List Nat)(p:Pt)(r:Pt×List Nat):Prop where
 wf:r.1.Wf n
 set:r.1.set=p.set
 bg:r.1.bg=p.bg
 en:r.1.en=p.en
 nU:eX r.1 r.2
 Mk:∀v,v<n->(r.1.Mk v<->p.Mk v\/v∈us)
theorem Sw {n:Nat}:∀(us:List Nat) {p:Pt} {T:List Nat},p.Wf n->eX p T->(∀u∈us,u<n)->rP n us p (Zd us p T)
 |[],p,T,h,ht,_=>⟨h,rfl,rfl,rfl,ht,fun v _=>by simp[Zd]⟩
 |u::l,p,T,h,ht,hu=>by
  have hun:=hu u (aeZ ..);obtain⟨m1,m2,m3,m4,m5,m6,m7⟩:=PT h hun;have hsu:=(h.st u hun).1;have f_:eX (p.XT u).1 (bif (p.XT u).2 then T++[gt p.set u] else T):=by
   refine⟨?_,fun k hk=>?_,fun k hk=>?_⟩
   ·cases hb:(p.XT u).2 with
    |false=>exact ht.nd
    |true =>
     have h0:=m6.1 hb;rw[cond_true,afR];refine⟨ht.nd,by simp,fun a ha b hb=>?_⟩;rw[ae0.1 hb];rintro rfl;have:=(ht.mem _ hsu).1 ha;omega
   ·rw[m3] at hk;rw[m7 k hk]
    cases hb:(p.XT u).2 with
    |false =>
     have h0:gt p.mr (gt p.set u)≠0:=fun e=>by rw[m6.2 e] at hb;cases hb
     rw[cond_false,ht.mem k hk]
     constructor
     ·exact .inl
     ·rintro (h1|rfl)
      ·exact h1
      ·omega
    |true =>
     rw[cond_true,afb,ae0,ht.mem k hk]
   ·rw[m3]
    cases hb:(p.XT u).2 with
    |false=>rw[hb] at hk;exact ht.lt k hk
    |true =>
     rw[hb,cond_true,afb,ae0] at hk;rcases hk with hk|rfl
     ·exact ht.lt k hk
     ·exact hsu
  have ih:=Sw l m1 f_ fun x hx=>hu x (abc _ hx)
  rw[Zd];refine⟨ih.wf,ih.set.trans m2,ih.bg.trans m3,ih.en.trans m4,ih.nU,fun v hv=>?_⟩;rw[ih.Mk v hv,m5 v hv,afa,or_assoc]
def US:List Nat->Pt->List Nat->Pt×List Nat
 |[],p,w=>(p,w)
 |t::T,p,w=>US T (p.cut t).1 (bif (p.cut t).2 then w++[p.bg.length] else w)
def Pt.Zero (p:Pt):Prop:=∀k,k<p.bg.length->gt p.mr k=0
structure mo (n:Nat)(p:Pt)(w:List Nat)(R:Nat->Nat->Prop)(r:Pt×List Nat):Prop where
 wf:r.1.Wf n
 zero:r.1.Zero
 le:p.bg.length<=r.1.bg.length
 Ad:r.2.length+p.bg.length=w.length+r.1.bg.length
 work:∀k,k∈r.2<->k∈w\/(p.bg.length<=k/\k<r.1.bg.length)
 num:∀v,v<n->gt r.1.set v=gt p.set v\/p.bg.length<=gt r.1.set v
 eq:∀u v,u<n->v<n->(gt r.1.set u=gt r.1.set v<->gt p.set u=gt p.set v/\R u v)
theorem ME {n:Nat}:∀(T:List Nat) {p:Pt} (w:List Nat),p.Wf n->T.Nodup->(∀k∈T,k<p.bg.length/\0<gt p.mr k)->(∀k,k<p.bg.length->k∉T->gt p.mr k=0) ->
  mo n p w (fun u v=>gt p.set u∈T->(p.Mk u<->p.Mk v)) (US T p w)
 |[],p,w,h,_,_,hz=>⟨h,fun k hk=>hz k hk (by simp),aba _,rfl,fun k=>by simp only[US];constructor;exact .inl;rintro (h|h);exact h;omega,fun v _=>.inl rfl,fun u v _ _=>by simp[US]⟩
 |t::T,p,w,h,hn,hT,hz=>by
  obtain⟨ht,hm⟩:=hT t (aeZ ..);have hc:=Gi h ht hm;rw[afI] at hn;rw[US];generalize hr:p.cut t=r at *;obtain⟨p1,b⟩:=r;simp only at hc ⊢;have hlen:p1.bg.length=p.bg.length+(bif b then 1 else 0):=hc.len;have hle:p.bg.length<=p1.bg.length:=by omega
  have hT1:∀k∈T,k<p1.bg.length/\0<gt p1.mr k:=fun k hk=>by
   obtain⟨q1,q2⟩:=hT k (abc _ hk);refine⟨by omega,?_⟩;have:gt p1.mr k=gt p.mr k:=hc.mr k q1 fun e=>hn.1 (e ▸ hk)
   omega
  have BS:∀k,k<p1.bg.length->k∉T->gt p1.mr k=0:=fun k hk hnk=>by
   by_cases e:k=t
   ·rw[e];exact hc.mk0
   ·by_cases e2:k<p.bg.length
    ·have:gt p1.mr k=gt p.mr k:=hc.mr k e2 e;rw[this];exact hz k e2 fun VU=>by
      rcases afa.1 VU with h1|h1
      ·exact e h1
      ·exact hnk h1
    ·cases b with
     |false=>simp at hlen;omega
     |true =>
      have:k=p.bg.length:=by simp at hlen;omega
      rw[this];exact hc.mkK rfl
  have ih:=ME (p:=p1) T (bif b then w++[p.bg.length] else w) hc.wf hn.2 hT1 BS;have ile:=ih.le;have iwl:=ih.Ad;refine⟨ih.wf,ih.zero,by omega,?_,fun k=>?_,fun v hv=>?_,fun u v hu hv=>?_⟩
  ·cases b with
   |false=>simp at hlen iwl ⊢;omega
   |true=>simp at hlen iwl ⊢;omega
  ·rw[ih.work k]
   cases b with
   |false =>
    have hlen:p1.bg.length=p.bg.length:=by simpa using hlen
    rw[cond_false,hlen]
   |true =>
    have hlen:p1.bg.length=p.bg.length+1:=by simpa using hlen
    simp only[cond_true] at ile;rw[cond_true,afb,ae0]
    constructor
    ·rintro ((h1|h1)|h1)
     ·exact .inl h1
     ·exact .inr (by omega)
     ·exact .inr (by omega)
    ·rintro (h1|h1)
     ·exact .inl (.inl h1)
     ·by_cases e:k=p.bg.length
      ·exact .inl (.inr e)
      ·exact .inr (by omega)
  ·rcases ih.num v hv with h1|h1
   ·rcases hc.num v hv with h2|h2
    ·exact .inl (h1.trans h2)
    ·have h3:gt p1.set v=p.bg.length:=h2.2.1;exact .inr (by omega)
   ·exact .inr (by omega)
  ·rw[ih.eq u v hu hv];have he:gt p1.set u=gt p1.set v<->gt p.set u=gt p.set v/\(gt p.set u=t->(p.Mk u<->p.Mk v)):=hc.eq u v hu hv;have VU:∀x,x<n->(gt p1.set x∈T<->gt p.set x∈T):=fun x hx=>by
    have RK:gt p1.set x=gt p.set x\/(gt p.set x=t/\gt p1.set x=p.bg.length/\b=true):=hc.num x hx;rcases RK with h1|⟨h1,h2,_⟩
    ·rw[h1]
    ·rw[h1,h2]
     constructor
     ·intro hk;have:=(hT _ (abc _ hk)).1;omega
     ·intro hk;exact absurd hk hn.1
   have hMk:∀x,x<n->gt p.set x≠t->(p1.Mk x<->p.Mk x):=hc.Mk;rw[he]
   constructor
   ·rintro⟨⟨e1,e2⟩,e3⟩;refine⟨e1,fun hx=>?_⟩;rcases afa.1 hx with h1|h1
    ·exact e2 h1
    ·have ZQ:gt p.set u≠t:=fun e=>hn.1 (e ▸ h1)
     have:=e3 ((VU u hu).2 h1);rw[hMk u hu ZQ,hMk v hv (by rw[<-e1];exact ZQ)] at this;exact this
   ·rintro⟨e1,e2⟩;refine⟨⟨e1,fun hx=>e2 (by rw[hx];exact aeZ ..)⟩,fun hx=>?_⟩;have h1:=(VU u hu).1 hx;have ZQ:gt p.set u≠t:=fun e=>hn.1 (e ▸ h1)
    rw[hMk u hu ZQ,hMk v hv (by rw[<-e1];exact ZQ)];exact e2 (abc _ h1)
def Ac (Yu:Nat->List Nat)(S:List Nat)(p:Pt)(w:List Nat):Pt×List Nat :=
 US (Zd (S.flatMap Yu) p []).2 (Zd (S.flatMap Yu) p []).1 w
theorem Gh {n:Nat}{p:Pt}(h:p.Wf n)(hz:p.Zero)(w:List Nat){nx:Nat->Nat}{Yu:Nat->List Nat}{S:List Nat}(hS:∀c∈S,c<n)(hb:∀c,c<n->∀u,u∈Yu c<->u<n/\nx u=c) :
  mo n p w (fun u v=>nx u∈S<->nx v∈S) (Ac Yu S p w):=by
 have PS:∀u,u∈S.flatMap Yu<->u<n/\nx u∈S:=fun u=>by
  rw[List.mem_flatMap]
  constructor
  ·rintro⟨c,h1,h2⟩;obtain⟨q1,q2⟩:=(hb c (hS c h1) u).1 h2;exact⟨q1,by rw[q2];exact h1⟩
  ·rintro⟨h1,h2⟩;exact⟨_,h2,(hb _ (hS _ h2) u).2 ⟨h1,rfl⟩⟩
 have ml:eX p []:=⟨by simp,fun k hk=>by simp[hz k hk],fun k hk=>by simp at hk⟩;have hm:=Sw (S.flatMap Yu) h ml fun u hu=>((PS u).1 hu).1
 unfold Ac;generalize Zd (S.flatMap Yu) p []=r at *;obtain⟨p1,T⟩:=r;have e1:p1.set=p.set:=hm.set;have e2:p1.bg=p.bg:=hm.bg;have t1:T.Nodup:=hm.nU.nd;have t2:∀k,k<p1.bg.length->(k∈T<->0<gt p1.mr k):=hm.nU.mem;have t3:∀k∈T,k<p1.bg.length:=hm.nU.lt;have hc:=ME (p:=p1) T w hm.wf t1 (fun k hk=>⟨t3 k hk,(t2 k (t3 k hk)).1 hk⟩) (fun k hk hn=>by have:=t2 k hk;have:¬0<gt p1.mr k:=fun h=>hn (this.2 h);omega);have hM:∀v,v<n->(p1.Mk v<->nx v∈S):=fun v hv=>by
  have:p1.Mk v<->p.Mk v\/v∈S.flatMap Yu:=hm.Mk v hv;rw[this,PS]
  constructor
  ·rintro (h1|h1)
   ·obtain⟨q1,q2,_⟩:=h.st v hv;unfold Pt.Mk at h1;rw[hz _ q1] at h1;omega
   ·exact h1.2
  ·exact fun h1=>.inr ⟨hv,h1⟩
 simp only[e1,e2] at hc;have hle:=hc.le;have mh:=hc.Ad;have fZ:=hc.work;have BQ:=hc.num;simp only[e1,e2] at hle mh fZ BQ;refine⟨hc.wf,hc.zero,hle,mh,fZ,BQ,fun u v hu hv=>?_⟩;have:=hc.eq u v hu hv;simp only[e1] at this;rw[this]
 constructor
 ·rintro⟨q1,q2⟩;refine⟨q1,?_⟩;by_cases Ab:gt p.set u∈T
  ·rw[<-hM u hu,<-hM v hv];exact q2 Ab
  ·have TL:∀x,x<n->gt p.set x=gt p.set u->¬nx x∈S:=fun x hx e hxS=>by
    obtain⟨r1,r2,r3⟩:=hm.wf.st x hx;simp only[e1,e] at r1 r2 r3;have h0:¬0<gt p1.mr (gt p.set u):=fun h=>Ab ((t2 _ r1).2 h)
    have xU:=(hM x hx).2 hxS;unfold Pt.Mk at xU;rw[e1,e] at xU;omega
   exact⟨fun h=>absurd h (TL u hu rfl),fun h=>absurd h (TL v hv q1.symm)⟩
 ·rintro⟨q1,q2⟩;exact⟨q1,fun _=>by rw[hM u hu,hM v hv];exact q2⟩
def RJ (Yu:Nat->Nat->List Nat)(S:List Nat):Nat->Nat->Pt->List Nat->Pt×List Nat
 |0,_,p,w=>(p,w)
 |r+1,x,p,w=>RJ Yu S r (x+1) (Ac (Yu x) S p w).1 (Ac (Yu x) S p w).2
theorem Gg {n:Nat}{nx:Nat->Nat->Nat}{Yu:Nat->Nat->List Nat}{S:List Nat}(hS:∀c∈S,c<n):∀(r x:Nat) {p:Pt} (w:List Nat),p.Wf n->p.Zero->(∀y,x<=y->y<x+r->∀c,c<n->∀u,u∈Yu y c<->u<n/\nx u y=c) ->
  mo n p w (fun u v=>∀y,x<=y->y<x+r->(nx u y∈S<->nx v y∈S)) (RJ Yu S r x p w)
 |0,x,p,w,h,hz,_=>⟨h,hz,aba _,rfl,fun k=>by simp only[RJ];constructor;exact .inl;rintro (h|h);exact h;omega,fun v _=>.inl rfl,fun u v _ _=>⟨fun e=>⟨e,fun y h1 h2=>by omega⟩,fun e=>e.1⟩⟩
 |r+1,x,p,w,h,hz,hb=>by
  have h1:=Gh h hz w (nx:=fun u=>nx u x) hS (hb x (aba _) (by omega));rw[RJ];generalize Ac (Yu x) S p w=q at *;obtain⟨p1,w1⟩:=q;simp only at h1 ⊢;have ih:=Gg (p:=p1) hS r (x+1) w1 h1.wf h1.zero fun y fY nT=>hb y (by omega) (by omega)
  have a1:=h1.le;have a2:=ih.le;have a3:=h1.Ad;have a4:=ih.Ad;simp only at a1 a2 a3 a4;refine⟨ih.wf,ih.zero,by omega,by omega,fun k=>?_,fun v hv=>?_,fun u v hu hv=>?_⟩
  ·rw[ih.work k];have:=h1.work k;simp only at this;rw[this]
   constructor
   ·rintro ((h|h)|h)
    ·exact .inl h
    ·exact .inr (by omega)
    ·exact .inr (by omega)
   ·rintro (h|h)
    ·exact .inl (.inl h)
    ·by_cases e:k<p1.bg.length
     ·exact .inl (.inr ⟨h.1,e⟩)
     ·exact .inr ⟨by omega,h.2⟩
  ·have b1:=h1.num v hv;have b2:=ih.num v hv;simp only at b1 b2;rcases b2 with b2|b2
   ·rcases b1 with b1|b1
    ·exact .inl (b2.trans b1)
    ·exact .inr (by omega)
   ·exact .inr (by omega)
  ·rw[ih.eq u v hu hv];have:=h1.eq u v hu hv;simp only at this;rw[this]
   constructor
   ·rintro⟨⟨e1,e2⟩,e3⟩;refine⟨e1,fun y fY nT=>?_⟩;by_cases e:y=x
    ·subst e;exact e2
    ·exact e3 y (by omega) (by omega)
   ·rintro⟨e1,e2⟩;exact⟨⟨e1,e2 x (aba _) (by omega)⟩,fun y fY nT=>e2 y (by omega) (by omega)⟩
theorem Nu:∀(n K:Nat) (f:Nat->Nat),(∀k,k<K->f k<n)->(∀i j,i<K->j<K->f i=f j->i=j)->K<=n
 |0,K,f,h1,_=>by
  rcases Nat.eq_zero_or_pos K with h|h
  ·omega
  ·exact absurd (h1 0 h) (by omega)
 |n+1,K,f,h1,h2=>by
  by_cases hex:∃k,k<K/\f k=n
  ·obtain⟨k0,WX,e0⟩:=hex;have:=Nu n (K-1) (fun k=>if k=k0 then f (K-1) else f k) (fun k hk=>by
    by_cases e:k=k0
    ·rw[if_pos e];have:=h1 (K-1) (by omega);have:f (K-1)≠n:=fun e'=>by have:=h2 (K-1) k0 (by omega) WX (e'.trans e0.symm);omega
     omega
    ·rw[if_neg e];have:=h1 k (by omega);have:f k≠n:=fun e'=>e (h2 k k0 (by omega) WX (e'.trans e0.symm))
     omega) (fun i j hi hj e=>by
    by_cases e1:i=k0
    ·by_cases e2:j=k0
     ·omega
     ·rw[if_pos e1,if_neg e2] at e;have:=h2 _ _ (by omega) (by omega) e;omega
    ·by_cases e2:j=k0
     ·rw[if_neg e1,if_pos e2] at e;have:=h2 _ _ (by omega) (by omega) e;omega
     ·rw[if_neg e1,if_neg e2] at e;exact h2 _ _ (by omega) (by omega) e)
   omega
  ·have:=Nu n K f (fun k hk=>by
    have:=h1 k hk;have:f k≠n:=fun e=>hex ⟨k,hk,e⟩
    omega) h2
   omega
theorem Pt.Wf.few {n:Nat}{p:Pt}(h:p.Wf n):p.bg.length<=n:=by
 refine Nu n _ (fun k=>gt p.bg k) (fun k hk=>by have:=h.sp k hk;omega) fun i j hi hj e=>?_
 obtain⟨a1,a2,a3⟩:=h.sp i hi;obtain⟨b1,b2,b3⟩:=h.sp j hj;have e:gt p.bg i=gt p.bg j:=e;have:=a3 _ (aba _) a1;have:=b3 _ (aba _) b1;rw[e] at *;omega
def K9 (Yu:Nat->Nat->List Nat)(m:Nat):Nat->Pt->List Nat->Pt
 |0,p,_=>p
 |f+1,p,w=>match w.getLast? with
  |none=>p
  |some s=>K9 Yu m f (RJ Yu (piece p.list (gt p.bg s) (gt p.en s)) m 0 p w.dropLast).1 (RJ Yu (piece p.list (gt p.bg s) (gt p.en s)) m 0 p w.dropLast).2
structure rO (A:Fa)(p:Pt)(w:List Nat):Prop where
 wf:p.Wf A.n
 zero:p.Zero
 work:∀k∈w,k<p.bg.length
 fr:∀u v,u<A.n->v<A.n->gt p.set u=gt p.set v->∀x,x<A.m->A.fr u x=A.fr v x
 bis:∀B,eW A B->∀u v,B u v->gt p.set u=gt p.set v
 part:∃xc:Nat->Nat,(∀u v,u<A.n->v<A.n->gt p.set u=gt p.set v->xc u=xc v)/\(∀u v,u<A.n->v<A.n->gt p.set u=gt p.set v->∀x,x<A.m->xc (A.nx u x)=xc (A.nx v x)) /\
  ∀u v,u<A.n->v<A.n->xc u=xc v->gt p.set u∈w\/gt p.set v∈w\/gt p.set u=gt p.set v
theorem Gf {A:Fa}(hA:A.ok){Yu:Nat->Nat->List Nat}(hb:∀y,y<A.m->∀c,c<A.n->∀u,u∈Yu y c<->u<A.n/\A.nx u y=c){p:Pt}{w:List Nat}(h:rO A p w){s:Nat}(hs:w.getLast? = some s) :
  rO A (RJ Yu (piece p.list (gt p.bg s) (gt p.en s)) A.m 0 p w.dropLast).1 (RJ Yu (piece p.list (gt p.bg s) (gt p.en s)) A.m 0 p w.dropLast).2 /\
  2*(A.n-(RJ Yu (piece p.list (gt p.bg s) (gt p.en s)) A.m 0 p w.dropLast).1.bg.length)+(RJ Yu (piece p.list (gt p.bg s) (gt p.en s)) A.m 0 p w.dropLast).2.length<2*(A.n-p.bg.length)+w.length:=by
 have hw:w=w.dropLast++[s]:=by
  have ZQ:w≠[]:=fun e=>by rw[e] at hs;cases hs
  rw[List.getLast?_eq_some_getLast ZQ] at hs;have:=List.dropLast_concat_getLast ZQ;rw[Option.some.inj hs] at this;exact this.symm
 have hsK:s<p.bg.length:=h.work s (by rw[hw];simp);obtain⟨k1,k2,k3⟩:=h.wf.sp s hsK;have hS:∀c,c<A.n->(c∈piece p.list (gt p.bg s) (gt p.en s)<->gt p.set c=s):=fun c hc=>by
  rw[QI (by rw[h.wf.ll];exact k2)]
  constructor
  ·rintro⟨i,h1,h2,rfl⟩;exact k3 i h1 h2
  ·intro e;obtain⟨_,r2,r3⟩:=h.wf.st c hc;rw[e] at r2 r3;exact⟨_,r2,r3,(h.wf.pl c hc).2⟩
 have rN:∀c∈piece p.list (gt p.bg s) (gt p.en s),c<A.n:=fun c hc=>by
  rw[QI (by rw[h.wf.ll];exact k2)] at hc;obtain⟨i,h1,h2,rfl⟩:=hc;exact (h.wf.li i (by omega)).1
 have hp:=Gg (nx:=A.nx) rN A.m 0 w.dropLast h.wf h.zero fun y _ hy=>hb y (by omega)
 generalize piece p.list (gt p.bg s) (gt p.en s)=S at *;generalize RJ Yu S A.m 0 p w.dropLast=q at *;obtain⟨p1,w1⟩:=q;have sw:p1.Wf A.n:=hp.wf;have Te:=sw.few;have hle:p.bg.length<=p1.bg.length:=hp.le;have mh:w1.length+p.bg.length=w.dropLast.length+p1.bg.length:=hp.Ad;have fZ:∀k,k∈w1<->k∈w.dropLast\/(p.bg.length<=k/\k<p1.bg.length):=hp.work;have RK:∀v,v<A.n->gt p1.set v=gt p.set v\/p.bg.length<=gt p1.set v:=hp.num;have heq:∀u v,u<A.n->v<A.n->(gt p1.set u=gt p1.set v<->gt p.set u=gt p.set v/\∀y,0<=y->y<0+A.m->(A.nx u y∈S<->A.nx v y∈S)):=hp.eq;have ael:w.length=w.dropLast.length+1:=by
  conv=>lhs;rw[hw]
  simp
 refine⟨⟨sw,hp.zero,fun k hk=>?_,fun u v hu hv e=>h.fr u v hu hv ((heq u v hu hv).1 e).1,fun B hB u v xC=>?_,?_⟩,by show 2*(A.n-p1.bg.length)+w1.length<_;omega⟩
 ·rcases (fZ k).1 hk with h1|h1
  ·have:=h.work k (by rw[hw];exact List.mem_append_left _ h1);show k<p1.bg.length;omega
  ·exact h1.2
 ·obtain⟨hu,hv⟩:=hB.lt u v xC;refine (heq u v hu hv).2 ⟨h.bis B hB u v xC,fun y _ hy=>?_⟩;have hn:=hB.nx u v xC y (by omega);obtain⟨n1,n2⟩:=hB.lt _ _ hn;rw[hS _ n1,hS _ n2,h.bis B hB _ _ hn]
 ·obtain⟨xc,x1,x2,x3⟩:=h.part;refine⟨fun u=>2*xc u+if gt p.set u=s then 1 else 0,fun u v hu hv e=>?_,fun u v hu hv e x hx=>?_,fun u v hu hv e=>?_⟩
  ·have e:=((heq u v hu hv).1 e).1;simp only[x1 u v hu hv e,e]
  ·obtain⟨e,e'⟩:=(heq u v hu hv).1 e;have n1:=hA.lt u x hu hx;have n2:=hA.lt v x hv hx;have hm:=e' x (ae5 _) (by omega);rw[hS _ n1,hS _ n2] at hm;simp only[x2 u v hu hv e x hx];by_cases c:gt p.set (A.nx u x)=s
   ·rw[if_pos c,if_pos (hm.1 c)]
   ·rw[if_neg c,if_neg fun c'=>c (hm.2 c')]
  ·have ex:xc u=xc v/\(gt p.set u=s<->gt p.set v=s):=by
    simp only at e;by_cases c:gt p.set u=s
    ·by_cases c':gt p.set v=s
     ·rw[if_pos c,if_pos c'] at e;exact⟨by omega,by simp[c,c']⟩
     ·rw[if_pos c,if_neg c'] at e;omega
    ·by_cases c':gt p.set v=s
     ·rw[if_neg c,if_pos c'] at e;omega
     ·rw[if_neg c,if_neg c'] at e;exact⟨by omega,by simp[c,c']⟩
   show gt p1.set u∈w1\/gt p1.set v∈w1\/gt p1.set u=gt p1.set v;by_cases cu:gt p1.set u∈w1
   ·exact .inl cu
   by_cases cv:gt p1.set v∈w1
   ·exact .inr (.inl cv)
   refine .inr (.inr ?_);have old:∀v,v<A.n->¬gt p1.set v∈w1->gt p1.set v=gt p.set v/\¬gt p.set v∈w.dropLast:=fun v hv c=>by
    have Zm:=(sw.st v hv).1;rcases RK v hv with h1|h1
    ·refine⟨h1,fun hm=>c ((fZ _).2 (.inl ?_))⟩;rw[h1];exact hm
    ·exact absurd ((fZ _).2 (.inr ⟨h1,Zm⟩)) c
   obtain⟨u1,u2⟩:=old u hu cu;obtain⟨v1,v2⟩:=old v hv cv;rw[u1,v1];by_cases c:gt p.set u=s
   ·rw[c,ex.2.1 c]
   ·have c':gt p.set v≠s:=fun h=>c (ex.2.2 h)
    rcases x3 u v hu hv ex.1 with h1|h1|h1
    ·rw[hw,afb,ae0] at h1;rcases h1 with h1|h1
     ·exact absurd h1 u2
     ·exact absurd h1 c
    ·rw[hw,afb,ae0] at h1;rcases h1 with h1|h1
     ·exact absurd h1 v2
     ·exact absurd h1 c'
    ·exact h1
theorem HL {A:Fa}(hA:A.ok){Yu:Nat->Nat->List Nat}(hb:∀y,y<A.m->∀c,c<A.n->∀u,u∈Yu y c<->u<A.n/\A.nx u y=c):∀(f:Nat) {p:Pt} {w:List Nat},rO A p w->2*(A.n-p.bg.length)+w.length<=f->rO A (K9 Yu A.m f p w) []
 |0,p,w,h,hf=>by
  have:w=[]:=afq.1 (by omega);subst this;exact h
 |f+1,p,w,h,hf=>by
  rw[K9]
  cases hs:w.getLast? with
  |none =>
   have:w=[]:=by simpa using hs
   subst this;exact h
  |some s =>
   obtain⟨h1,h2⟩:=Gf hA hb h hs;exact HL hA hb f h1 (by omega)
theorem rM {A:Fa}(hA:A.ok){p:Pt}(h:rO A p []){u v:Nat}(hu:u<A.n)(hv:v<A.n):gt p.set u=gt p.set v<->Zy A u=Zy A v:=by
 constructor
 ·intro e;obtain⟨xc,x1,x2,x3⟩:=h.part;refine Pa (B:=fun u v=>u<A.n/\v<A.n/\gt p.set u=gt p.set v) ⟨fun u v k=>⟨k.1,k.2.1⟩,fun u v k=>h.fr u v k.1 k.2.1 k.2.2,fun u v k x hx=>⟨hA.lt u x k.1 hx,hA.lt v x k.2.1 hx,?_⟩⟩ u v ⟨hu,hv,e⟩;rcases x3 _ _ (hA.lt u x k.1 hx) (hA.lt v x k.2.1 hx) (x2 u v k.1 k.2.1 k.2.2 x hx) with h1|h1|h1
  ·simp at h1
  ·simp at h1
  ·exact h1
 ·intro e;exact h.bis _ (DQ hA) u v ⟨hu,hv,e⟩
def Ya:List Nat->Nat->Nat
 |[],_=>0
 |x::l,c=>bif x==c then 0 else Ya l c+1
theorem Tt:∀(l:List Nat) (c:Nat),Ya l c<l.length<->c∈l
 |[],c=>by simp[Ya]
 |x::l,c=>by
  have:=Tt l c;rw[Ya,afc,afa]
  cases h:x==c with
  |true =>
   have:x=c:=by simpa using h
   simp[this]
  |false =>
   have ZQ:¬x=c:=by simpa using h
   simp only[cond_false]
   constructor
   ·intro h;exact .inr (this.1 (by omega))
   ·rintro (h|h)
    ·exact absurd h.symm ZQ
    ·have:=this.2 h;omega
theorem FT (f g:Nat->Nat)(n:Nat):∀(l:List Nat),(∀a∈l,f a=f n<->g a=g n)->Ya (l.map f) (f n)=Ya (l.map g) (g n)
 |[],_=>rfl
 |x::l,h=>by
  have h0:=h x (aeZ ..);have he:(f x==f n)=(g x==g n):=by rw[Bool.eq_iff_iff,beq_iff_eq,beq_iff_eq];exact h0
  rw[afm,afm,Ya,Ya,he,FT f g n l fun a ha=>h a (abc _ ha)]
def Zl (κ:Nat->Nat):List Nat->List Nat->List Nat×List Nat
 |[],st=>(st,[])
 |c::cs,st=>bif decide (Ya (st.map κ) (κ c)<st.length) then ((Zl κ cs st).1,Ya (st.map κ) (κ c)::(Zl κ cs st).2) else ((Zl κ cs (st++[c])).1,st.length::(Zl κ cs (st++[c])).2)
theorem Ua {κ ρ:Nat->Nat}{Q:Nat->Prop}(hk:∀a b,Q a->Q b->(κ a=κ b<->ρ a=ρ b)):∀(cs st:List Nat),(∀a∈cs,Q a)->(∀a∈st,Q a)->Zl id (cs.map ρ) (st.map ρ)=((Zl κ cs st).1.map ρ,(Zl κ cs st).2)/\∀a∈(Zl κ cs st).1,Q a
 |[],st,_,h=>⟨rfl,h⟩
 |c::cs,st,h1,h2=>by
  have hc:=h1 c (aeZ ..);have Mx:=fun a ha=>h1 a (abc _ ha)
  have he:Ya ((st.map ρ).map id) (id (ρ c))=Ya (st.map κ) (κ c):=by
   rw[List.map_id];exact (FT κ ρ c st fun a ha=>hk a c (h2 a ha) hc).symm
  rw[afm,Zl,Zl,he,ae7]
  cases decide (Ya (st.map κ) (κ c)<st.length) with
  |true =>
   obtain⟨e1,e2⟩:=Ua hk cs st Mx h2;simp only[cond_true,e1];exact⟨by first|rfl|trivial,e2⟩
  |false =>
   obtain⟨e1,e2⟩:=Ua hk cs (st++[c]) Mx fun a ha=>by
    rcases afb.1 ha with h|h
    ·exact h2 a h
    ·rw[ae0.1 h];exact hc
   have e3:st.map ρ++[ρ c]=(st++[c]).map ρ:=by simp
   simp only[cond_false,e3,e1];exact⟨by first|rfl|trivial,e2⟩
def Xe (κ:Nat->Nat)(row:Nat->List Nat):Nat->Nat->List Nat->List (Nat×List Nat)
 |0,_,_=>[]
 |f+1,i,st=>match st[i]? with
  |none=>[]
  |some s=>(s,(Zl κ (row s) st).2)::Xe κ row f (i+1) (Zl κ (row s) st).1
theorem OR {κ ρ:Nat->Nat}{Q:Nat->Prop}(hk:∀a b,Q a->Q b->(κ a=κ b<->ρ a=ρ b)){row w8:Nat->List Nat}(hr:∀s,Q s->w8 (ρ s)=(row s).map ρ/\∀a∈row s,Q a):∀(f i:Nat) (st:List Nat),(∀a∈st,Q a) ->
  Xe id w8 f i (st.map ρ)=(Xe κ row f i st).map (fun x=>(ρ x.1,x.2))/\∀x∈Xe κ row f i st,Q x.1
 |0,i,st,h=>⟨rfl,fun x hx=>by simp[Xe] at hx⟩
 |f+1,i,st,h=>by
  rw[Xe,Xe,afs]
  cases hs:st[i]? with
  |none=>exact⟨rfl,fun x hx=>by simp at hx⟩
  |some s =>
   have hq:=h s (afl hs);obtain⟨r1,r2⟩:=hr s hq;obtain⟨e1,e2⟩:=Ua hk (row s) st r2 h;obtain⟨i1,i2⟩:=OR hk hr f (i+1) _ e2;simp only[afF,r1,e1,i1,afm];refine⟨by first|rfl|trivial,fun x hx=>?_⟩;rcases afa.1 hx with rfl|hx
   ·exact hq
   ·exact i2 x hx
theorem WV {κ:Nat->Nat}:∀(cs st:List Nat),(st.map κ).Nodup->((Zl κ cs st).1.map κ).Nodup/\st.length<=(Zl κ cs st).1.length/\(∀i,i<st.length->(Zl κ cs st).1[i]? = st[i]?)/\(Zl κ cs st).2.length=cs.length/\∀k∈(Zl κ cs st).2,k<(Zl κ cs st).1.length
 |[],st,h=>⟨h,aba _,fun _ _=>rfl,rfl,fun k hk=>by simp[Zl] at hk⟩
 |c::cs,st,h=>by
  rw[Zl]
  cases hd:decide (Ya (st.map κ) (κ c)<st.length) with
  |true =>
   obtain⟨h1,h2,h3,h4,h5⟩:=WV cs st h;have hd:Ya (st.map κ) (κ c)<st.length:=by simpa using hd
   simp only[cond_true,afc,h4];refine⟨h1,h2,h3,by first|rfl|trivial,fun k hk=>?_⟩;rcases afa.1 hk with rfl|hk
   ·omega
   ·exact h5 k hk
  |false =>
   have hd:¬Ya (st.map κ) (κ c)<(st.map κ).length:=by rw[ae7];simpa using hd
   rw[Tt] at hd;obtain⟨h1,h2,h3,h4,h5⟩:=WV cs (st++[c]) (by
    rw[afX,afR];refine⟨h,by simp,fun a ha b hb=>?_⟩;rw[afm,List.map_nil,ae0] at hb;rintro rfl;rw[hb] at ha;exact hd ha)
   rw[aeW,aff] at h2;simp only[cond_false,afc,h4];refine⟨h1,by omega,fun i hi=>?_,by first|rfl|trivial,fun k hk=>?_⟩
   ·rw[h3 i (by rw[aeW];omega),afo hi]
   ·rcases afa.1 hk with rfl|hk
    ·omega
    ·exact h5 k hk
theorem WE {κ:Nat->Nat}{n:Nat}{st:List Nat}(h:(st.map κ).Nodup)(hn:∀a∈st,a<n):st.length<=n:=by
 have LX:st.Nodup:=by
  rw[List.Nodup,List.pairwise_map] at h;exact h.imp fun ZQ e=>ZQ (by rw[e])
 refine Nu n st.length (fun i=>gt st i) (fun i hi=>?_) fun i j hi hj e=>?_
 ·have:gt st i=st[i]:=by unfold gt;rw[ae4,aaa hi];rfl
  simp only[this];exact hn _ (ae2 hi)
 ·have e1:gt st i=st[i]:=by unfold gt;rw[ae4,aaa hi];rfl
  have e2:gt st j=st[j]:=by unfold gt;rw[ae4,aaa hj];rfl
  simp only[e1,e2] at e;exact (List.getElem_inj LX).1 e
def YU (A:Fa)(s:Nat):List Nat:=(List.range A.m).map (A.nx s)
def PK (A:Fa)(cl:Nat->Nat):List (Nat×List Nat):=Xe cl (YU A) (A.n+1) 0 [0]
def Xd (A:Fa):List (Nat×List Nat):=Xe id (fun c=>(YU A c).map (Zy A)) (A.n+1) 0 [Zy A 0]
theorem min_eq {A:Fa}(hA:A.ok){cl:Nat->Nat}(hc:∀u v,u<A.n->v<A.n->(cl u=cl v<->Zy A u=Zy A v)) :
  Xd A=(PK A cl).map (fun x=>(Zy A x.1,x.2))/\∀x∈PK A cl,x.1<A.n:=by
 have hr:∀s,s<A.n->(fun c=>(YU A c).map (Zy A)) (Zy A s)=(YU A s).map (Zy A)/\∀a∈YU A s,a<A.n:=fun s hs=>by
  refine⟨?_,fun a ha=>?_⟩
  ·have Zm:Zy A s<A.n:=afA ((Y2 A).le s) hs;have he:=(Yd hA Zm hs).1 ((Y2 A).fix s);simp only[YU,List.map_map];refine afx fun x hx=>?_
   exact (he x (afh.1 hx)).2
  ·obtain⟨x,hx,rfl⟩:=afe.1 ha;exact hA.lt s x hs (afh.1 hx)
 have:=OR (κ:=cl) (ρ:=Zy A) (Q:=fun a=>a<A.n) hc (row:=YU A) (w8:=fun c=>(YU A c).map (Zy A)) hr (A.n+1) 0 [0] fun a ha=>by rw[ae0.1 ha];exact hA.pos
 exact this
theorem Hi {A:Fa}(hA:A.ok){s:Nat}(hs:s<A.n){x:Nat}(hx:x<A.m):A.fr (Zy A s) x=A.fr s x :=
 (((Yd hA (afA ((Y2 A).le s) hs) hs).1 ((Y2 A).fix s)) x hx).1
section
variable {α:Type} [DecidableEq α]
def Y_ (κ:Nat->α):Nat->List α
 |0=>[]
 |i+1=>if κ i∈Y_ κ i then Y_ κ i else Y_ κ i++[κ i]
theorem U9 (κ:Nat->α)(k:α):∀n,k∈Y_ κ n<->∃i,i<n/\κ i=k
 |0=>by simp[Y_]
 |n+1=>by
  have ih:=U9 κ k n;have ihn:=U9 κ (κ n) n;rw[Y_]
  constructor
  ·intro h;by_cases e:κ n∈Y_ κ n
   ·rw[if_pos e] at h;obtain⟨i,h1,h2⟩:=ih.1 h;exact⟨i,by omega,h2⟩
   ·rw[if_neg e,afb,ae0] at h;rcases h with h|h
    ·obtain⟨i,h1,h2⟩:=ih.1 h;exact⟨i,by omega,h2⟩
    ·exact⟨n,by omega,h.symm⟩
  ·rintro⟨i,h1,h2⟩;by_cases hi:i=n
   ·subst hi;by_cases e:κ i∈Y_ κ i
    ·rw[if_pos e,<-h2];exact e
    ·rw[if_neg e,h2];simp
   ·have:=ih.2 ⟨i,by omega,h2⟩;by_cases e:κ n∈Y_ κ n
    ·rw[if_pos e];exact this
    ·rw[if_neg e];exact List.mem_append_left _ this
theorem Sp (κ:Nat->α):∀n,(Y_ κ n).Nodup
 |0=>by simp[Y_]
 |n+1=>by
  have ih:=Sp κ n;rw[Y_];by_cases e:κ n∈Y_ κ n
  ·rw[if_pos e];exact ih
  ·rw[if_neg e,afR];refine⟨ih,by simp,fun a ha b hb=>?_⟩;rw[ae0.1 hb];rintro rfl;exact e ha
theorem KQ (κ:Nat->α):∀n,(Y_ κ n).length<=n
 |0=>aba _
 |n+1=>by
  have:=KQ κ n;rw[Y_]
  split
  ·omega
  ·simp;omega
def Ub (κ:Nat->α)(k:α)(n:Nat):List Nat:=(List.range n).filter fun i=>decide (κ i=k)
theorem Sq (κ:Nat->α)(k:α)(n u:Nat):u∈Ub κ k n<->u<n/\κ u=k:=by simp[Ub]
theorem sN (κ:Nat->α)(k:α)(n:Nat):(Ub κ k n).Nodup:=List.Pairwise.filter _ List.nodup_range
theorem NI (κ:Nat->α)(k:α)(n:Nat):Ub κ k (n+1)=if κ n=k then Ub κ k n++[n] else Ub κ k n:=by
 unfold Ub;rw[List.range_succ,List.filter_append];by_cases e:κ n=k <;> simp[e]
def XR (c:Nat):List Nat->Pt->Pt
 |[],p=>p
 |u::l,p=>XR c l { p with place:=p.place.set u p.list.length,set:=p.set.set u c,list:=p.list++[u] }
structure aa3 (n c:Nat)(l:List Nat)(p q:Pt):Prop where
 list:q.list=p.list++l
 bg:q.bg=p.bg
 en:q.en=p.en
 mr:q.mr=p.mr
 lp:q.place.length=n
 ls:q.set.length=n
 out:∀v,v∉l->gt q.place v=gt p.place v/\gt q.set v=gt p.set v
 inn:∀j (h:j<l.length),gt q.place l[j]=p.list.length+j/\gt q.set l[j]=c
theorem JJ (n c:Nat):∀(l:List Nat) (p:Pt),l.Nodup->(∀u∈l,u<n)->p.place.length=n->p.set.length=n->aa3 n c l p (XR c l p)
 |[],p,_,_,h1,h2=>⟨by simp[XR],rfl,rfl,rfl,h1,h2,fun _ _=>⟨rfl,rfl⟩,fun j h=>by simp at h⟩
 |u::l,p,hn,hu,h1,h2=>by
  rw[afI] at hn;have hun:=hu u (aeZ ..);have ih:=JJ n c l { p with place:=p.place.set u p.list.length,set:=p.set.set u c,list:=p.list++[u] } hn.2 (fun x hx=>hu x (abc _ hx)) (by simp[h1]) (by simp[h2]);rw[XR];generalize XR c l { p with place:=p.place.set u p.list.length,set:=p.set.set u c,list:=p.list++[u] }=q at *;refine⟨by rw[ih.list];simp,ih.bg,ih.en,ih.mr,ih.lp,ih.ls,fun v hv=>?_,fun j hj=>?_⟩
  ·rw[afa,not_or] at hv;obtain⟨a,b⟩:=ih.out v hv.2;rw[a,b];simp only[VG];rw[if_neg (by omega),if_neg (by omega)];exact⟨rfl,rfl⟩
  ·cases j with
   |zero =>
    obtain⟨a,b⟩:=ih.out u hn.1;rw[List.getElem_cons_zero,a,b];rw[VG,VG,if_pos ⟨rfl,by omega⟩,if_pos ⟨rfl,by omega⟩];exact⟨rfl,rfl⟩
   |succ j =>
    obtain⟨a,b⟩:=ih.inn j (by simpa using hj);rw[List.getElem_cons_succ,a,b];refine⟨?_,rfl⟩;simp only[aeW,aff];omega
def IP (κ:Nat->α)(n:Nat):List α->Pt->Pt
 |[],p=>p
 |k::ks,p=>IP κ n ks { XR p.bg.length (Ub κ k n) p with bg:=p.bg++[p.list.length],mr:=p.mr++[0],en:=p.en++[(XR p.bg.length (Ub κ k n) p).list.length] }
def XL (κ:Nat->α)(n:Nat):Pt:=IP κ n (Y_ κ n) ⟨[],List.replicate n 0,List.replicate n 0,[],[],[]⟩
structure fj (κ:Nat->α)(n:Nat)(done:List α)(p:Pt):Prop where
 lp:p.place.length=n
 ls:p.set.length=n
 lb:p.bg.length=done.length
 le:p.en.length=done.length
 lm:p.mr.length=done.length
 li:∀i,i<p.list.length->gt p.list i<n/\gt p.place (gt p.list i)=i/\κ (gt p.list i)∈done
 st:∀u,u<n->κ u∈done->gt p.place u<p.list.length/\gt p.list (gt p.place u)=u/\gt p.set u<done.length/\gt p.bg (gt p.set u)<=gt p.place u/\gt p.place u<gt p.en (gt p.set u)/\done[gt p.set u]? = some (κ u)
 sp:∀k,k<done.length->gt p.bg k<gt p.en k/\gt p.en k<=p.list.length/\∀i,gt p.bg k<=i->i<gt p.en k->gt p.set (gt p.list i)=k
 mr:∀k,k<done.length->gt p.mr k=0
theorem GG {a b:List Nat}{i:Nat}(h:i<a.length):gt (a++b) i=gt a i:=by
 unfold gt;rw[ae4,ae4,afo h]
theorem EB {a b:List Nat}{i:Nat}(h:a.length<=i):gt (a++b) i=gt b (i-a.length):=by
 unfold gt;rw[ae4,ae4,afO h]
theorem ZJ {l:List Nat}{i:Nat}(h:i<l.length):gt l i=l[i]:=by
 unfold gt;rw[ae4,aaa h];rfl
theorem sM {κ:Nat->α}{n:Nat}{done:List α}{p:Pt}(h:fj κ n done p){k:α}(hk:k∉done)(hex:∃i,i<n/\κ i=k) :
  fj κ n (done++[k]) { XR p.bg.length (Ub κ k n) p with bg:=p.bg++[p.list.length],mr:=p.mr++[0],en:=p.en++[(XR p.bg.length (Ub κ k n) p).list.length] }:=by
 have ha:=JJ n p.bg.length (Ub κ k n) p (sN κ k n) (fun u hu=>((Sq κ k n u).1 hu).1) h.lp h.ls;generalize XR p.bg.length (Ub κ k n) p=q at *;have ZQ:0<(Ub κ k n).length:=by
  obtain⟨i,h1,h2⟩:=hex;exact List.length_pos_of_mem ((Sq κ k n i).2 ⟨h1,h2⟩)
 have gY:=Sq κ k n;have hgd:=sN κ k n;generalize Ub κ k n=G at *;have hql:q.list.length=p.list.length+G.length:=by rw[ha.list];simp
 have hdl:(done++[k]).length=done.length+1:=by simp
 have hB:∀i,gt (p.bg++[p.list.length]) i=if i=done.length then p.list.length else gt p.bg i:=fun i=>by rw[Nd,h.lb]
 have hE:∀i,gt (p.en++[q.list.length]) i=if i=done.length then q.list.length else gt p.en i:=fun i=>by rw[Nd,h.le]
 have hM:∀i,gt (p.mr++[0]) i=if i=done.length then 0 else gt p.mr i:=fun i=>by rw[Nd,h.lm]
 have hold:∀i,i<p.list.length->gt q.list i=gt p.list i:=fun i hi=>by rw[ha.list,GG hi]
 have gF:∀j (hj:j<G.length),gt q.list (p.list.length+j)=G[j]:=fun j hj=>by rw[ha.list,EB (by omega),Nat.add_sub_cancel_left,ZJ hj]
 have PN:∀i,i<p.list.length->gt p.list i∉G:=fun i hi hm=>by
  have:=(h.li i hi).2.2;rw[((gY _).1 hm).2] at this;exact hk this
 refine⟨ha.lp,ha.ls,by simp[h.lb],by simp[h.le],by simp[h.lm],fun i hi=>?_,fun u hu hd=>?_,fun j hj=>?_,fun j hj=>?_⟩
 ·have hi:i<q.list.length:=hi;by_cases Zm:i<p.list.length
  ·obtain⟨a,b,c⟩:=h.li i Zm;obtain⟨o1,_⟩:=ha.out _ (PN i Zm);simp only[hold i Zm];exact⟨a,o1.trans b,List.mem_append_left _ c⟩
  ·obtain⟨j,rfl⟩:∃j,i=p.list.length+j:=⟨i-p.list.length,by omega⟩;have hj:j<G.length:=by omega
   simp only[gF j hj];obtain⟨g1,g2⟩:=(gY _).1 (ae2 hj);exact⟨g1,(ha.inn j hj).1,by rw[g2];simp⟩
 ·show gt q.place u<q.list.length/\gt q.list (gt q.place u)=u/\gt q.set u<(done++[k]).length/\gt (p.bg++[p.list.length]) (gt q.set u)<=gt q.place u/\gt q.place u<gt (p.en++[q.list.length]) (gt q.set u)/\(done++[k])[gt q.set u]? = some (κ u);by_cases hg:u∈G
  ·obtain⟨j,hj,rfl⟩:=ae8.1 hg;obtain⟨i1,i2⟩:=ha.inn j hj;have hs:gt q.set G[j]=done.length:=by rw[i2,h.lb]
   rw[i1,hs,gF j hj,hB,hE,if_pos rfl,if_pos rfl,hdl,((gY _).1 hg).2];exact⟨by omega,rfl,by omega,by omega,by omega,by simp⟩
  ·have Wy:κ u∈done:=by
    rcases afb.1 hd with h1|h1
    ·exact h1
    ·exact absurd ((gY u).2 ⟨hu,ae0.1 h1⟩) hg
   obtain⟨a,b,c,d,e,f⟩:=h.st u hu Wy;obtain⟨o1,o2⟩:=ha.out u hg;rw[o1,o2,hold _ a,hB,hE,if_neg (by omega),if_neg (by omega),hdl,afo c];exact⟨by omega,b,by omega,d,e,f⟩
 ·show gt (p.bg++[p.list.length]) j<gt (p.en++[q.list.length]) j/\gt (p.en++[q.list.length]) j<=q.list.length/\∀i,gt (p.bg++[p.list.length]) j<=i->i<gt (p.en++[q.list.length]) j->gt q.set (gt q.list i)=j;rw[hB,hE];by_cases e:j=done.length
  ·rw[if_pos e,if_pos e];refine⟨by omega,aba _,fun i h1 h2=>?_⟩;obtain⟨r,rfl⟩:∃r,i=p.list.length+r:=⟨i-p.list.length,by omega⟩;have hr:r<G.length:=by omega
   rw[gF r hr,(ha.inn r hr).2,h.lb,e]
  ·have rX:j<done.length:=by have:j<(done++[k]).length:=hj;omega
   rw[if_neg e,if_neg e];obtain⟨a,b,c⟩:=h.sp j rX;refine⟨a,by omega,fun i h1 h2=>?_⟩;rw[hold i (by omega),(ha.out _ (PN i (by omega))).2];exact c i h1 h2
 ·show gt (p.mr++[0]) j=0;rw[hM];by_cases e:j=done.length
  ·rw[if_pos e]
  ·rw[if_neg e];exact h.mr j (by have:j<(done++[k]).length:=hj;omega)
theorem Ao {κ:Nat->α}{n:Nat}:∀(ks:List α) {done:List α} {p:Pt},fj κ n done p->(done++ks).Nodup->(∀k∈ks,∃i,i<n/\κ i=k)->fj κ n (done++ks) (IP κ n ks p)
 |[],done,p,h,_,_=>by rw[List.append_nil];exact h
 |k::ks,done,p,h,hn,he=>by
  have hk:k∉done:=fun hm=>by
   rw[afR] at hn;exact hn.2.2 k hm k (aeZ ..) rfl
  have h1:=sM h hk (he k (aeZ ..));have e:done++k::ks=(done++[k])++ks:=by simp
  rw[e] at hn ⊢;exact Ao ks h1 hn fun x hx=>he x (abc _ hx)
theorem EZ (κ:Nat->α)(n:Nat):fj κ n (Y_ κ n) (XL κ n):=by
 have h0:fj κ n [] ⟨[],List.replicate n 0,List.replicate n 0,[],[],[]⟩:=⟨by simp,by simp,rfl,rfl,rfl,fun i hi=>by simp at hi,fun u _ h=>by simp at h,fun k hk=>by simp at hk,fun k hk=>by simp at hk⟩;have:=Ao (Y_ κ n) h0 (by simpa using Sp κ n) fun k hk=>(U9 κ k n).1 hk
 rw[afP] at this;exact this
theorem EF {A:Fa}{κ:Nat->α}(hk:∀u v,u<A.n->v<A.n->(κ u=κ v<->∀x,x<A.m->A.fr u x=A.fr v x)):rO A (XL κ A.n) (List.range (XL κ A.n).bg.length):=by
 have h:=EZ κ A.n;generalize XL κ A.n=p at *;have hd:∀u,u<A.n->κ u∈Y_ κ A.n:=fun u hu=>(U9 κ _ _).2 ⟨u,hu,rfl⟩
 have IT:p.list.length=A.n:=by
  refine Nat.le_antisymm (Nu A.n p.list.length (gt p.list) (fun i hi=>(h.li i hi).1) fun i j hi hj e=>?_) (Nu p.list.length A.n (gt p.place) (fun u hu=>(h.st u hu (hd u hu)).1) fun u v hu hv e=>?_)
  ·have a:=(h.li i hi).2.1;have b:=(h.li j hj).2.1;rw[e] at a;exact a.symm.trans b
  ·have a:=(h.st u hu (hd u hu)).2.1;have b:=(h.st v hv (hd v hv)).2.1;rw[e] at a;exact a.symm.trans b
 have GL:∀u v,u<A.n->v<A.n->(gt p.set u=gt p.set v<->κ u=κ v):=fun u v hu hv=>by
  obtain⟨_,_,a,_,_,b⟩:=h.st u hu (hd u hu);obtain⟨_,_,c,_,_,d⟩:=h.st v hv (hd v hv)
  constructor
  ·intro e;rw[e,d] at b;exact (Option.some.inj b).symm
  ·intro e;rw[aaa a] at b;rw[aaa c] at d;have:=(Option.some.inj b).trans (e.trans (Option.some.inj d).symm);exact (List.getElem_inj (Sp κ A.n)).1 this
 refine⟨⟨IT,h.lp,h.ls,by rw[h.le,h.lb],by rw[h.lm,h.lb],fun u hu=>?_,fun i hi=>?_,fun u hu=>?_,fun k Hd=>?_,fun k Hd=>?_⟩,fun k Hd=>h.mr k (by rw[h.lb] at Hd;exact Hd),fun k Hd=>afh.1 Hd,fun u v hu hv e=>(hk u v hu hv).1 ((GL u v hu hv).1 e),fun B hB u v xC=>?_,fun _=>0,fun _ _ _ _ _=>rfl,fun _ _ _ _ _ _ _=>rfl,fun u v hu hv _=>?_⟩
 ·obtain⟨a,b,_⟩:=h.st u hu (hd u hu);exact⟨by omega,b⟩
 ·obtain⟨a,b,_⟩:=h.li i (by omega);exact⟨a,b⟩
 ·obtain⟨_,_,a,b,c,_⟩:=h.st u hu (hd u hu);exact⟨by rw[h.lb];exact a,b,c⟩
 ·obtain⟨a,b,c⟩:=h.sp k (by rw[h.lb] at Hd;exact Hd);exact⟨a,by omega,c⟩
 ·have a:=h.mr k (by rw[h.lb] at Hd;exact Hd);have b:=h.sp k (by rw[h.lb] at Hd;exact Hd);omega
 ·obtain⟨hu,hv⟩:=hB.lt u v xC;exact (GL u v hu hv).2 ((hk u v hu hv).2 (hB.fr u v xC))
 ·obtain⟨_,_,a,_⟩:=h.st u hu (hd u hu);exact .inl (afh.2 (by rw[h.lb];exact a))
end
def aa4 {α:Type} [DecidableEq α] (A:Fa)(κ:Nat->α)(Yu:Nat->Nat->List Nat):Nat->Nat :=
 gt (K9 Yu A.m (2*(A.n-(XL κ A.n).bg.length)+(XL κ A.n).bg.length) (XL κ A.n) (List.range (XL κ A.n).bg.length)).set
def Qa (A:Fa)(x c:Nat):List Nat:=(List.range A.n).filter fun u=>A.nx u x==c
theorem NT (A:Fa)(x c u:Nat):u∈Qa A x c<->u<A.n/\A.nx u x=c:=by simp[Qa]
theorem iY {α:Type} [DecidableEq α] {A:Fa}(hA:A.ok){κ:Nat->α}(hk:∀u v,u<A.n->v<A.n->(κ u=κ v<->∀x,x<A.m->A.fr u x=A.fr v x)){u v:Nat}(hu:u<A.n)(hv:v<A.n) :
  aa4 A κ (Qa A) u=aa4 A κ (Qa A) v<->Zy A u=Zy A v:=by
 have h0:=EF hk;have h1:=HL hA (fun y _ c _ u=>NT A y c u) _ h0 (aba _);rw[afN] at h1;exact rM hA h1 hu hv
end Go.Am
namespace Go.Am
open Go
variable [Z3]
set_option maxRecDepth 100000
set_option maxHeartbeats 4000000
structure ZN.ok (a:ZN):Prop where
 lines:1<=a.lines/\a.lines<=4
 pos:0<a.next.length
 few:a.next.length<=512
 fl:a.Z4.length=a.next.length
 row:∀i (h:i<a.next.length),a.next[i].2.length=2^a.lines.toNat/\∀x∈a.next[i].2,0<=x/\x<(a.next.length:Int)
 XJ:∀i (h:i<a.Z4.length),a.Z4[i].2.length=2^a.lines.toNat
theorem TE (n:Int):I6 n=((2^n.toNat:Nat):Int):=by unfold I6;simp
theorem Me {m:Nat}{n:Int}:∀{l:List (Bool×List Int)} {f:List (Bool×List Bool)},l.length=f.length->Vq m n l f=0 ->
  (∀i (h:i<l.length),l[i].2.length=m/\∀x∈l[i].2,0<=x/\x<n)/\∀i (h:i<f.length),f[i].2.length=m
 |[],f,hl,_=>by
  have:f=[]:=afq.1 hl.symm;subst this;exact⟨fun i h=>by simp at h,fun i h=>by simp at h⟩
 |r::l,[],hl,_=>by simp at hl
 |r::l,g::f,hl,h=>by
  rw[Vq] at h;obtain⟨h1,h⟩:=SI h (by decide);obtain⟨h2,h⟩:=SI h (by decide);obtain⟨i1,i2⟩:=Me (by simpa using hl) h;rw[Bool.or_eq_false_iff] at h1;have e1:r.2.length=m:=by have:=h1.1;simp at this;omega
  have e2:g.2.length=m:=by have:=h1.2;simp at this;omega
  have e3:∀x∈r.2,0<=x/\x<n:=fun x hx=>by
   have:=Df (by simpa using List.any_eq_false.1 h2 x hx:outside x 0 (n-1)=false);omega
  refine⟨fun i hi=>?_,fun i hi=>?_⟩
  ·cases i with
   |zero=>exact⟨e1,e3⟩
   |succ i=>simpa using i1 i (by simpa using hi)
  ·cases i with
   |zero=>exact e2
   |succ i=>simpa using i2 i (by simpa using hi)
theorem ZN.Bl {a:ZN}(h:Jf a=0):a.ok:=by
 rw[Jf] at h;obtain⟨h1,h⟩:=SI h (by decide);obtain⟨h2,h⟩:=SI h (by decide);obtain⟨h3,h⟩:=SI h (by decide);obtain⟨h4,h⟩:=SI h (by decide);have hl:1<=a.lines/\a.lines<=4:=by
  simp only[outside,Bool.or_eq_false_iff,decide_eq_false_iff_not] at h1;omega
 have hf:a.Z4.length=a.next.length:=by simp at h4;omega
 rw[TE] at h;obtain⟨r1,r2⟩:=Me hf.symm h;exact⟨hl,Nat.pos_of_ne_zero fun e=>by rw[e] at h2;exact absurd h2 (by decide),by simp at h3;omega,hf,r1,r2⟩
def ZN.fa (a:ZN):Fa where
 n:=a.next.length
 m:=2^a.lines.toNat
 nx s x:=((a.next.getD s (true,[])).2.getD x 0).toNat
 fr s x:=(a.Z4.getD s (true,[])).2.getD x false
theorem YL {A:Type}{l:List A}{i:Nat}{d:A}(h:i<l.length):l.getD i d=l[i]:=by
 rw[ae4,aaa h];rfl
theorem ZN.ok.VK {a:ZN}(h:a.ok):a.fa.ok:=by
 refine⟨h.pos,fun s x hs hx=>?_⟩;have hs:s<a.next.length:=hs;have hx:x<2^a.lines.toNat:=hx;obtain⟨r1,r2⟩:=h.row s hs;show ((a.next.getD s (true,[])).2.getD x 0).toNat<a.next.length;rw[YL hs,YL (show x<a.next[s].2.length by omega)];have:=r2 _ (ae2 (show x<a.next[s].2.length by omega));omega
theorem ZN.ok.DR {a:ZN}(h:a.ok){s x:Nat}(hs:s<a.next.length)(hx:x<2^a.lines.toNat):UT 1 (ZP a.next[s].1 (ints a.next[s].2)) (.int .i64 (x:Int))=some (.fp [.int .i64 ((a.fa.nx s x:Nat):Int)] 0):=by
 obtain⟨r1,r2⟩:=h.row s hs;have PH:x<a.next[s].2.length:=by omega
 rw[Od PH];have e:a.fa.nx s x=(a.next[s].2[x]).toNat:=by
  show ((a.next.getD s (true,[])).2.getD x 0).toNat=_;rw[YL hs,YL PH]
 have:=r2 _ (ae2 PH);rw[e,Int.toNat_of_nonneg this.1]
theorem ZN.ok.qT {a:ZN}(h:a.ok){s x:Nat}(hs:s<a.next.length)(hx:x<2^a.lines.toNat):UT 1 (ZP (a.Z4[s]'(by rw[h.fl];exact hs)).1 (ZH (a.Z4[s]'(by rw[h.fl];exact hs)).2)) (.int .i64 (x:Int))=some (.fp [.bool (a.fa.fr s x)] 0):=by
 have Hc:s<a.Z4.length:=by rw[h.fl];exact hs
 have r1:=h.XJ s Hc;have PH:x<a.Z4[s].2.length:=by omega
 rw[QF PH];have e:a.fa.fr s x=a.Z4[s].2[x]:=by
  show (a.Z4.getD s (true,[])).2.getD x false=_;rw[YL Hc,YL PH]
 rw[e]
theorem ZN.ok.j8 {a:ZN}(ha:a.ok):2^a.lines.toNat<=65536:=by have:=Uh a.lines (by have:=ha.lines;omega);have:=TE a.lines;unfold I6 at this;omega
theorem xm (x:Bool):X_ U .neq 4 false (.bool x) (.bool x)=some (.bool false):=by cases x <;> kernel_rfl
theorem c60 (a b:ZN)(h1:a.lines=b.lines)(h2:a.next.length=b.next.length)(h3:∀i (h:i<a.next.length) (h':i<b.next.length),a.next[i].2=b.next[i].2)(h4:a.Z4.length=b.Z4.length)
  (h5:∀i (h:i<a.Z4.length) (h':i<b.Z4.length),a.Z4[i].2=b.Z4[i].2)(n1:a.next.length<=2^40)(n2:a.Z4.length<=2^40)(n3:∀r∈a.next,r.2.length<=2^40)(n4:∀r∈a.Z4,r.2.length<=2^40) :
  Zv U 29 [YP a,YP b]=some (.bool true):=by
 refine Za k60 (by kernel_rfl) (by simp[ZK,YF]) ?_;rw[ZB,ZB];have nn:=ZT a.YC (a.next.map ZX);have nf:=ZT a.Yx (a.Z4.map ZY);have cn:=ZS a.YC (a.next.map ZX);have cf:=ZS a.Yx (a.Z4.map ZY);have ln:=ZL a.YC (a.next.map ZX);have lf:=ZL a.Yx (a.Z4.map ZY);have HC:=ZT b.YC (b.next.map ZX);have HB:=ZT b.Yx (b.Z4.map ZY);have HA:=ZS b.YC (b.next.map ZX);have Hz:=ZS b.Yx (b.Z4.map ZY);have ln':=ZL b.YC (b.next.map ZX);have lf':=ZL b.Yx (b.Z4.map ZY);rw[ae7] at ln lf ln' lf';rw[<-h2] at ln';rw[<-h4] at lf';have b1:((b.lines:Int) != b.lines)=false:=by simp
 have b2:((a.next.length:Int) != a.next.length)=false:=by simp
 have b3:((a.Z4.length:Int) != a.Z4.length)=false:=by simp
 unfold XK YK;simp only[go_sem,r60,nn,nf,cn,cf,ln,lf,HC,HB,HA,Hz,ln',lf',h1,b1,b2,b3];refine VQ (σ:=Nat) (fun i=>a.next.length-i) (fun _=>some (.bool true)) (fun i e s=>i<=a.next.length/\Env.get e 2=.ptr 8 0/\Env.get e 3=.ptr 9 0/\Env.get e 5=.int .i64 (i:Nat)/\9<s.next /\
  s.get 8=some (.cells [.int .i64 b.lines,ZP a.YC (a.next.map ZX),ZP a.Yx (a.Z4.map ZY)] 46 false 0 0)/\s.get 9=some (.cells [.int .i64 b.lines,ZP b.YC (b.next.map ZX),ZP b.Yx (b.Z4.map ZY)] 46 false 0 0)) 0 ?_ rfl ?_
 ·rintro L i e s ⟨hi,g2,g3,g5,nx,gs,JD⟩ IH;by_cases hd:i<a.next.length
  ·have hw:=ZI hd (by omega);have Wy:i<b.next.length:=by omega
   have r1:=Xi (nl:=a.YC) hd;have r2:=Xi (nl:=b.YC) Wy;have h109:=abk a.next[i].1 b.next[i].1 a.next[i].2 b.next[i].2 (by have:=n3 _ (ae2 hd);omega);rw[h3 i hd Wy,K3] at h109;rw[h3 i hd Wy] at r1;simp only[go_sem,DM,g2,g3,g5,gs,JD,Z8,hd,ln,r1,r2,h109,hw];refine IH (i+1) _ _ (by omega) ⟨by omega,?_,?_,?_,by rw[Z_];omega,by rw[Z0,gs],by rw[Z0,JD]⟩
   all_goals simp only[go_sem,g2,g3,hw]
  ·have:i=a.next.length:=by omega
   subst this;simp only[go_sem,DM,g2,g5,gs,Z8,afg,ln];refine VQ (σ:=Nat) (fun i=>a.Z4.length-i) (fun _=>some (.bool true)) (fun i e s=>i<=a.Z4.length/\Env.get e 2=.ptr 8 0/\Env.get e 3=.ptr 9 0/\Env.get e 6=.int .i64 (i:Nat)/\9<s.next /\
    s.get 8=some (.cells [.int .i64 b.lines,ZP a.YC (a.next.map ZX),ZP a.Yx (a.Z4.map ZY)] 46 false 0 0)/\s.get 9=some (.cells [.int .i64 b.lines,ZP b.YC (b.next.map ZX),ZP b.Yx (b.Z4.map ZY)] 46 false 0 0)) 0 ?_ rfl ?_
   ·clear g2 g3 g5 nx gs JD IH;rintro L i e s ⟨hi,g2,g3,g6,nx,gs,JD⟩ IH;by_cases hd:i<a.Z4.length
    ·have hw:=ZI hd (by omega);have Wy:i<b.Z4.length:=by omega
     have r1:=Xh (nl:=a.Yx) hd;have r2:=Xh (nl:=b.Yx) Wy;have xT:=n4 _ (ae2 hd);rw[h5 i hd Wy] at r1 xT;have l1:=ZL a.Z4[i].1 (ZH b.Z4[i].2);have l2:=ZL b.Z4[i].1 (ZH b.Z4[i].2);rw[Ym] at l1 l2;have b4:((b.Z4[i].2.length:Int) != b.Z4[i].2.length)=false:=by simp
     simp only[go_sem,DL,g2,g3,g6,gs,JD,Z8,hd,lf,r1,r2,l1,l2,b4];refine VQ (σ:=Nat) (fun x=>b.Z4[i].2.length-x) (fun _=>some (.bool true)) (fun x e s=>x<=b.Z4[i].2.length/\Env.get e 2=.ptr 8 0/\Env.get e 3=.ptr 9 0/\Env.get e 6=.int .i64 (i:Nat)/\Env.get e 7=.int .i64 (x:Nat)/\9<s.next /\
      s.get 8=some (.cells [.int .i64 b.lines,ZP a.YC (a.next.map ZX),ZP a.Yx (a.Z4.map ZY)] 46 false 0 0)/\s.get 9=some (.cells [.int .i64 b.lines,ZP b.YC (b.next.map ZX),ZP b.Yx (b.Z4.map ZY)] 46 false 0 0)) 0 ?_ rfl ?_
     ·clear g2 g3 g6 nx gs JD;rintro L' x e s ⟨hx,g2,g3,g6,g7,nx,gs,JD⟩ IH';by_cases rH:x<b.Z4[i].2.length
      ·have I1:=ZI rH (by omega);have q1:=QF (nl:=a.Z4[i].1) rH;have q2:=QF (nl:=b.Z4[i].1) rH;have q3:=xm b.Z4[i].2[x];simp only[go_sem,DK,g2,g3,g6,g7,gs,JD,Z8,rH,r1,r2,l1,q1,q2,q3,I1];refine IH' (x+1) _ _ (by omega) ⟨by omega,?_,?_,?_,?_,by rw[Z_];omega,by rw[Z0,gs],by rw[Z0,JD]⟩
       all_goals simp only[go_sem,g2,g3,g6,I1]
      ·have:x=b.Z4[i].2.length:=by omega
       subst this;simp only[go_sem,DK,g2,g3,g6,g7,gs,JD,Z8,afg,r1,l1,hw];refine IH (i+1) _ _ (by omega) ⟨by omega,?_,?_,?_,nx,gs,JD⟩
       all_goals simp only[go_sem,g2,g3,hw]
     ·refine⟨ae5 _,?_,?_,?_,?_,by simp only[Z_];omega,by simp only[Z0,gs],by simp only[Z0,JD]⟩
      all_goals simp only[go_sem,g2,g3,g6]
      all_goals rfl
    ·have:i=a.Z4.length:=by omega
     subst this;simp only[go_sem,DL,g2,g6,gs,Z8,afg,lf]
   ·refine⟨ae5 _,?_,?_,?_,nx,gs,JD⟩
    all_goals simp only[go_sem,g2,g3]
    all_goals rfl
 ·refine⟨ae5 _,?_,?_,?_,?_,?_,?_⟩
  all_goals try simp only[go_sem]
  all_goals rfl
def Uj (n:Nat):List (Bool×List Int)->Bool
 |[]=>true
 |r::l=>bif decide ((r.2.length:Int)>n) then false else Uj n l
def Sr (n:Nat):List (Bool×List Bool)->Bool
 |[]=>true
 |r::l=>bif decide ((r.2.length:Int)>n) then false else Sr n l
def DC (a:ZN)(n:Int):Bool :=
 bif (decide ((a.next.length:Int)>n)&&decide ((a.next.length:Int)<=256))||(decide ((a.next.length:Int)>258)||decide ((a.Z4.length:Int)>260)) then false else Uj 18 a.next&&Sr 18 a.Z4
theorem l44 (a:ZN)(hN:a.next.length<=258)(hF:a.Z4.length<=260){e:Env}{s:St}(g2:Env.get e 2=.ptr 8 0)(g5:Env.get e 5=.int .i64 (0:Nat))(gs:s.get 8=some (.cells [.int .i64 a.lines,ZP a.YC (a.next.map ZX),ZP a.Yx (a.Z4.map ZY)] 46 false 0 0)) :
  Vx U (VZ U [.tmp 4]) [.bk 0,.sq (.seq (.seq (.ops [⟨some 6,none,none,false,.Z1 (.v (.int .i64 0))⟩]) (.block 2 (.loop KU))) (.seq (.ops [⟨some 4,none,none,false,.Z1 (.v (.bool true))⟩]) .ret))] KT e s=some (.bool (Uj 18 a.next&&Sr 18 a.Z4)):=by
 have ln:=ZL a.YC (a.next.map ZX);have lf:=ZL a.Yx (a.Z4.map ZY);rw[ae7] at ln lf;refine VQ (σ:=Nat) (fun i=>a.next.length-i) (fun i=>some (.bool (Uj 18 (a.next.drop i)&&Sr 18 a.Z4))) (fun i e s=>i<=a.next.length/\Env.get e 2=.ptr 8 0/\Env.get e 5=.int .i64 (i:Nat) /\
  s.get 8=some (.cells [.int .i64 a.lines,ZP a.YC (a.next.map ZX),ZP a.Yx (a.Z4.map ZY)] 46 false 0 0)) 0 ?_ rfl ⟨ae5 _,g2,g5,gs⟩
 clear g2 g5 gs;rintro L i e s ⟨hi,g2,g5,gs⟩ IH;by_cases hd:i<a.next.length
 ·have hw:=ZI hd (by omega);have r1:=Xi (nl:=a.YC) hd;have l1:=ZL a.next[i].1 (ints a.next[i].2);rw[Xz] at l1;rw[aeY hd,Uj]
  cases h:decide ((a.next[i].2.length:Int)>(18:Nat)) with
  |true =>
   have h:decide ((a.next[i].2.length:Int)>18)=true:=h;simp only[go_sem,KT,g2,g5,gs,Z8,hd,ln,r1,l1,h,Bool.false_and,cond_true]
  |false =>
   have h:decide ((a.next[i].2.length:Int)>18)=false:=h;simp only[go_sem,KT,g2,g5,gs,Z8,hd,ln,r1,l1,h,hw,cond_false];refine IH (i+1) _ _ (by omega) ⟨by omega,?_,?_,gs⟩
   all_goals simp only[go_sem,g2,hw]
 ·have:i=a.next.length:=by omega
  subst this;rw[afE,Uj,afU];simp only[go_sem,KT,g2,g5,gs,Z8,afg,ln];refine VQ (σ:=Nat) (fun i=>a.Z4.length-i) (fun i=>some (.bool (Sr 18 (a.Z4.drop i)))) (fun i e s=>i<=a.Z4.length/\Env.get e 2=.ptr 8 0/\Env.get e 6=.int .i64 (i:Nat) /\
   s.get 8=some (.cells [.int .i64 a.lines,ZP a.YC (a.next.map ZX),ZP a.Yx (a.Z4.map ZY)] 46 false 0 0)) 0 ?_ rfl ?_
  ·clear g2 g5 gs IH;rintro L i e s ⟨hi,g2,g6,gs⟩ IH;by_cases hd:i<a.Z4.length
   ·have hw:=ZI hd (by omega);have r1:=Xh (nl:=a.Yx) hd;have l1:=ZL a.Z4[i].1 (ZH a.Z4[i].2);rw[Ym] at l1;rw[aeY hd,Sr]
    cases h:decide ((a.Z4[i].2.length:Int)>(18:Nat)) with
    |true =>
     have h:decide ((a.Z4[i].2.length:Int)>18)=true:=h;simp only[go_sem,KU,g2,g6,gs,Z8,hd,lf,r1,l1,h,cond_true]
    |false =>
     have h:decide ((a.Z4[i].2.length:Int)>18)=false:=h;simp only[go_sem,KU,g2,g6,gs,Z8,hd,lf,r1,l1,h,hw,cond_false];refine IH (i+1) _ _ (by omega) ⟨by omega,?_,?_,gs⟩
     all_goals simp only[go_sem,g2,hw]
   ·have:i=a.Z4.length:=by omega
    subst this;simp only[go_sem,KU,g2,g6,gs,Z8,afg,lf];rw[afE,Sr]
  ·refine⟨ae5 _,?_,?_,gs⟩
   all_goals simp only[go_sem,g2]
   all_goals rfl
theorem c44 (a:ZN)(n:Int):Zv U 34 [YP a,.int .i64 n]=some (.bool (DC a n)):=by
 refine Za k44 (by kernel_rfl) (by simp[ZK,YF,still]) ?_;rw[ZB];have nn:=ZT a.YC (a.next.map ZX);have nf:=ZT a.Yx (a.Z4.map ZY);have cn:=ZS a.YC (a.next.map ZX);have cf:=ZS a.Yx (a.Z4.map ZY);have ln:=ZL a.YC (a.next.map ZX);have lf:=ZL a.Yx (a.Z4.map ZY);rw[ae7] at ln lf;unfold XK YK DC
 cases h1:decide ((a.next.length:Int)>n) <;> cases h2:decide ((a.next.length:Int)<=256) <;> cases h3:decide ((a.next.length:Int)>258) <;> cases h4:decide ((a.Z4.length:Int)>260)
 all_goals simp only[go_sem,r44,nn,nf,cn,cf,ln,lf,h1,h2,h3,h4]
 all_goals try rfl
 all_goals have hN:a.next.length<=258:=by simp at h3;omega
 all_goals have hF:a.Z4.length<=260:=by simp at h4;omega
 all_goals clear h1 h2 h3 h4
 all_goals refine l44 a hN hF ?_ ?_ ?_
 all_goals try simp only[go_sem]
 all_goals rfl
def Mv (l:List Nat):List Int:=l.map fun k:Nat=>(k:Int)
def ZO (l:List Nat):List AV:=ints (Mv l)
theorem Sh (l:List Nat):(Mv l).length=l.length:=by simp[Mv]
theorem Xb (l:List Nat):(ZO l).length=l.length:=by rw[ZO,Xz,Sh]
theorem Y1 {l:List Nat}{i:Nat}(h:i<l.length):(ZO l)[i]? = some (.int .i64 ((gt l i:Nat):Int)):=by
 rw[ZO,Rp,Mv,afs,aaa h,ZJ h];rfl
theorem Xw {l:List Nat}{i:Nat}(k:Nat)(h:i<l.length):lay i [.int .i64 (k:Int)] (ZO l)=some (ZO (l.set i k)):=by
 rw[LA _ _ _ (by rw[Xb];exact h)];simp[ZO,ints,Mv,List.map_set]
theorem N7 (l:List Nat)(k:Nat):ZO l++[.int .i64 (k:Int)]=ZO (l++[k]):=by simp[ZO,ints,Mv]
theorem Hb (a b:Bool):X_ U .eql 4 false (.bool a) (.bool b)=some (.bool (a==b)):=by cases a <;> cases b <;> kernel_rfl
theorem cL (a b:Nat):((a:Int)==(b:Int))=(a==b):=by rw[Bool.eq_iff_iff];simp;omega
end Go.Am
