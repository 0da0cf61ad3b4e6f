/- A part of the proof of a statement of this seat: the machine on which the program is read, and what it computes; for every input. -/
import Derived.Test.YtkmaeondbkpajaaGreatDoorG12
import Derived.Test.YtkmaeondbkpajaaGreatDoorG07
import Derived.Test.YtkmaeondbkpajaaGreatDoorG18
import Derived.Test.YtkmaeondbkpajaaGreatDoorG05
import Derived.Test.YtkmaeondbkpajaaGreatDoorG24
import Derived.Test.YtkmaeondbkpajaaGreatDoorG25
import Derived.Test.YtkmaeondbkpajaaGreatDoorG11
import Derived.Test.YtkmaeondbkpajaaGreatDoorG21
import Derived.Test.YtkmaeondbkpajaaGreatDoorG20
set_option linter.all false
namespace Go.Am
open Go
variable [ZZ]
set_option maxRecDepth 100000
set_option maxHeartbeats 8000000
structure Yld (fn:AV)(k B0:Nat)(G:Type)(CI:G->St->Prop)(fp:G->Nat->Prop)(Oc:Nat->Nat->Prop)(y:Nat->Nat->Bool)(KL:G->Nat->Nat->G->Prop):Prop where
 call:∀g c x s,Oc c x->CI g s->Fr s->∃g' s',MN U fn [.agg (lJ k c),.int .i64 (x:Int)] s=some (.bool (y c x),s')/\KL g c x g'/\CI g' s'/\(∀j,fp g' j->fp g j\/s.next<=j)/\(∀j,j<s.next->¬fp g j->s'.get j=s.get j)/\s.next<=s'.next/\Fr s'
 keep:∀g s s',CI g s->s.next<=s'.next->(∀j,j<s.next->(fp g j\/j<B0)->s'.get j=s.get j)->CI g s'
 lt:∀g s,CI g s->∀j,fp g j->j<s.next
def i_ (s:St)(N:Nat)(t:TypeId)(n:Nat)(cs:List AV)(v:AV):Prop:=∃b cap,v=.sl b 0 n cap 2/\(cap=none\/cap=some n)/\s.get b=some (.cells cs t false 0 0)/\cs.length=n*2/\N<=b/\b<s.next
theorem i_.keep {s s':St}{N n:Nat}{t:TypeId}{cs:List AV}{v:AV}(h:i_ s N t n cs v)(hn:s.next<=s'.next)(hg:∀j,j<s.next->N<=j->s.get j=some (.cells cs t false 0 0)->s'.get j=s.get j):i_ s' N t n cs v:=by
 obtain⟨b,cap,h1,h2,h3,h4,h5,h6⟩:=h;exact⟨b,cap,h1,h2,by rw[hg b h6 h5 h3];exact h3,h4,h5,by omega⟩
theorem i_.app {s:St}{N n:Nat}{t:TypeId}{cs:List AV}{v:AV}(h:i_ s N t n cs v)(hN:N<=s.next)(x y:AV)(hx:Zx x=true)(hy:Zx y=true) :
  ∃s1,QE t 2 1 [x,y] v s=some (.sl s.next 0 (n+1) none 2,s1)/\s1.next=s.next+1/\i_ s1 N t (n+1) (cs++[x,y]) (.sl s.next 0 (n+1) none 2)/\(∀j,j<s.next->s.get j≠some (.cells cs t false 0 0)->s1.get j=s.get j)/\(Fr s->Fr s1):=by
 obtain⟨b,cap,rfl,h2,h3,h4,h5,h6⟩:=h;rcases h2 with rfl|rfl
 ·refine⟨(s.put b .gone).new (.cells (cs++[x,y]) t false 0 0),by rw[Tg,h3,UO h4 (by omega) (by simp[hx,hy])],rfl,⟨s.next,none,rfl,.inl rfl,by rw[ZY,Z_,if_pos rfl],by simp[h4];omega,hN,by rw[Z',Z_];omega⟩,fun j hj Zv=>?_,fun hf=>(hf.put h6 _).new _⟩;have:b≠j:=by rintro rfl;exact Zv h3
  rw[ZY,Z_,if_neg (by omega),Z0,if_neg this]
 ·refine⟨s.new (.cells (cs++[x,y]) t false 0 0),by rw[TU h3 h4 (by omega)],rfl,⟨s.next,none,rfl,.inl rfl,by rw[ZY,if_pos rfl],by simp[h4];omega,hN,by rw[Z'];omega⟩,fun j hj Zv=>?_,fun hf=>hf.new _⟩;rw[ZY,if_neg (by omega)]
def pcs (k:Nat)(L:List Nat):List AV:=L.flatMap (lJ k)
def scs (L:List (Int×Int)):List AV:=L.flatMap fun p=>[.int .i64 p.1,.int .i64 p.2]
def Cz:List CP->List (Int×Int)
 |[]=>[]
 |_::l=>(-1,0)::l.map fun t=>((t.2.1:Int),(t.2.2:Int))
def cd (T:List CP):List Nat:=T.map (·.1)
def afA (v:AV)(j:Nat):Prop:=∃n cap,v=.sl j 0 n cap 2
theorem i_.Xg {s:St}{N n:Nat}{t:TypeId}{cs:List AV}{v:AV}(h:i_ s N t n cs v):Go.Am.Xg v=n:=by
 obtain⟨b,cap,rfl,_⟩:=h;rfl
inductive Gb {G:Type} (KL:G->Nat->Nat->G->Prop):G->List (Nat×Nat)->G->Prop
 |nil (g:G):Gb KL g [] g
 |snoc {g g1 g2:G} {l:List (Nat×Nat)} {c x:Nat}:Gb KL g l g1->KL g1 c x g2->Gb KL g (l++[(c,x)]) g2
structure Vis (s:St)(N:Nat)(a b:YY)(fpg:Nat->Prop)(A0 B0 mp pt:Nat)(T:List CP)(pv sv:AV):Prop where
 gA:s.get A0=some (.cells [.int .i64 a.lines,ZG a.TN (a.next.map Zi),ZG a.Tc (a.ZC.map Zq)] 42 false 0 0)
 gB:s.get B0=some (.cells [.int .i64 b.lines,ZG b.TN (b.next.map Zi),ZG b.Tc (b.ZC.map Zq)] 42 false 0 0)
 gm:s.get mp=some (.map (aeC b.fa.n (fun _=>.bool true) (cd T) 0) false)
 hp:i_ s N 164 T.length (pcs b.fa.n (cd T)) pv
 hs:i_ s N 231 T.length (scs (Cz T)) sv
 lt:A0<s.next/\B0<s.next/\mp<s.next/\pt<s.next/\N<=A0/\N<=B0/\N<=mp/\N<=pt
 fA:¬fpg A0/\¬fpg B0/\¬fpg mp/\¬fpg pt
 fp:∀j,afA pv j->¬fpg j/\j≠pt
 fs:∀j,afA sv j->¬fpg j
 np:A0≠pt/\B0≠pt/\mp≠pt
def ai8 (c x:Nat):List (Nat×Nat):=(List.range x).map fun z=>(c,z)
theorem Gb.trans {G:Type}{KL:G->Nat->Nat->G->Prop}{g g1 g2:G}{l l':List (Nat×Nat)}(h:Gb KL g l g1)(h':Gb KL g1 l' g2):Gb KL g (l++l') g2:=by
 induction h' with
 |nil=>rw[ajG];exact h
 |snoc h1 h2 ih=>rw[<-ajQ];exact .snoc ih h2
def sa (s:St)(N:Nat)(L:List Nat)(v:AV):Prop:=(v=.ZM/\L=[])\/∃w cap,v=.sl w 0 L.length cap 1/\s.get w=some (.cells (ZA L) 3 false 0 0)/\N<=w/\w<s.next/\L≠[]
end Go.Am
namespace Go.Am
open Go
variable [ZZ]
structure cI (a b:YY)(T:List Nat):Prop where
 pos:0<T.length
 nd:T.Nodup
 lt:∀c∈T,c<(cJ a.fa b.fa).n
 cl:∀c∈T,∀x,x<2^a.lines.toNat->(cJ a.fa b.fa).nx c x∈T
 hd:T[0]? = some 0
theorem cI.len {a b:YY}{T:List Nat}(h:cI a b T):T.length<=a.fa.n*b.fa.n:=Vm (κ:=id) (by rw[List.map_id];exact h.nd) h.lt
end Go.Am
namespace Go.Am
open Go
variable [ZZ]
set_option maxRecDepth 100000
set_option maxHeartbeats 8000000
theorem sa.Yc {s:St}{N:Nat}{L:List Nat}{v:AV}(h:sa s N L v)(d:Nat):Go.Am.Yc U s (d+2) v=some (ZG true (ZA L)):=by
 rcases h with⟨rfl,rfl⟩|⟨w,cap,rfl,h2,h3,h4,h5⟩
 ·rfl
 ·rw[QF,h2,UQ,ajj,<-U' L,Wi,DP,DO,Rh];unfold ZA;rw[if_pos (VB _),Vt,U_ s d (NU L),SQ]
  cases L with
  |nil=>exact absurd rfl h5
  |cons x l=>rfl
theorem sa.len {s:St}{N:Nat}{L:List Nat}{v:AV}(h:sa s N L v):SZ v=some (.int .i64 (L.length:Nat)):=by
 rcases h with⟨rfl,rfl⟩|⟨w,cap,rfl,_⟩ <;> rfl
theorem sa.na {s:St}{N:Nat}{L:List Nat}{v:AV}(h:sa s N L v):Zx v=true:=by
 rcases h with⟨rfl,rfl⟩|⟨w,cap,rfl,_⟩ <;> rfl
end Go.Am
namespace Go.Am
open Go
def sx (l:List Bool)(t:Nat):Prop:=l.getD t false=true
structure wL (n:Nat)(z z':List Bool×List Nat)(P:Nat->Prop):Prop where
 len:z'.1.length=n
 seen:∀t,sx z'.1 t<->sx z.1 t\/P t
 lay:∀t,t∈z'.2<->t∈z.2\/(P t/\¬sx z.1 t)
theorem wL.trans {n:Nat}{z z1 z2:List Bool×List Nat}{P Q:Nat->Prop}(h:wL n z z1 P)(h':wL n z1 z2 Q):wL n z z2 fun t=>P t\/Q t:=by
 refine⟨h'.len,fun t=>?_,fun t=>?_⟩
 ·rw[h'.seen,h.seen,or_assoc]
 ·rw[h'.lay,h.lay,h.seen];by_cases h1:P t <;> by_cases h2:Q t <;> by_cases h3:sx z.1 t <;> simp[h1,h2,h3]
theorem wL.congr {n:Nat}{z z':List Bool×List Nat}{P Q:Nat->Prop}(h:wL n z z' P)(e:∀t,P t<->Q t):wL n z z' Q:=by
 have:P=Q:=funext fun t=>propext (e t)
 rw[<-this];exact h
end Go.Am
namespace Go.Am
open Go
variable [ZZ]
end Go.Am
namespace Go.Am
open Go
variable [ZZ]
set_option maxRecDepth 100000
set_option maxHeartbeats 8000000
theorem JG.M6 {s:St}{N:Nat}{L:List Nat}{v:AV}(h:JG s N L v){j:Nat}(hj:Xi v j):j<s.next/\s.get j=some (.cells (ZA L) 3 false 0 0):=by
 rcases h with⟨rfl,_⟩|⟨b,rfl,h2,h3,h4⟩
 ·exact absurd hj (Ws j)
 ·rw[Yu] at hj;subst hj;exact⟨h4,h2⟩
structure SpI (s:St)(b5 b6 sb n:Nat)(z:List Bool×List Nat)(lv:AV):Prop where
 g5:s.get b5=some (.cells [.sl sb 0 n (some n) 1] 72 false 0 0)
 gs:s.get sb=some (.cells (ZB z.1) 4 false 0 0)
 g6:s.get b6=some (.cells [lv] 48 false 0 0)
 gl:JG s 0 z.2 lv
 lt:b5<s.next/\b6<s.next/\sb<s.next
 len:z.1.length=n
 cnt:z.2.length+z.1.count false<=n
theorem SpI.keep {s s':St}{b5 b6 sb n:Nat}{z:List Bool×List Nat}{lv:AV}(h:SpI s b5 b6 sb n z lv)(hn:s.next<=s'.next)(hg:∀j,j<s.next->j=b5\/j=b6\/j=sb\/Xi lv j->s'.get j=s.get j):SpI s' b5 b6 sb n z lv:=by
 obtain⟨g5,gs,g6,gl,⟨l1,l2,l3⟩,len,cnt⟩:=h;exact⟨(hg _ l1 (by simp)).trans g5,(hg _ l3 (by simp)).trans gs,(hg _ l2 (by simp)).trans g6,gl.keep hn fun j h1 _ h3=>hg j h1 (by simp[h3]),by omega,len,cnt⟩
theorem Gb.map {G H:Type}{KL:G->Nat->Nat->G->Prop}{acM:H->Nat->Nat->H->Prop}{φ:G->H}(h:∀g c x g',KL g c x g'->acM (φ g) c x (φ g')){g g':G}{l:List (Nat×Nat)}(hs:Gb KL g l g'):Gb acM (φ g) l (φ g'):=by
 induction hs with
 |nil=>exact .nil _
 |snoc h1 h2 ih=>exact .snoc ih (h _ _ _ _ h2)
def N7 (k:Nat)(v:AV)(j:Nat):Prop:=∃n cap,v=.sl j 0 n cap k
theorem DQ (k b n j:Nat)(cap:Option Nat):N7 k (.sl b 0 n cap k) j<->b=j:=by
 constructor
 ·rintro⟨m,c,h⟩;cases h;rfl
 ·rintro rfl;exact⟨n,cap,rfl⟩
structure ExE (s:St)(bM:Nat)(L:List RN)(E:List (RN×AV)):Prop where
 fst:E.map (·.1)=L
 vs:∀p∈E,MkV s bM p.1.marks p.2
theorem ExE.len {s:St}{bM:Nat}{L:List RN}{E:List (RN×AV)}(h:ExE s bM L E):E.length=L.length:=by
 rw[<-h.fst,aje]
theorem ExE.keep {s s':St}{bM:Nat}{L:List RN}{E:List (RN×AV)}(h:ExE s bM L E)(hg:s'.get bM=s.get bM):ExE s' bM L E:=⟨h.fst,fun p hp=>(h.vs p hp).keep hg⟩
theorem aix {Za:List Int}{a k g last:Int}(Ya:aq (a::k::g::last::Za))(h0:Za≠[])(hl:Za.length<=2^20):∃s',go U (Rs U [.tmp 6]) [] g_ (Zc 0 [.fz (ints Za),.agg [.int .i64 a,.int .i64 k,.int .i64 g],.int .i64 last] .nil) (Yl U)=some (.str (Rq (a::k::g::last::Za)),s'):=by
 obtain⟨L,hL⟩:∃L,L=a::k::g::last::Za:=⟨_,rfl⟩;have hLl:L.length=4+Za.length:=by rw[hL];simp;omega
 have dy:Za.length≠0:=fun e=>h0 (ajI.1 e)
 rw[<-hL] at Ya ⊢;have Bs:=fun S=>Ik Za S
 simp only[go_sem,g_,Bs];have e1:JW 3 1 8 (.sl 10 0 4 (some 4) 1) (some (Za.length,ints Za)) ((((Yl U).new (.cells [.int .i64 a,.int .i64 k,.int .i64 g] 133 false 0 0)).new (.cells [.VI,.ZM] 150 false 0 0)).new (.cells [.int .i64 a,.int .i64 k,.int .i64 g,.int .i64 last] 3 false 0 0))=some (.sl 11 0 (4+Za.length) none 1,((((Yl U).new (.cells [.int .i64 a,.int .i64 k,.int .i64 g] 133 false 0 0)).new (.cells [.VI,.ZM] 150 false 0 0)).new (.cells [.int .i64 a,.int .i64 k,.int .i64 g,.int .i64 last] 3 false 0 0)).new (.cells (ints L) 3 false 0 0)):=by
  have hz:Go.Am.Xg (.sl 10 0 4 (some 4) 1)=4:=rfl;rw[ZD (by rw[Zl];omega) (by rw[hz];omega) (by rw[hz];omega) dy,TU (cs:=[.int .i64 a,.int .i64 k,.int .i64 g,.int .i64 last]) (lo:=0) (hi:=0) (by simp only[go_sem]) rfl (by omega)];rw[hL];rfl
 rw[e1];simp only[go_sem];obtain⟨S0,Lm⟩:∃S0,S0=((((Yl U).new (.cells [.int .i64 a,.int .i64 k,.int .i64 g] 133 false 0 0)).new (.cells [.VI,.ZM] 150 false 0 0)).new (.cells [.int .i64 a,.int .i64 k,.int .i64 g,.int .i64 last] 3 false 0 0)).new (.cells (ints L) 3 false 0 0):=⟨_,rfl⟩;rw[<-Lm];have DL:S0.next=12:=by rw[Lm];simp only[go_sem]
 have gL0:S0.get 11=some (.cells (ints L) 3 false 0 0):=by rw[Lm];simp only[go_sem]
 have gb0:S0.get 9=some (.cells [.VI,.ZM] 150 false 0 0):=by rw[Lm];simp only[go_sem]
 have fr0:Fr S0:=by rw[Lm];exact (((Fr.own.new _).new _).new _).new _
 rw[<-hLl];refine YG (Zu:=fun (o:Option (AV×St))=>∃s',o=some (.str (Rq L),s')) (σ:=Nat) (fun i=>L.length-i) (fun i e' s'=>i<=L.length/\Env.get e' 7=.ptr 9 0/\Env.get e' 19=.sl 11 0 L.length none 1/\Env.get e' 20=.int .i64 (L.length:Nat)/\Env.get e' 21=.int .i64 (i:Nat)/\s'.get 11=some (.cells (ints L) 3 false 0 0)/\12<=s'.next/\Fr s'/\JX s' 9 (Rq (L.take i))) 0 ?_
  ⟨aji _,?_,?_,?_,?_,gL0,by omega,fr0,⟨.VI,.ZM,gb0,.inl rfl,by omega,ZF.nil _ _ _ _⟩⟩
 ·rintro Lp i e' s' ⟨hi,q7,aT,iE,ix,gL,UL,UB,hB⟩ IH;by_cases hd:i<L.length
  ·have hw:=ZE hd (by omega);have hx:(ints L)[i]? = some (.int .i64 L[i]):=by rw[ints,ajv,aaa hd];rfl
   obtain⟨o1,o2⟩:=Ya L[i] (ajc hd);have hit:=dp L[i] o1 o2;obtain⟨f1,f2,_,_⟩:=Ro o1 o2;have Cp:=PC (L.take i) fun x hx=>Ya x (List.mem_of_mem_take hx)
   rw[aj2] at Cp;obtain⟨s1,r1,h131,B1,gZ,n1,K1⟩:=dt hB UB (Co L[i]) f1 (by omega);obtain⟨s2,h130,B2,IV,n2,K2⟩:=dr B1 gZ 32 (by rw[ajh];omega);have g1:=K1 11 _ _ (by omega) (by omega) gL (by decide);have gL1:=g1.trans gL;have g2:=K2 11 _ _ (by omega) (by omega) gL1 (by decide);have gL2:=g2.trans gL1;have h130:SH U 78 [.ptr 9 0,.int .u8 32] s1=some (.Ul,s2):=h130;simp only[go_sem,Mt,q7,aT,iE,ix,Z9,hd,gL,hx,hit,oD,h131,dq,h130,hw,ajr,ajj];refine IH (i+1) _ _ (by omega) ⟨by omega,?_,?_,?_,?_,gL2,by omega,IV,?_⟩
   case refine_5=>rw[PD hd,Br];exact B2
   all_goals simp only[go_sem,q7,aT,iE]
  ·have hie:i=L.length:=by omega
   subst hie;rw[List.take_length] at hB;have Cp:=PC L Ya;obtain⟨s3,h133,n3,tn,_⟩:=oC hB UB (by omega);simp only[go_sem,Mt,q7,iE,ix,Z9,ajp,va,h133];exact⟨_,rfl⟩
 all_goals simp only[go_sem]
 all_goals rfl
theorem afK {Za:List Int}{a k g last:Int}(Ya:aq (a::k::g::last::Za))(h0:Za≠[])(hl:Za.length<=2^20)(S:St):Tq U 133 (some [.fz (ints Za),.agg [.int .i64 a,.int .i64 k,.int .i64 g],.int .i64 last]) S=some (.str (Rq (a::k::g::last::Za)),S):=by
 obtain⟨s',h1⟩:=aix Ya h0 hl;refine Ri U S ?_;unfold UN;rw[CN ac1 h1];rfl
def N3 (x:PN):X6:=Rq ((x.cur.1:Int)::x.cur.2.1::x.cur.2.2::x.last::x.Za)
structure PB (x:PN):Prop where
 ok:aq ((x.cur.1:Int)::x.cur.2.1::x.cur.2.2::x.last::x.Za)
 ne:x.Za≠[]
 le:x.Za.length<=2^20
theorem zy {x y:PN}(hx:PB x)(hy:PB y)(e:N3 x=N3 y):x=y:=by
 have h:=zz _ _ hx.ok hy.ok e;obtain⟨l,⟨a,k,g⟩,m⟩:=x;obtain⟨l',⟨a',k',g'⟩,m'⟩:=y;simp only[List.cons.injEq] at h;obtain⟨h1,h2,h3,h4,h5⟩:=h;have h1:a=a':=by omega
 subst h1;subst h2;subst h3;subst h4;subst h5;rfl
theorem jN {L:List PN}(hL:∀x∈L,PB x){z:PN}(hz:PB z):WN (L.map N3) (N3 z)=WN L z:=by
 induction L with
 |nil=>rfl
 |cons x l ih =>
  have hx:=hL x (aba ..);rw[aju,WN,WN,ih fun y hy=>hL y (aab _ hy)];by_cases h:x=z
  ·subst h;rw[if_pos rfl,if_pos rfl]
  ·rw[if_neg h,if_neg fun e=>h (zy hx hz e)]
def kG (s:St)(bS:Nat)(l:List Int)(v:AV):Prop:=v=.fz (ints l)\/(v=.sl bS 0 l.length none 1/\s.get bS=some (.cells (ints l) 3 false 0 0))
theorem kG.keep {s s':St}{bS:Nat}{l:List Int}{v:AV}(h:kG s bS l v)(hg:∀c,s.get bS=some (.cells c 3 false 0 0)->s'.get bS=some (.cells c 3 false 0 0)):kG s' bS l v:=by
 rcases h with h|⟨h1,h2⟩
 ·exact .inl h
 ·exact .inr ⟨h1,hg _ h2⟩
theorem kG.Yc {s:St}{bS:Nat}{l:List Int}{v:AV}(h:kG s bS l v)(d:Nat):Go.Am.Yc U s (d+2) v=some (.fz (ints l)):=by
 rcases h with rfl|⟨rfl,hg⟩
 ·rw[HD]
 ·exact Jz (d:=d) (cap:=none) hg
theorem kG.Zx {s:St}{bS:Nat}{l:List Int}{v:AV}(h:kG s bS l v):Go.Am.Zx v=true:=by
 rcases h with rfl|⟨rfl,hg⟩ <;> rfl
def Wo (x:PN)(v:AV):List AV:=[v,.int .i64 x.cur.1,.int .i64 x.cur.2.1,.int .i64 x.cur.2.2,.int .i64 x.last]
theorem afL {x:PN}(hx:PB x){s:St}{bS:Nat}{v:AV}(hv:kG s bS x.Za v) :
  XR U (Zw U 133 [v,.agg [.int .i64 x.cur.1,.int .i64 x.cur.2.1,.int .i64 x.cur.2.2],.int .i64 x.last]) 133 [v,.agg [.int .i64 x.cur.1,.int .i64 x.cur.2.1,.int .i64 x.cur.2.2],.int .i64 x.last] s=some (.str (N3 x),s):=by
 rcases hv with rfl|⟨rfl,hg⟩
 ·rw[agk hx.ok hx.ne hx.le,Vy];rfl
 ·rw[agj (by simp[ZO,still])];have e1:Go.Am.Yc U s 40 (.sl bS 0 x.Za.length none 1)=some (.fz (ints x.Za)):=Jz (d:=38) (cap:=none) hg;have hm:YT (Go.Am.Yc U s 40) [.sl bS 0 x.Za.length none 1,.agg [.int .i64 x.cur.1,.int .i64 x.cur.2.1,.int .i64 x.cur.2.2],.int .i64 x.last]=some [.fz (ints x.Za),.agg [.int .i64 x.cur.1,.int .i64 x.cur.2.1,.int .i64 x.cur.2.2],.int .i64 x.last]:=by
   simp only[YT,e1];rfl
  rw[hm];exact afK hx.ok hx.ne hx.le s
def Ni:List X6->Nat->List (AV×AV)
 |[],_=>[]
 |k::ks,i=>(.str k,.int .i64 (i:Int))::Ni ks (i+1)
theorem GG (k:X6):∀(ks:List X6) (i:Nat),VH (.str k) (Ni ks i)=some (bif decide (WN ks k<ks.length) then some (.int .i64 ((i+WN ks k:Nat):Int)) else none)
 |[],i=>rfl
 |x::l,i=>by
  rw[Ni,VH,WB,WN];by_cases h:x=k
  ·subst h;rw[if_pos rfl];simp
  ·have Zv:(k==x)=false:=by simpa using fun e=>h (Eq.symm e)
   rw[Zv,if_neg h];simp only[ajk];rw[GG k l (i+1)];have e:decide (WN l k+1<l.length+1)=decide (WN l k<l.length):=by congr 1;apply propext;omega
   rw[e]
   congr 2
   rw[show i+1+WN l k=i+(WN l k+1) by omega]
theorem D6 (k:X6):∀(ks:List X6) (i:Nat),k∉ks->Mw (.str k) (.int .i64 ((i+ks.length:Nat):Int)) (Ni ks i)=some (Ni (ks++[k]) i)
 |[],i,_=>rfl
 |x::l,i,h=>by
  rw[ajo,not_or] at h;have Zv:(k==x)=false:=by simpa using h.1
  have ih:=D6 k l (i+1) h.2;rw[show i+1+l.length=i+(x::l).length by rw[ajk];omega] at ih;rw[Ni,Mw,WB,Zv,ajz,Ni];simp only[ih]
theorem ql {s:St}{m:Nat}{ks:List X6}(h:s.get m=some (.map (Ni ks 0) false))(k:X6):Xh U 207 (.map m) (.str k) true s=some (bif decide (WN ks k<ks.length) then .XF [.int .i64 ((WN ks k:Nat):Int),.bool true] else .XF [.int .i64 0,.bool false]):=by
 have hu:U.Zj 207=some (.map 9 3):=by kernel_rfl
 have h9:U.Zj 9=some .string:=by kernel_rfl
 have hz:zero U 3=some (.int .i64 0):=by kernel_rfl
 unfold Xh;rw[hu];simp only[Vi,h9,if_true,h,GG,ajr]
 cases decide (WN ks k<ks.length) with
 |true=>rfl
 |false=>simp only[cond_false,hz]
theorem qk {s:St}{m:Nat}{ks:List X6}(h:s.get m=some (.map (Ni ks 0) false)){k:X6}(hk:k∉ks):V0 U 207 (.map m) (.str k) (.int .i64 ((ks.length:Nat):Int)) s=some (s.put m (.map (Ni (ks++[k]) 0) false)):=by
 have hu:U.Zj 207=some (.map 9 3):=by kernel_rfl
 have h9:U.Zj 9=some .string:=by kernel_rfl
 have:=D6 k ks 0 hk;rw[ajr] at this;unfold V0;rw[hu];simp only[Vi,h9,if_true,h,this]
def dK (E:List (PN×AV)):List AV:=E.flatMap fun p=>Wo p.1 p.2
structure P0 (s:St)(bS mm mb nb N:Nat)(L:List PN)(E:List (PN×AV))(pv:AV):Prop where
 fst:E.map (·.1)=L
 vs:∀p∈E,kG s bS p.1.Za p.2
 map:s.get mm=some (.map (Ni (L.map N3) 0) false)
 B5:s.get mb=some (.cells [.map mm] 207 false 0 0)
 Wo:s.get nb=some (.cells [pv] 208 false 0 0)
 row:ZF s N 210 5 L.length (dK E) pv
 lt:bS<N/\mm<N/\mb<N/\nb<N/\N<=s.next
theorem ae2 {s:St}{bS mm mb nb N:Nat}{L:List PN}{E:List (PN×AV)}{pv:AV}(h:P0 s bS mm mb nb N L E pv)(hL:∀x∈L,PB x)(hlen:L.length<=2^20){z:PN}(hz:PB z){V:AV}(hV:kG s bS z.Za V)(fr:Fr s) :
  ∃s' E' Gj,SH U 132 [.agg (Wo z V),.ptr mb 0,.ptr nb 0] s=some (.int .i64 (WN L z:Nat),s')/\P0 s' bS mm mb nb N (SX L z) E' Gj/\Fr s'/\s.next<=s'.next/\(∀j c t lo hi,s.get j=some (.cells c t false lo hi)->j<s.next->t≠210->t≠208->s'.get j=some (.cells c t false lo hi))/\(∀j,j<s.next->j≠mm->j≠nb->¬N7 5 pv j->s'.get j=s.get j)/\∀j,N7 5 Gj j->N7 5 pv j\/s.next<=j:=by
 obtain⟨n1,n2,n3,n4,n5⟩:=h.lt;have hk:=afL hz (s:=s.new (.cells (Go.Am.Wo z V) 210 false 0 0)) (hV.keep fun c hc=>by rw[ZY,if_neg (by omega)];exact hc);have hik:=jN hL hz;have jM:(s.new (.cells (Go.Am.Wo z V) 210 false 0 0)).get mm=some (.map (Ni (L.map N3) 0) false):=by rw[ZY,if_neg (by omega)];exact h.map
 have Fv:=ql jM (N3 z);rw[hik,aje] at Fv;unfold Go.Am.Wo at hk Fv jM;have f1:(s.next=mb)=False:=by simp;omega
 have f2:(s.next=nb)=False:=by simp;omega
 have ai:=h.B5;have jX:=h.Wo;have Ub:=hV.Zx;by_cases Sd:z∈L
 ·refine⟨s.new (.cells (Go.Am.Wo z V) 210 false 0 0),E,pv,?_,?_,fr.new _,by rw[Z'];omega,fun j c t lo hi hj YH _ _=>by rw[ZY,if_neg (by omega)];exact hj,fun j h1 _ _ _=>by rw[ZY,if_neg (by omega)],fun j hj=>.inl hj⟩
  ·refine V_ aef (by kernel_rfl) ?_;have YH:=(Oo L z).2 Sd;rw[decide_eq_true YH,cond_true] at Fv;unfold Go.Am.Wo;simp only[go_sem,aaU,hk,ai,Fv,f1,Ub]
  ·rw[SX,if_pos Sd];exact⟨h.fst,fun p hp=>(h.vs p hp).keep fun c hc=>by rw[ZY,if_neg (by omega)];exact hc,by rw[ZY,if_neg (by omega)];exact h.map,by rw[ZY,if_neg (by omega)];exact h.B5,by rw[ZY,if_neg (by omega)];exact h.Wo,h.row.mono (by rw[Z'];omega) fun j h1 h2=>by rw[ZY,if_neg (by omega)],by rw[Z'];omega⟩
 ·have YH:¬WN L z<L.length:=fun h'=>Sd ((Oo L z).1 h')
  have hix:WN L z=L.length:=CK z L Sd;rw[decide_eq_false YH,cond_false] at Fv;have hmm:((mm=nb)=False)/\((mm=mb)=False)/\((nb=mb)=False):=by
   refine⟨eq_false fun e=>?_,eq_false fun e=>?_,eq_false fun e=>?_⟩
   ·have:=h.map;rw[e,jX] at this;cases this
   ·have:=h.map;rw[e,ai] at this;cases this
   ·rw[e,ai] at jX;cases jX
  obtain⟨m1,m2,m3⟩:=hmm;have Ct:N3 z∉L.map N3:=fun hm=>by
   obtain⟨x,hx,e⟩:=ajs.1 hm;exact Sd (zy (hL x hx) hz e ▸ hx)
  have yD:=qk jM Ct;rw[aje] at yD;have vQ:=h.row.len;have Qf:=h.row.Xg;have Un:(L.length+1)*56<=1099511627776:=by omega
  have VD:L.length+1<=1099511627776:=by omega
  have f3:(mm=s.next)=False:=by simp;omega
  have f4:∀k,(s.next+k=nb)=False:=fun k=>by simp;omega
  obtain⟨S1,hS1⟩:∃S1,S1=((s.new (.cells [V,.int .i64 z.cur.1,.int .i64 z.cur.2.1,.int .i64 z.cur.2.2,.int .i64 z.last] 210 false 0 0)).put mm (.map (Ni (L.map N3++[N3 z]) 0) false)).new (.cells [V,.int .i64 z.cur.1,.int .i64 z.cur.2.1,.int .i64 z.cur.2.2,.int .i64 z.last] 210 false 0 0):=⟨_,rfl⟩;have ajb:S1.next=s.next+2:=by rw[hS1,Z',Z_,Z']
  have k1:∀j,j<s.next->j≠mm->S1.get j=s.get j:=fun j h1 h2=>by rw[hS1,ZY,Z_,Z',if_neg (by omega),Z0,if_neg h2.symm,ZY,if_neg (by omega)]
  have k1m:S1.get mm=some (.map (Ni (L.map N3++[N3 z]) 0) false):=by rw[hS1,ZY,Z_,Z',if_neg (by omega),Z0,if_pos rfl]
  have iP:Fr S1:=by rw[hS1];exact ((fr.new _).put (by rw[Z'];omega) _).new _
  have B6:ZF S1 N 210 5 L.length (dK E) pv:=h.row.mono (by omega) fun j h1 h2=>k1 j h2 (by omega)
  obtain⟨s2,a1,a2,a3,a4,a5⟩:=B6.Il (by omega) (m:=1) (new:=[V,.int .i64 z.cur.1,.int .i64 z.cur.2.1,.int .i64 z.cur.2.2,.int .i64 z.last]) (by omega) rfl (by rw[List.all_cons,Ub];rfl);have tI:∀j c t lo hi,s.get j=some (.cells c t false lo hi)->j<s.next->t≠210->s2.get j=some (.cells c t false lo hi):=fun j c t lo hi hj YH ht=>by
   have hjm:j≠mm:=fun e=>by
    have:=h.map;rw[<-e,hj] at this;cases this
   have bj:=(k1 j YH hjm).trans hj;rw[a4 j (by omega) (B6.other bj ht)];exact bj
  have knb:=tI nb _ _ _ _ jX (by omega) (by decide);have kmb:=tI mb _ _ _ _ ai (by omega) (by decide);have kmm:s2.get mm=some (.map (Ni (L.map N3++[N3 z]) 0) false):=by rw[a4 mm (by omega) (B6.Bt (.inr (by omega)))];exact k1m
  have X':SH U 132 [.agg (Go.Am.Wo z V),.ptr mb 0,.ptr nb 0] s=some (.int .i64 (L.length:Nat),s2.put nb (.cells [.sl S1.next 0 (L.length+1) none 5] 208 false 0 0)):=by
   refine V_ aef (by kernel_rfl) ?_;unfold Go.Am.Wo;simp only[go_sem,aaU,hk,ai,jX,Fv,f1,f2,f3,f4,Ub,vQ,yD,m1,m2,m3,ZD,Nat.reducePow,ajB,ajj,Qf,Un,VD];rw[<-hS1,a1];simp only[go_sem,knb]
  rw[hix];refine⟨_,E++[(z,V)],.sl S1.next 0 (L.length+1) none 5,X',?_,(a5 iP).put (by omega) _,by rw[Z_];omega,fun j c t lo hi hj YH h1 h2=>?_,fun j h1 h2 h3 h4=>?_,fun j hj=>?_⟩
  ·rw[SX,if_neg Sd];have hbS:∀c,s.get bS=some (.cells c 3 false 0 0)->(s2.put nb (.cells [.sl S1.next 0 (L.length+1) none 5] 208 false 0 0)).get bS=some (.cells c 3 false 0 0):=fun c hc=>by
    rw[Z0,if_neg (fun e=>by rw[e,hc] at jX;cases jX)];exact tI bS _ _ _ _ hc (by omega) (by decide)
   refine⟨by rw[ajA,h.fst];rfl,fun p hp=>?_,?_,?_,by rw[Z0,if_pos rfl],?_,by rw[Z_];omega⟩
   ·rcases ajX.1 hp with hp|hp
    ·exact (h.vs p hp).keep hbS
    ·rw[ajm.1 hp];exact hV.keep hbS
   ·rw[Z0,if_neg (fun e=>by rw[e] at m1;simp at m1),ajA];exact kmm
   ·rw[Z0,if_neg (fun e=>by rw[e] at m3;simp at m3)];exact kmb
   ·have:dK (E++[(z,V)])=dK E++[V,.int .i64 z.cur.1,.int .i64 z.cur.2.1,.int .i64 z.cur.2.2,.int .i64 z.last]:=by simp[dK,Go.Am.Wo]
    rw[this,ajh,ajR];exact a3.mono (by rw[Z_];omega) fun j h1 h2=>by rw[Z0,if_neg (by omega)]
  ·rw[Z0,if_neg (fun e=>by rw[e,hj] at jX;cases jX;exact h2 rfl)];exact tI j c t lo hi hj YH h1
  ·rw[Z0,if_neg h3.symm,a4 j (by omega) (fun e=>h4 ⟨_,_,e⟩),k1 j h1 h2]
  ·rw[DQ] at hj;right;omega
theorem tD:∀(bs ds:List Nat),Vd bs ds->(∀d∈ds,d<Yv bs)/\1<=Yv bs
 |[],[],_=>⟨fun d h=>by simp at h,ajg 1⟩
 |b::bs,d::ds,h=>by
  obtain⟨h1,h2⟩:=h;obtain⟨k1,k2⟩:=tD bs ds h2;have hb:1<=b:=by omega
  rw[Yv];refine⟨fun x hx=>?_,Nat.mul_pos hb k2⟩;rcases ajo.1 hx with rfl|hx
  ·calc x<b:=h1
    _=b*1:=(ajj b).symm
    _<=b*Yv bs:=Nat.mul_le_mul_left b k2
  ·calc x<Yv bs:=k1 x hx
    _=1*Yv bs:=(ajB _).symm
    _<=b*Yv bs:=aj7 _ hb
 |[],d::ds,h=>by simp[Vd] at h
 |b::bs,[],h=>by simp[Vd] at h
theorem Si.pb {S:List Step}(h:YN S)(bD:S.length<=8){m:Nat}(hm:2<=m/\m<=16)(hz:Wu S m<=512)(hL:(ZQ (S.map Step.cond)).length<=2^20){x:PN}(hx:Si S m x) :
  PB x/\(∀s∈x.Za,0<=s/\s<=256)/\x.Za.length=(ZQ (S.map Step.cond)).length:=by
 obtain⟨u,l,c,p,e⟩:=hx.Zj h;obtain⟨_,uc,us⟩:=u;obtain⟨k1,k2⟩:=tD _ _ us;have hT:1<=VC S:=by omega
 have Wh:Yv ((ZQ (S.map Step.cond)).map WG)<=170:=by
  unfold Wu at hz;generalize Yv ((ZQ (S.map Step.cond)).map WG)=P at *;have h1:P<=VC S*P:=by calc P=1*P:=(ajB P).symm
    _<=VC S*P:=aj7 P hT
  have h2:3*(VC S*P)<=(m+1)*(VC S*P):=aj7 _ (by omega);omega
 have hs:∀s∈x.Za,0<=s/\s<=170:=fun s hs=>by
  have h1:=p s hs;have h2:=k1 s.toNat (ajs.2 ⟨s,hs,rfl⟩);omega
 have Zv:x.Za≠[]:=fun e'=>by
  rw[e'] at e;exact CZ h.qh (fun e2=>by have:=h.ne;rw[List.map_eq_nil_iff] at e2;rw[e2] at this;simp at this) (ajI.1 e.symm)
 have ha:=c.a;have hk:=c.k;have hg:=c.g;have ht:=h.tm S[x.cur.1] (ajc ha);have hw:=h.wi S[x.cur.1] (ajc ha);rw[BS ha] at hk;rw[vD ha] at hg;refine⟨⟨fun n hn=>?_,Zv,by omega⟩,fun s h=>by have:=hs s h;omega,e⟩;simp only[ajo] at hn;rcases hn with rfl|rfl|rfl|rfl|hn
 ·omega
 ·omega
 ·omega
 ·omega
 ·have:=hs n hn;omega
theorem tQ {S:List Step}(h:YN S){m:Nat}{x:PN}(hx:Si S m x){y:Nat}(hy:y<m):Si S m (YX S x y).1:=by
 obtain⟨r,hr,rfl⟩:=hx;obtain⟨a,b,c⟩:=Rz h hr hy;exact⟨_,c,a⟩
def S_ (S:List Step)(m:Nat):List PN:=PZ (fun x y=>(YX S x y).1) m (Wu S m+1) 0 [DS S]
theorem pI0 {S:List Step}(h:YN S){m:Nat}:Cw (fun x y=>(YX S x y).1) m (Si S m) 0 [DS S] :=
 ⟨by simp,fun x hx=>by rw[ajm.1 hx];exact⟨_,(Ry h).2,(Ry (m:=m) h).1⟩,aji _,fun j hj=>by omega⟩
theorem pIn {S:List Step}(h:YN S){m:Nat}:∀x,Si S m x->∀y,y<m->Si S m (YX S x y).1:=fun x hx y hy=>tQ h hx hy
theorem RI {S:List Step}(h:YN S)(m:Nat):Cw (fun x y=>(YX S x y).1) m (Si S m) (S_ S m).length (S_ S m)/\(S_ S m).length<=Wu S m/\∃R,S_ S m=DS S::R:=by
 obtain⟨a,b,R,e⟩:=QU (n:=Wu S m) (κ:=tB S m) (pIn h) (fun x=>D2 h) (fun x y=>Jd h) (Wu S m+1) 0 [DS S] (pI0 h) (by omega);exact⟨a,b,R,e⟩
end Go.Am
