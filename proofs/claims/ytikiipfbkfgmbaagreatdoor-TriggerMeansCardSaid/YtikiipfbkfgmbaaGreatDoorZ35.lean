/- A part of the proof of a statement of this seat: the machine on which the program is read, and what it computes; for every input. -/
import Derived.Test.YtikiipfbkfgmbaaGreatDoorZ13
import Derived.Test.YtikiipfbkfgmbaaGreatDoorZ06
import Derived.Test.YtikiipfbkfgmbaaGreatDoorZ12
import Derived.Test.YtikiipfbkfgmbaaGreatDoorZ07
import Derived.Test.YtikiipfbkfgmbaaGreatDoorZ34
import Derived.Test.YtikiipfbkfgmbaaGreatDoorZ31
import Derived.Test.YtikiipfbkfgmbaaGreatDoorZ33
set_option linter.all false
namespace Go.Am
open Go
variable [Z4]
set_option maxRecDepth 100000
set_option maxHeartbeats 8000000
structure Yld (fn:AV)(k B0:Nat)(G:Type)(CI:G->St->Prop)(fp:G->Nat->Prop)(Na:Nat->Nat->Prop)(y:Nat->Nat->Bool)(Jk:G->Nat->Nat->G->Prop):Prop where
 call:∀g c x s,Na c x->CI g s->Fr s->∃g' s',GR U fn [.agg (jh k c),.int .i64 (x:Int)] s=some (.bool (y c x),s')/\Jk g c x g'/\CI g' s'/\(∀j,fp g' j->fp g j\/s.next<=j)/\(∀j,j<s.next->¬fp g j->s'.get j=s.get j)/\s.next<=s'.next/\Fr s'
 keep:∀g s s',CI g s->s.next<=s'.next->(∀j,j<s.next->(fp g j\/j<B0)->s'.get j=s.get j)->CI g s'
 lt:∀g s,CI g s->∀j,fp g j->j<s.next
def fB (s:St)(N:Nat)(t:TypeId)(n:Nat)(cs:List AV)(v:AV):Prop:=∃b cap,v=.sl b 0 n cap 2/\(cap=none\/cap=some n)/\s.get b=some (.cells cs t false 0 0)/\cs.length=n*2/\N<=b/\b<s.next
theorem fB.keep {s s':St}{N n:Nat}{t:TypeId}{cs:List AV}{v:AV}(h:fB s N t n cs v)(hn:s.next<=s'.next)(hg:∀j,j<s.next->N<=j->s.get j=some (.cells cs t false 0 0)->s'.get j=s.get j):fB s' N t n cs v:=by
 obtain⟨b,cap,h1,h2,h3,h4,h5,h6⟩:=h;exact⟨b,cap,h1,h2,by rw[hg b h6 h5 h3];exact h3,h4,h5,by omega⟩
theorem fB.app {s:St}{N n:Nat}{t:TypeId}{cs:List AV}{v:AV}(h:fB s N t n cs v)(hN:N<=s.next)(x y:AV)(hx:Zz x=true)(hy:Zz y=true) :
  ∃s1,Rx t 2 1 [x,y] v s=some (.sl s.next 0 (n+1) none 2,s1)/\s1.next=s.next+1/\fB s1 N t (n+1) (cs++[x,y]) (.sl s.next 0 (n+1) none 2)/\(∀j,j<s.next->s.get j≠some (.cells cs t false 0 0)->s1.get j=s.get j)/\(Fr s->Fr s1):=by
 obtain⟨b,cap,rfl,h2,h3,h4,h5,h6⟩:=h;rcases h2 with rfl|rfl
 ·refine⟨(s.put b .gone).new (.cells (cs++[x,y]) t false 0 0),by rw[TR,h3,VA h4 (by omega) (by simp[hx,hy])],rfl,⟨s.next,none,rfl,.inl rfl,by rw[Z7,Z',if_pos rfl],by simp[h4];omega,hN,by rw[Z_,Z'];omega⟩,fun j hj ZC=>?_,fun hf=>(hf.put h6 _).new _⟩;have:b≠j:=by rintro rfl;exact ZC h3
  rw[Z7,Z',if_neg (by omega),Z9,if_neg this]
 ·refine⟨s.new (.cells (cs++[x,y]) t false 0 0),by rw[T1 h3 h4 (by omega)],rfl,⟨s.next,none,rfl,.inl rfl,by rw[Z7,if_pos rfl],by simp[h4];omega,hN,by rw[Z_];omega⟩,fun j hj ZC=>?_,fun hf=>hf.new _⟩;rw[Z7,if_neg (by omega)]
def pcs (k:Nat)(L:List Nat):List AV:=L.flatMap (jh k)
def scs (L:List (Int×Int)):List AV:=L.flatMap fun p=>[.int .i64 p.1,.int .i64 p.2]
def A9:List Ij->List (Int×Int)
 |[]=>[]
 |_::l=>(-1,0)::l.map fun t=>((t.2.1:Int),(t.2.2:Int))
def aaE (T:List Ij):List Nat:=T.map (·.1)
def gM (v:AV)(j:Nat):Prop:=∃n cap,v=.sl j 0 n cap 2
theorem fB.Xj {s:St}{N n:Nat}{t:TypeId}{cs:List AV}{v:AV}(h:fB s N t n cs v):Go.Am.Xj v=n:=by
 obtain⟨b,cap,rfl,_⟩:=h;rfl
inductive EE {G:Type} (Jk:G->Nat->Nat->G->Prop):G->List (Nat×Nat)->G->Prop
 |nil (g:G):EE Jk g [] g
 |snoc {g g1 g2:G} {l:List (Nat×Nat)} {c x:Nat}:EE Jk g l g1->Jk g1 c x g2->EE Jk g (l++[(c,x)]) g2
structure Wx (s:St)(N:Nat)(a b:Yi)(Ri:Nat->Prop)(A0 B0 mp pt:Nat)(T:List Ij)(pv sv:AV):Prop where
 gA:s.get A0=some (.cells [.int .i64 a.lines,ZG a.TH (a.next.map Zn),ZG a.S6 (a.ZD.map Zv)] 69 false 0 0)
 gB:s.get B0=some (.cells [.int .i64 b.lines,ZG b.TH (b.next.map Zn),ZG b.S6 (b.ZD.map Zv)] 69 false 0 0)
 gm:s.get mp=some (.map (afY b.fa.n (fun _=>.bool true) (aaE T) 0) false)
 hp:fB s N 186 T.length (pcs b.fa.n (aaE T)) pv
 hs:fB s N 262 T.length (scs (A9 T)) sv
 lt:A0<s.next/\B0<s.next/\mp<s.next/\pt<s.next/\N<=A0/\N<=B0/\N<=mp/\N<=pt
 fA:¬Ri A0/\¬Ri B0/\¬Ri mp/\¬Ri pt
 fp:∀j,gM pv j->¬Ri j/\j≠pt
 fs:∀j,gM sv j->¬Ri j
 np:A0≠pt/\B0≠pt/\mp≠pt
def alB (c x:Nat):List (Nat×Nat):=(List.range x).map fun z=>(c,z)
theorem EE.trans {G:Type}{Jk:G->Nat->Nat->G->Prop}{g g1 g2:G}{l l':List (Nat×Nat)}(h:EE Jk g l g1)(h':EE Jk g1 l' g2):EE Jk g (l++l') g2:=by
 induction h' with
 |nil=>rw[alZ];exact h
 |snoc h1 h2 ih=>rw[<-alS];exact .snoc ih h2
def qy (s:St)(N:Nat)(L:List Nat)(v:AV):Prop:=(v=.ZW/\L=[])\/∃w cap,v=.sl w 0 L.length cap 1/\s.get w=some (.cells (ZO L) 3 false 0 0)/\N<=w/\w<s.next/\L≠[]
end Go.Am
namespace Go.Am
open Go
variable [Z4]
structure aat (a b:Yi)(T:List Nat):Prop where
 pos:0<T.length
 nd:T.Nodup
 lt:∀c∈T,c<(aas a.fa b.fa).n
 cl:∀c∈T,∀x,x<2^a.lines.toNat->(aas a.fa b.fa).nx c x∈T
 hd:T[0]? = some 0
theorem aat.len {a b:Yi}{T:List Nat}(h:aat a b T):T.length<=a.fa.n*b.fa.n:=Vn (κ:=id) (by rw[List.map_id];exact h.nd) h.lt
end Go.Am
namespace Go.Am
open Go
variable [Z4]
set_option maxRecDepth 100000
set_option maxHeartbeats 8000000
theorem yf {s:St}{b d n:Nat}{cap:Option Nat}{t:TypeId}{l r:List AV}(hn:n=l.length)(hg:s.get b=some (.cells l t false 0 0))(Et:YC U t=some false)(VY:size U t=some 1)(Re:l.all Zz=true)(hf:Y' (XC U s d) l=some r) :
  XC U s (d+1) (.sl b 0 n cap 1)=some (.fz r):=by
 subst hn;simp only[XC,hg,ah1,Ws,Et,VY];rw[if_pos ⟨trivial,by omega,fun _=>⟨trivial,Re⟩⟩,VC,hf]
theorem uv (s:St)(d:Nat)(l:List Int):Y' (XC U s (d+1)) (ints l)=some (ints l):=UZ fun x hx=>by
 obtain⟨b,_,rfl⟩:=alN.1 hx;rfl
theorem ye (s:St)(d:Nat)(l:List Bool):Y' (XC U s (d+1)) (ZM l)=some (ZM l):=UZ fun x hx=>by
 obtain⟨b,_,rfl⟩:=alN.1 hx;rfl
theorem UQ.XC {s:St}{b d:Nat}{c:AV}{l:List AV}{t:TypeId}(h:UQ s b t c l)(Et:YC U t=some false)(VY:size U t=some 1)(Re:l.all Zz=true)(hf:Y' (Go.Am.XC U s d) l=some l):Go.Am.XC U s (d+1) c=some (.fz l):=by
 obtain⟨j,cap,rfl,_,_,_,h5⟩:=h;exact yf rfl h5 Et VY Re hf
theorem ZK.yd {s:St}{B:Nat}{t:TypeId}{l:List AV}{v:AV}(h:ZK s B t 1 l.length l v)(Et:YC U t=some false)(VY:size U t=some 1)(Re:l.all Go.Am.Zz=true)
  {d:Nat}{r:List AV}(hf:Y' (Go.Am.XC U s d) l=some r):Go.Am.XC U s (d+1) v=some (ZG true r):=by
 rcases h with⟨h0,rfl,_⟩|⟨h0,h1,b,_,_,rfl,hg⟩
 ·have:l=[]:=al6.1 h0;subst this
  cases hf
  rfl
 ·rw[yf rfl hg Et VY Re hf]
  cases r with
  |nil =>
   cases l with
   |nil=>simp at h0
   |cons x l =>
    rw[Y'] at hf
    cases h1:Go.Am.XC U s d x with
    |none=>rw[h1] at hf;cases hf
    |some y =>
     rw[h1] at hf
     cases h2:Y' (Go.Am.XC U s d) l with
     |none=>rw[h2] at hf;cases hf
     |some z=>rw[h2] at hf;cases hf
  |cons x r=>rfl
theorem Ts.XC {s:St}{b:Nat}{a:Yi}{cN cF:List AV}{v w:AV}(h:Ts s b a cN cF v w)(d:Nat):Go.Am.XC U s (d+3) v=some (ZG true ((Ml a.fa (XZ a)).map fun x=>AV.fz (ZO x.2)))/\Go.Am.XC U s (d+3) w=some (ZG true ((Ml a.fa (XZ a)).map fun x=>AV.fz (ZM (XF a.fa x.1)))) :=
 ⟨h.v.yd Ed Ec h.na.1 (d:=d+2) (Va h.ln fun j h1 h'=>(h.bn j h' h1).XC Ka J' (XR _) (uv _ _ _)),h.w.yd Eb Ea h.na.2 (d:=d+2) (Va h.lf fun j h1 h'=>(h.bf j h' h1).XC AI AH (U' _) (ye _ _ _))⟩
theorem qy.Yn {s:St}{N:Nat}{L:List Nat}{v:AV}(h:qy s N L v)(d:Nat):Go.Am.Yn U s (d+2) v=some (ZG true (ZO L)):=by
 rcases h with⟨rfl,rfl⟩|⟨w,cap,rfl,h2,h3,h4,h5⟩
 ·rfl
 ·rw[VD,h2,Wo,ah1,<-Ww L,Ws,Ka,J',TX];unfold ZO;rw[if_pos (XR _),VC,Ua s d (PV L),Tb]
  cases L with
  |nil=>exact absurd rfl h5
  |cons x l=>rfl
theorem qy.len {s:St}{N:Nat}{L:List Nat}{v:AV}(h:qy s N L v):Ti v=some (.int .i64 (L.length:Nat)):=by
 rcases h with⟨rfl,rfl⟩|⟨w,cap,rfl,_⟩ <;> rfl
theorem qy.na {s:St}{N:Nat}{L:List Nat}{v:AV}(h:qy s N L v):Zz v=true:=by
 rcases h with⟨rfl,rfl⟩|⟨w,cap,rfl,_⟩ <;> rfl
end Go.Am
namespace Go.Am
open Go
def sx (l:List Bool)(t:Nat):Prop:=l.getD t false=true
structure uH (n:Nat)(z z':List Bool×List Nat)(P:Nat->Prop):Prop where
 len:z'.1.length=n
 seen:∀t,sx z'.1 t<->sx z.1 t\/P t
 lay:∀t,t∈z'.2<->t∈z.2\/(P t/\¬sx z.1 t)
theorem uH.trans {n:Nat}{z z1 z2:List Bool×List Nat}{P Q:Nat->Prop}(h:uH n z z1 P)(h':uH n z1 z2 Q):uH n z z2 fun t=>P t\/Q t:=by
 refine⟨h'.len,fun t=>?_,fun t=>?_⟩
 ·rw[h'.seen,h.seen,or_assoc]
 ·rw[h'.lay,h.lay,h.seen];by_cases h1:P t <;> by_cases h2:Q t <;> by_cases h3:sx z.1 t <;> simp[h1,h2,h3]
theorem uH.congr {n:Nat}{z z':List Bool×List Nat}{P Q:Nat->Prop}(h:uH n z z' P)(e:∀t,P t<->Q t):uH n z z' Q:=by
 have:P=Q:=funext fun t=>propext (e t)
 rw[<-this];exact h
end Go.Am
namespace Go.Am
open Go
variable [Z4]
end Go.Am
namespace Go.Am
open Go
variable [Z4]
set_option maxRecDepth 100000
set_option maxHeartbeats 8000000
theorem HS.LD {s:St}{N:Nat}{L:List Nat}{v:AV}(h:HS s N L v){j:Nat}(hj:Xb v j):j<s.next/\s.get j=some (.cells (ZO L) 3 false 0 0):=by
 rcases h with⟨rfl,_⟩|⟨b,rfl,h2,h3,h4⟩
 ·exact absurd hj (V' j)
 ·rw[Yl] at hj;subst hj;exact⟨h4,h2⟩
structure SpI (s:St)(b5 b6 sb n:Nat)(z:List Bool×List Nat)(lv:AV):Prop where
 g5:s.get b5=some (.cells [.sl sb 0 n (some n) 1] 43 false 0 0)
 gs:s.get sb=some (.cells (ZM z.1) 4 false 0 0)
 g6:s.get b6=some (.cells [lv] 40 false 0 0)
 gl:HS s 0 z.2 lv
 lt:b5<s.next/\b6<s.next/\sb<s.next
 len:z.1.length=n
 cnt:z.2.length+z.1.count false<=n
theorem SpI.keep {s s':St}{b5 b6 sb n:Nat}{z:List Bool×List Nat}{lv:AV}(h:SpI s b5 b6 sb n z lv)(hn:s.next<=s'.next)(hg:∀j,j<s.next->j=b5\/j=b6\/j=sb\/Xb lv j->s'.get j=s.get j):SpI s' b5 b6 sb n z lv:=by
 obtain⟨g5,gs,g6,gl,⟨l1,l2,l3⟩,len,cnt⟩:=h;exact⟨(hg _ l1 (by simp)).trans g5,(hg _ l3 (by simp)).trans gs,(hg _ l2 (by simp)).trans g6,gl.keep hn fun j h1 _ h3=>hg j h1 (by simp[h3]),by omega,len,cnt⟩
theorem EE.map {G H:Type}{Jk:G->Nat->Nat->G->Prop}{ad6:H->Nat->Nat->H->Prop}{φ:G->H}(h:∀g c x g',Jk g c x g'->ad6 (φ g) c x (φ g')){g g':G}{l:List (Nat×Nat)}(hs:EE Jk g l g'):EE ad6 (φ g) l (φ g'):=by
 induction hs with
 |nil=>exact .nil _
 |snoc h1 h2 ih=>exact .snoc ih (h _ _ _ _ h2)
def Sy (k:Nat)(v:AV)(j:Nat):Prop:=∃n cap,v=.sl j 0 n cap k
theorem Rc (k b n j:Nat)(cap:Option Nat):Sy k (.sl b 0 n cap k) j<->b=j:=by
 constructor
 ·rintro⟨m,c,h⟩;cases h;rfl
 ·rintro rfl;exact⟨n,cap,rfl⟩
structure n_ (s:St)(bM:Nat)(L:List RN)(E:List (RN×AV)):Prop where
 fst:E.map (·.1)=L
 vs:∀p∈E,nY s bM p.1.marks p.2
theorem n_.len {s:St}{bM:Nat}{L:List RN}{E:List (RN×AV)}(h:n_ s bM L E):E.length=L.length:=by
 rw[<-h.fst,agC]
theorem n_.keep {s s':St}{bM:Nat}{L:List RN}{E:List (RN×AV)}(h:n_ s bM L E)(hg:s'.get bM=s.get bM):n_ s' bM L E:=⟨h.fst,fun p hp=>(h.vs p hp).keep hg⟩
theorem ak0 {Yy:List Int}{a k g last:Int}(X5:r7 (a::k::g::last::Yy))(h0:Yy≠[])(hl:Yy.length<=2^20):∃s',go U (Sx U [.tmp 6]) [] ez (YX 0 [.fz (ints Yy),.agg [.int .i64 a,.int .i64 k,.int .i64 g],.int .i64 last] .nil) (X8 U)=some (.str (Qn (a::k::g::last::Yy)),s'):=by
 obtain⟨L,hL⟩:∃L,L=a::k::g::last::Yy:=⟨_,rfl⟩;have hLl:L.length=4+Yy.length:=by rw[hL];simp;omega
 have eB:Yy.length≠0:=fun e=>h0 (al6.1 e)
 rw[<-hL] at X5 ⊢;have Mg:=fun S=>RJ Yy S
 simp only[go_sem,ez,Mg];have e1:B7 3 1 8 (.sl 10 0 4 (some 4) 1) (some (Yy.length,ints Yy)) ((((X8 U).new (.cells [.int .i64 a,.int .i64 k,.int .i64 g] 167 false 0 0)).new (.cells [.Vk,.ZW] 207 false 0 0)).new (.cells [.int .i64 a,.int .i64 k,.int .i64 g,.int .i64 last] 3 false 0 0))=some (.sl 11 0 (4+Yy.length) none 1,((((X8 U).new (.cells [.int .i64 a,.int .i64 k,.int .i64 g] 167 false 0 0)).new (.cells [.Vk,.ZW] 207 false 0 0)).new (.cells [.int .i64 a,.int .i64 k,.int .i64 g,.int .i64 last] 3 false 0 0)).new (.cells (ints L) 3 false 0 0)):=by
  have hz:Go.Am.Xj (.sl 10 0 4 (some 4) 1)=4:=rfl;rw[ZH (by rw[YK];omega) (by rw[hz];omega) (by rw[hz];omega) eB,T1 (cs:=[.int .i64 a,.int .i64 k,.int .i64 g,.int .i64 last]) (lo:=0) (hi:=0) (by simp only[go_sem]) rfl (by omega)];rw[hL];rfl
 rw[e1];simp only[go_sem];obtain⟨S0,J8⟩:∃S0,S0=((((X8 U).new (.cells [.int .i64 a,.int .i64 k,.int .i64 g] 167 false 0 0)).new (.cells [.Vk,.ZW] 207 false 0 0)).new (.cells [.int .i64 a,.int .i64 k,.int .i64 g,.int .i64 last] 3 false 0 0)).new (.cells (ints L) 3 false 0 0):=⟨_,rfl⟩;rw[<-J8];have EO:S0.next=12:=by rw[J8];simp only[go_sem]
 have gL0:S0.get 11=some (.cells (ints L) 3 false 0 0):=by rw[J8];simp only[go_sem]
 have gb0:S0.get 9=some (.cells [.Vk,.ZW] 207 false 0 0):=by rw[J8];simp only[go_sem]
 have fr0:Fr S0:=by rw[J8];exact (((Fr.own.new _).new _).new _).new _
 rw[<-hLl];refine YP (ZB:=fun (o:Option (AV×St))=>∃s',o=some (.str (Qn L),s')) (σ:=Nat) (fun i=>L.length-i) (fun i e' s'=>i<=L.length/\Env.get e' 7=.ptr 9 0/\Env.get e' 19=.sl 11 0 L.length none 1/\Env.get e' 20=.int .i64 (L.length:Nat)/\Env.get e' 21=.int .i64 (i:Nat)/\s'.get 11=some (.cells (ints L) 3 false 0 0)/\12<=s'.next/\Fr s'/\Iq s' 9 (Qn (L.take i))) 0 ?_
  ⟨aic _,?_,?_,?_,?_,gL0,by omega,fr0,⟨.Vk,.ZW,gb0,.inl rfl,by omega,ZK.nil _ _ _ _⟩⟩
 ·rintro Lp i e' s' ⟨hi,q7,ey,mh,q21,gL,Vl,Xx,hB⟩ IH;by_cases hd:i<L.length
  ·have hw:=ZN hd (by omega);have hx:(ints L)[i]? = some (.int .i64 L[i]):=by rw[ints,alV,aaa hd];rfl
   obtain⟨o1,o2⟩:=X5 L[i] (adm hd);have hit:=aad L[i] o1 o2;obtain⟨f1,f2,_,_⟩:=Qm o1 o2;have NA:=Oy (L.take i) fun x hx=>X5 x (List.mem_of_mem_take hx)
   rw[amr] at NA;obtain⟨s1,r1,h131,B1,mg,n1,K1⟩:=af hB Xx (Bf L[i]) f1 (by omega);obtain⟨s2,h130,B2,O1,n2,K2⟩:=ae B1 mg 32 (by rw[agy];omega);have g1:=K1 11 _ _ (by omega) (by omega) gL (by decide);have gL1:=g1.trans gL;have g2:=K2 11 _ _ (by omega) (by omega) gL1 (by decide);have gL2:=g2.trans gL1;have h130:Rl U 130 [.ptr 9 0,.int .u8 32] s1=some (.TO,s2):=h130;simp only[go_sem,K9,q7,ey,mh,q21,Z8,hd,gL,hx,hit,mj,h131,aac,h130,hw,ald,ah1];refine IH (i+1) _ _ (by omega) ⟨by omega,?_,?_,?_,?_,gL2,by omega,O1,?_⟩
   case refine_5=>rw[Oz hd,zV];exact B2
   all_goals simp only[go_sem,q7,ey,mh]
  ·have xb:i=L.length:=by omega
   subst xb;rw[amH] at hB;have NA:=Oy L X5;obtain⟨s3,h133,n3,rC,_⟩:=mf hB Xx (by omega);simp only[go_sem,K9,q7,mh,q21,Z8,alh,ta,h133];exact⟨_,rfl⟩
 all_goals simp only[go_sem]
 all_goals rfl
theorem ahi {Yy:List Int}{a k g last:Int}(X5:r7 (a::k::g::last::Yy))(h0:Yy≠[])(hl:Yy.length<=2^20)(S:St):UR U 175 (some [.fz (ints Yy),.agg [.int .i64 a,.int .i64 k,.int .i64 g],.int .i64 last]) S=some (.str (Qn (a::k::g::last::Yy)),S):=by
 obtain⟨s',h1⟩:=ak0 X5 h0 hl;refine X0 U S ?_;unfold Yg;rw[KD aeh h1];rfl
def M4 (x:PN):XV:=Qn ((x.cur.1:Int)::x.cur.2.1::x.cur.2.2::x.last::x.Yy)
structure PB (x:PN):Prop where
 ok:r7 ((x.cur.1:Int)::x.cur.2.1::x.cur.2.2::x.last::x.Yy)
 ne:x.Yy≠[]
 le:x.Yy.length<=2^20
theorem xS {x y:PN}(hx:PB x)(hy:PB y)(e:M4 x=M4 y):x=y:=by
 have h:=xT _ _ hx.ok hy.ok e;obtain⟨l,⟨a,k,g⟩,m⟩:=x;obtain⟨l',⟨a',k',g'⟩,m'⟩:=y;simp only[List.cons.injEq] at h;obtain⟨h1,h2,h3,h4,h5⟩:=h;have h1:a=a':=by omega
 subst h1;subst h2;subst h3;subst h4;subst h5;rfl
theorem gy {L:List PN}(hL:∀x∈L,PB x){z:PN}(hz:PB z):XX (L.map M4) (M4 z)=XX L z:=by
 induction L with
 |nil=>rfl
 |cons x l ih =>
  have hx:=hL x (aba ..);rw[alT,XX,XX,ih fun y hy=>hL y (aab _ hy)];by_cases h:x=z
  ·subst h;rw[if_pos rfl,if_pos rfl]
  ·rw[if_neg h,if_neg fun e=>h (xS hx hz e)]
def iu (s:St)(bS:Nat)(l:List Int)(v:AV):Prop:=v=.fz (ints l)\/(v=.sl bS 0 l.length none 1/\s.get bS=some (.cells (ints l) 3 false 0 0))
theorem iu.keep {s s':St}{bS:Nat}{l:List Int}{v:AV}(h:iu s bS l v)(hg:∀c,s.get bS=some (.cells c 3 false 0 0)->s'.get bS=some (.cells c 3 false 0 0)):iu s' bS l v:=by
 rcases h with h|⟨h1,h2⟩
 ·exact .inl h
 ·exact .inr ⟨h1,hg _ h2⟩
theorem iu.Yn {s:St}{bS:Nat}{l:List Int}{v:AV}(h:iu s bS l v)(d:Nat):Go.Am.Yn U s (d+2) v=some (.fz (ints l)):=by
 rcases h with rfl|⟨rfl,hg⟩
 ·rw[Bz]
 ·exact Ux (d:=d) (cap:=none) hg
theorem iu.Zz {s:St}{bS:Nat}{l:List Int}{v:AV}(h:iu s bS l v):Go.Am.Zz v=true:=by
 rcases h with rfl|⟨rfl,hg⟩ <;> rfl
def VZ (x:PN)(v:AV):List AV:=[v,.int .i64 x.cur.1,.int .i64 x.cur.2.1,.int .i64 x.cur.2.2,.int .i64 x.last]
theorem ahj {x:PN}(hx:PB x){s:St}{bS:Nat}{v:AV}(hv:iu s bS x.Yy v) :
  X6 U (ZE U 175 [v,.agg [.int .i64 x.cur.1,.int .i64 x.cur.2.1,.int .i64 x.cur.2.2],.int .i64 x.last]) 175 [v,.agg [.int .i64 x.cur.1,.int .i64 x.cur.2.1,.int .i64 x.cur.2.2],.int .i64 x.last] s=some (.str (M4 x),s):=by
 rcases hv with rfl|⟨rfl,hg⟩
 ·rw[ah6 hx.ok hx.ne hx.le,U8];rfl
 ·rw[ah5 (by simp[ZU,still])];have e1:Go.Am.Yn U s 40 (.sl bS 0 x.Yy.length none 1)=some (.fz (ints x.Yy)):=Ux (d:=38) (cap:=none) hg;have hm:Y' (Go.Am.Yn U s 40) [.sl bS 0 x.Yy.length none 1,.agg [.int .i64 x.cur.1,.int .i64 x.cur.2.1,.int .i64 x.cur.2.2],.int .i64 x.last]=some [.fz (ints x.Yy),.agg [.int .i64 x.cur.1,.int .i64 x.cur.2.1,.int .i64 x.cur.2.2],.int .i64 x.last]:=by
   simp only[Y',e1];rfl
  rw[hm];exact ahi hx.ok hx.ne hx.le s
def LV:List XV->Nat->List (AV×AV)
 |[],_=>[]
 |k::ks,i=>(.str k,.int .i64 (i:Int))::LV ks (i+1)
theorem Fb (k:XV):∀(ks:List XV) (i:Nat),UM (.str k) (LV ks i)=some (bif decide (XX ks k<ks.length) then some (.int .i64 ((i+XX ks k:Nat):Int)) else none)
 |[],i=>rfl
 |x::l,i=>by
  rw[LV,UM,VQ,XX];by_cases h:x=k
  ·subst h;rw[if_pos rfl];simp
  ·have ZC:(k==x)=false:=by simpa using fun e=>h (Eq.symm e)
   rw[ZC,if_neg h];simp only[akd];rw[Fb k l (i+1)];have e:decide (XX l k+1<l.length+1)=decide (XX l k<l.length):=by congr 1;apply propext;omega
   rw[e]
   congr 2
   rw[show i+1+XX l k=i+(XX l k+1) by omega]
theorem CP (k:XV):∀(ks:List XV) (i:Nat),k∉ks->Ir (.str k) (.int .i64 ((i+ks.length:Nat):Int)) (LV ks i)=some (LV (ks++[k]) i)
 |[],i,_=>rfl
 |x::l,i,h=>by
  rw[alL,not_or] at h;have ZC:(k==x)=false:=by simpa using h.1
  have ih:=CP k l (i+1) h.2;rw[show i+1+l.length=i+(x::l).length by rw[akd];omega] at ih;rw[LV,Ir,VQ,ZC,alU,LV];simp only[ih]
theorem oA {s:St}{m:Nat}{ks:List XV}(h:s.get m=some (.map (LV ks 0) false))(k:XV):VK U 251 (.map m) (.str k) true s=some (bif decide (XX ks k<ks.length) then .XU [.int .i64 ((XX ks k:Nat):Int),.bool true] else .XU [.int .i64 0,.bool false]):=by
 have hu:U.Zd 251=some (.map 9 3):=by kernel_rfl
 have h9:U.Zd 9=some .string:=by kernel_rfl
 have hz:zero U 3=some (.int .i64 0):=by kernel_rfl
 unfold VK;rw[hu];simp only[Uq,h9,if_true,h,Fb,ald]
 cases decide (XX ks k<ks.length) with
 |true=>rfl
 |false=>simp only[cond_false,hz]
theorem oz {s:St}{m:Nat}{ks:List XV}(h:s.get m=some (.map (LV ks 0) false)){k:XV}(hk:k∉ks):UX U 251 (.map m) (.str k) (.int .i64 ((ks.length:Nat):Int)) s=some (s.put m (.map (LV (ks++[k]) 0) false)):=by
 have hu:U.Zd 251=some (.map 9 3):=by kernel_rfl
 have h9:U.Zd 9=some .string:=by kernel_rfl
 have:=CP k ks 0 hk;rw[ald] at this;unfold UX;rw[hu];simp only[Uq,h9,if_true,h,this]
def aI (E:List (PN×AV)):List AV:=E.flatMap fun p=>VZ p.1 p.2
structure OR (s:St)(bS mm mb nb N:Nat)(L:List PN)(E:List (PN×AV))(pv:AV):Prop where
 fst:E.map (·.1)=L
 vs:∀p∈E,iu s bS p.1.Yy p.2
 map:s.get mm=some (.map (LV (L.map M4) 0) false)
 AJ:s.get mb=some (.cells [.map mm] 251 false 0 0)
 VZ:s.get nb=some (.cells [pv] 252 false 0 0)
 row:ZK s N 254 5 L.length (aI E) pv
 lt:bS<N/\mm<N/\mb<N/\nb<N/\N<=s.next
theorem agx {s:St}{bS mm mb nb N:Nat}{L:List PN}{E:List (PN×AV)}{pv:AV}(h:OR s bS mm mb nb N L E pv)(hL:∀x∈L,PB x)(hlen:L.length<=2^20){z:PN}(hz:PB z){V:AV}(hV:iu s bS z.Yy V)(fr:Fr s) :
  ∃s' E' PW,Rl U 174 [.agg (VZ z V),.ptr mb 0,.ptr nb 0] s=some (.int .i64 (XX L z:Nat),s')/\OR s' bS mm mb nb N (T5 L z) E' PW/\Fr s'/\s.next<=s'.next/\(∀j c t lo hi,s.get j=some (.cells c t false lo hi)->j<s.next->t≠254->t≠252->s'.get j=some (.cells c t false lo hi))/\(∀j,j<s.next->j≠mm->j≠nb->¬Sy 5 pv j->s'.get j=s.get j)/\∀j,Sy 5 PW j->Sy 5 pv j\/s.next<=j:=by
 obtain⟨n1,n2,n3,n4,n5⟩:=h.lt;have hk:=ahj hz (s:=s.new (.cells (Go.Am.VZ z V) 254 false 0 0)) (hV.keep fun c hc=>by rw[Z7,if_neg (by omega)];exact hc);have hik:=gy hL hz;have gx:(s.new (.cells (Go.Am.VZ z V) 254 false 0 0)).get mm=some (.map (LV (L.map M4) 0) false):=by rw[Z7,if_neg (by omega)];exact h.map
 have pZ:=oA gx (M4 z);rw[hik,agC] at pZ;unfold Go.Am.VZ at hk pZ gx;have f1:(s.next=mb)=False:=by simp;omega
 have f2:(s.next=nb)=False:=by simp;omega
 have qI:=h.AJ;have gK:=h.VZ;have Re:=hV.Zz;by_cases Ue:z∈L
 ·refine⟨s.new (.cells (Go.Am.VZ z V) 254 false 0 0),E,pv,?_,?_,fr.new _,by rw[Z_];omega,fun j c t lo hi hj Yh _ _=>by rw[Z7,if_neg (by omega)];exact hj,fun j h1 _ _ _=>by rw[Z7,if_neg (by omega)],fun j hj=>.inl hj⟩
  ·refine VE afD (by kernel_rfl) ?_;have Yh:=(Q8 L z).2 Ue;rw[decide_eq_true Yh,cond_true] at pZ;unfold Go.Am.VZ;simp only[go_sem,ab0,hk,qI,pZ,f1]
  ·rw[T5,if_pos Ue];exact⟨h.fst,fun p hp=>(h.vs p hp).keep fun c hc=>by rw[Z7,if_neg (by omega)];exact hc,by rw[Z7,if_neg (by omega)];exact h.map,by rw[Z7,if_neg (by omega)];exact h.AJ,by rw[Z7,if_neg (by omega)];exact h.VZ,h.row.mono (by rw[Z_];omega) fun j h1 h2=>by rw[Z7,if_neg (by omega)],by rw[Z_];omega⟩
 ·have Yh:¬XX L z<L.length:=fun h'=>Ue ((Q8 L z).1 h')
  have hix:XX L z=L.length:=Lk z L Ue;rw[decide_eq_false Yh,cond_false] at pZ;have hmm:((mm=nb)=False)/\((mm=mb)=False)/\((nb=mb)=False):=by
   refine⟨eq_false fun e=>?_,eq_false fun e=>?_,eq_false fun e=>?_⟩
   ·have:=h.map;rw[e,gK] at this;cases this
   ·have:=h.map;rw[e,qI] at this;cases this
   ·rw[e,qI] at gK;cases gK
  obtain⟨m1,m2,m3⟩:=hmm;have Cn:M4 z∉L.map M4:=fun hm=>by
   obtain⟨x,hx,e⟩:=alN.1 hm;exact Ue (xS (hL x hx) hz e ▸ hx)
  have ie:=oz gx Cn;rw[agC] at ie;have ot:=h.row.len;have Jl:=h.row.Xj;have UP:(L.length+1)*56<=1099511627776:=by omega
  have VP:L.length+1<=1099511627776:=by omega
  have f3:(mm=s.next)=False:=by simp;omega
  have f4:∀k,(s.next+k=nb)=False:=fun k=>by simp;omega
  obtain⟨S1,hS1⟩:∃S1,S1=((s.new (.cells [V,.int .i64 z.cur.1,.int .i64 z.cur.2.1,.int .i64 z.cur.2.2,.int .i64 z.last] 254 false 0 0)).put mm (.map (LV (L.map M4++[M4 z]) 0) false)).new (.cells [V,.int .i64 z.cur.1,.int .i64 z.cur.2.1,.int .i64 z.cur.2.2,.int .i64 z.last] 254 false 0 0):=⟨_,rfl⟩;have alH:S1.next=s.next+2:=by rw[hS1,Z_,Z',Z_]
  have k1:∀j,j<s.next->j≠mm->S1.get j=s.get j:=fun j h1 h2=>by rw[hS1,Z7,Z',Z_,if_neg (by omega),Z9,if_neg h2.symm,Z7,if_neg (by omega)]
  have k1m:S1.get mm=some (.map (LV (L.map M4++[M4 z]) 0) false):=by rw[hS1,Z7,Z',Z_,if_neg (by omega),Z9,if_pos rfl]
  have AL:Fr S1:=by rw[hS1];exact ((fr.new _).put (by rw[Z_];omega) _).new _
  have AK:ZK S1 N 254 5 L.length (aI E) pv:=h.row.mono (by omega) fun j h1 h2=>k1 j h2 (by omega)
  obtain⟨s2,a1,a2,a3,a4,a5⟩:=AK.Gy (by omega) (m:=1) (new:=[V,.int .i64 z.cur.1,.int .i64 z.cur.2.1,.int .i64 z.cur.2.2,.int .i64 z.last]) (by omega) rfl (by rw[List.all_cons,Re];rfl);have rQ:∀j c t lo hi,s.get j=some (.cells c t false lo hi)->j<s.next->t≠254->s2.get j=some (.cells c t false lo hi):=fun j c t lo hi hj Yh ht=>by
   have hjm:j≠mm:=fun e=>by
    have:=h.map;rw[<-e,hj] at this;cases this
   have hj1:=(k1 j Yh hjm).trans hj;rw[a4 j (by omega) (AK.other hj1 ht)];exact hj1
  have knb:=rQ nb _ _ _ _ gK (by omega) (by decide);have kmb:=rQ mb _ _ _ _ qI (by omega) (by decide);have kmm:s2.get mm=some (.map (LV (L.map M4++[M4 z]) 0) false):=by rw[a4 mm (by omega) (AK.B8 (.inr (by omega)))];exact k1m
  have YA:Rl U 174 [.agg (Go.Am.VZ z V),.ptr mb 0,.ptr nb 0] s=some (.int .i64 (L.length:Nat),s2.put nb (.cells [.sl S1.next 0 (L.length+1) none 5] 252 false 0 0)):=by
   refine VE afD (by kernel_rfl) ?_;unfold Go.Am.VZ;simp only[go_sem,ab0,hk,qI,gK,pZ,f1,f2,f3,ot,ie,m1,ZH,Nat.reducePow,amk,Jl,UP,VP];rw[<-hS1,a1];simp only[go_sem,knb]
  rw[hix];refine⟨_,E++[(z,V)],.sl S1.next 0 (L.length+1) none 5,YA,?_,(a5 AL).put (by omega) _,by rw[Z'];omega,fun j c t lo hi hj Yh h1 h2=>?_,fun j h1 h2 h3 h4=>?_,fun j hj=>?_⟩
  ·rw[T5,if_neg Ue];have hbS:∀c,s.get bS=some (.cells c 3 false 0 0)->(s2.put nb (.cells [.sl S1.next 0 (L.length+1) none 5] 252 false 0 0)).get bS=some (.cells c 3 false 0 0):=fun c hc=>by
    rw[Z9,if_neg (fun e=>by rw[e,hc] at gK;cases gK)];exact rQ bS _ _ _ _ hc (by omega) (by decide)
   refine⟨by rw[alY,h.fst];rfl,fun p hp=>?_,?_,?_,by rw[Z9,if_pos rfl],?_,by rw[Z'];omega⟩
   ·rcases amb.1 hp with hp|hp
    ·exact (h.vs p hp).keep hbS
    ·rw[ake.1 hp];exact hV.keep hbS
   ·rw[Z9,if_neg (fun e=>by rw[e] at m1;simp at m1),alY];exact kmm
   ·rw[Z9,if_neg (fun e=>by rw[e] at m3;simp at m3)];exact kmb
   ·have:aI (E++[(z,V)])=aI E++[V,.int .i64 z.cur.1,.int .i64 z.cur.2.1,.int .i64 z.cur.2.2,.int .i64 z.last]:=by simp[aI,Go.Am.VZ]
    rw[this,agy,alW];exact a3.mono (by rw[Z'];omega) fun j h1 h2=>by rw[Z9,if_neg (by omega)]
  ·rw[Z9,if_neg (fun e=>by rw[e,hj] at gK;cases gK;exact h2 rfl)];exact rQ j c t lo hi hj Yh h1
  ·rw[Z9,if_neg h3.symm,a4 j (by omega) (fun e=>h4 ⟨_,_,e⟩),k1 j h1 h2]
  ·rw[Rc] at hj;right;omega
theorem rK:∀(bs ds:List Nat),US bs ds->(∀d∈ds,d<Ym bs)/\1<=Ym bs
 |[],[],_=>⟨fun d h=>by simp at h,agB 1⟩
 |b::bs,d::ds,h=>by
  obtain⟨h1,h2⟩:=h;obtain⟨k1,k2⟩:=rK bs ds h2;have hb:1<=b:=by omega
  rw[Ym];refine⟨fun x hx=>?_,Nat.mul_pos hb k2⟩;rcases alL.1 hx with rfl|hx
  ·calc x<b:=h1
    _=b*1:=(ah1 b).symm
    _<=b*Ym bs:=Nat.mul_le_mul_left b k2
  ·calc x<Ym bs:=k1 x hx
    _=1*Ym bs:=(amk _).symm
    _<=b*Ym bs:=amt _ hb
 |[],d::ds,h=>by simp[US] at h
 |b::bs,[],h=>by simp[US] at h
theorem QV.pb {S:List Step}(h:Y0 S)(Ha:S.length<=8){m:Nat}(hm:2<=m/\m<=16)(hz:Xl S m<=512)(hL:(ZJ (S.map Step.cond)).length<=2^20){x:PN}(hx:QV S m x) :
  PB x/\(∀s∈x.Yy,0<=s/\s<=256)/\x.Yy.length=(ZJ (S.map Step.cond)).length:=by
 obtain⟨u,l,c,p,e⟩:=hx.Zd h;obtain⟨_,uc,us⟩:=u;obtain⟨k1,k2⟩:=rK _ _ us;have hT:1<=Vd S:=by omega
 have VY:Ym ((ZJ (S.map Step.cond)).map Wq)<=170:=by
  unfold Xl at hz;generalize Ym ((ZJ (S.map Step.cond)).map Wq)=P at *;have h1:P<=Vd S*P:=by calc P=1*P:=(amk P).symm
    _<=Vd S*P:=amt P hT
  have h2:3*(Vd S*P)<=(m+1)*(Vd S*P):=amt _ (by omega);omega
 have hs:∀s∈x.Yy,0<=s/\s<=170:=fun s hs=>by
  have h1:=p s hs;have h2:=k1 s.toNat (alN.2 ⟨s,hs,rfl⟩);omega
 have ZC:x.Yy≠[]:=fun e'=>by
  rw[e'] at e;exact sB h.rH (fun e2=>by have:=h.ne;rw[List.map_eq_nil_iff] at e2;rw[e2] at this;simp at this) (al6.1 e.symm)
 have ha:=c.a;have hk:=c.k;have hg:=c.g;have ht:=h.tm S[x.cur.1] (adm ha);have hw:=h.wi S[x.cur.1] (adm ha);rw[G3 ha] at hk;rw[D0 ha] at hg;refine⟨⟨fun n hn=>?_,ZC,by omega⟩,fun s h=>by have:=hs s h;omega,e⟩;simp only[alL] at hn;rcases hn with rfl|rfl|rfl|rfl|hn
 ·omega
 ·omega
 ·omega
 ·omega
 ·have:=hs n hn;omega
theorem rY {S:List Step}(h:Y0 S){m:Nat}{x:PN}(hx:QV S m x){y:Nat}(hy:y<m):QV S m (YG S x y).1:=by
 obtain⟨r,hr,rfl⟩:=hx;obtain⟨a,b,c⟩:=So h hr hy;exact⟨_,c,a⟩
def PL (S:List Step)(m:Nat):List PN:=Rd (fun x y=>(YG S x y).1) m (Xl S m+1) 0 [AO S]
theorem pI0 {S:List Step}(h:Y0 S){m:Nat}:Bj (fun x y=>(YG S x y).1) m (QV S m) 0 [AO S] :=
 ⟨by simp,fun x hx=>by rw[ake.1 hx];exact⟨_,(Sn h).2,(Sn (m:=m) h).1⟩,aic _,fun j hj=>by omega⟩
theorem pIn {S:List Step}(h:Y0 S){m:Nat}:∀x,QV S m x->∀y,y<m->QV S m (YG S x y).1:=fun x hx y hy=>rY h hx hy
theorem Kb {S:List Step}(h:Y0 S)(m:Nat):Bj (fun x y=>(YG S x y).1) m (QV S m) (PL S m).length (PL S m)/\(PL S m).length<=Xl S m/\∃R,PL S m=AO S::R:=by
 obtain⟨a,b,R,e⟩:=Sd (n:=Xl S m) (κ:=rI S m) (pIn h) (fun x=>CL h) (fun x y=>Hi h) (Xl S m+1) 0 [AO S] (pI0 h) (by omega);exact⟨a,b,R,e⟩
end Go.Am
