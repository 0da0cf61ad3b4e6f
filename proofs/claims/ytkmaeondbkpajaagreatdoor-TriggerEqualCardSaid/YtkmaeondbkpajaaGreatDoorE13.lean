/- A part of the proof. -/
import Derived.Test.YtkmaeondbkpajaaGreatDoorE12
set_option linter.all false
set_option maxHeartbeats 8000000
set_option maxRecDepth 100000
namespace Go.Am
open Go
variable [Z8]
variable {s:St}{t:TypeId}{v:AV}{cs:List AV}
def cA (k c:Nat):Vr U 164 (.agg (Yr k c))=true:=by
 have h1:U.Zd 164=some (.array 2 3):=It;have h2:U.Zd 3=some (.int .i64):=It;have h3:size U 3=some 1:=It;simp only[Vr,h1,h2,h3,Yr];rfl
def jO {m k:Nat}{ks:List Nat}(h:s.get m=some (.map (Ty k (λ_=>.bool true) ks 0) false))(c:Nat):WM U 229 (.map m) (.agg (Yr k c)) false s=some (.bool (decide (WR ks c<ks.length))):=by
 have hu:U.Zd 229=some (.map 164 4):=It;have hz:zero U 4=some (.bool false):=It;unfold WM;rw[hu];simp only[cA,if_true,h,Lo]
 cases decide (WR ks c<ks.length) with
 |true=>rfl
 |false=>simp only[cond_false,hz];rfl
def B8 {m k:Nat}{ks:List Nat}(h:s.get m=some (.map (Ty k (λ_=>.bool true) ks 0) false)){c:Nat}(hc:c∉ks):VZ U 229 (.map m) (.agg (Yr k c)) (.bool true) s=some (s.put m (.map (Ty k (λ_=>.bool true) (ks++[c]) 0) false)):=by
 have hu:U.Zd 229=some (.map 164 4):=It;have:=IA k (λ_=>.bool true) c ks 0 hc;unfold VZ;rw[hu];simp only[cA,if_true,h,this]
structure Yld (fn:AV)(k B0:Nat)(G:Type)(CI:G->St->Prop)(fp:G->Nat->Prop)(QO:Nat->Nat->Prop)(y:Nat->Nat->Bool)(QU:G->Nat->Nat->G->Prop):Prop where
 call:∀g c x s,QO c x->CI g s->Fr s->∃g' s',Kx U fn [.agg (Yr k c),.int .i64 (x:Int)] s=some (.bool (y c x),s')/\QU g c x g'/\CI g' s'/\(∀j,fp g' j->fp g j\/s.next<=j)/\(∀j,j<s.next->¬fp g j->s'.get j=s.get j)/\s.next<=s'.next/\Fr s'
 keep:∀g s s',CI g s->s.next<=s'.next->(∀j,j<s.next->(fp g j\/j<B0)->s'.get j=s.get j)->CI g s'
 lt:∀g s,CI g s->∀j,fp g j->j<s.next
def Jr (s:St)(N:Nat)(t:TypeId)(n:Nat)(cs:List AV)(v:AV):Prop:=∃b cap,v=.sl b 0 n cap 2/\(cap=none\/cap=some n)/\s.get b=some (.cells cs t false 0 0)/\cs.length=n*2/\N<=b/\b<s.next
def Jr.keep {s s':St}{N n:Nat}(h:Jr s N t n cs v)(hn:s.next<=s'.next)(hg:∀j,j<s.next->N<=j->s.get j=some (.cells cs t false 0 0)->s'.get j=s.get j):Jr s' N t n cs v:=by
 obtain⟨b,cap,h1,h2,h3,h4,h5,h6⟩:=h;exact⟨b,cap,h1,h2,by rw[hg b h6 h5 h3];exact h3,h4,h5,J⟩
def Jr.app {N n:Nat}(h:Jr s N t n cs v)(hN:N<=s.next)(x y:AV)(hx:Zu x=true)(hy:Zu y=true) :
  ∃s1,PF t 2 1 [x,y] v s=some (.sl s.next 0 (n+1) none 2,s1)/\s1.next=s.next+1/\Jr s1 N t (n+1) (cs++[x,y]) (.sl s.next 0 (n+1) none 2)/\(∀j,j<s.next->s.get j≠some (.cells cs t false 0 0)->s1.get j=s.get j)/\(Fr s->Fr s1):=by
 obtain⟨b,cap,rfl,h2,h3,h4,h5,h6⟩:=h;rcases h2 with rfl|rfl
 ·refine⟨(s.put b .gone).new (.cells (cs++[x,y]) t false 0 0),by rw[R_,h3,T9 h4 J (by simp[hx,hy])],rfl,⟨s.next,none,rfl,.inl rfl,by rw[Z5,Z_,Of rfl],by simp[h4];omega,hN,O0⟩,λj hj ZB=>?_,λhf=>(hf.put h6 _).new _⟩;have:b≠j:=by rintro rfl;exact ZB h3
  rw[Z5,Z_,O3 J,Z7,O3 this]
 ·refine⟨s.new (.cells (cs++[x,y]) t false 0 0),by rw[Rs h3 h4 J],rfl,⟨s.next,none,rfl,.inl rfl,by rw[Z5,Of rfl],by simp[h4];omega,hN,O0⟩,λj hj ZB=>?_,λhf=>hf.new _⟩;rw[Z5,O3 J]
def RT (k:Nat)(L:List Nat):List AV:=L.flatMap (Yr k)
def scs (L:List (Int×Int)):List AV:=L.flatMap λp=>[.int .i64 p.1,.int .i64 p.2]
def Lc:List Yb->List (Int×Int)
 |[]=>[]
 |_::l=>(-1,0)::l.map λt=>((t.2.1:Int),(t.2.2:Int))
def Xz (T:List Yb):List Nat:=T.map (·.1)
def Oz (v:AV)(j:Nat):Prop:=∃n cap,v=.sl j 0 n cap 2
def QK (b n j:Nat)(cap:Option Nat):Oz (.sl b 0 n cap 2) j<->b=j:=by
 constructor
 ·rintro⟨m,c,h⟩;cases h;rfl
 ·rintro rfl;exact⟨n,cap,rfl⟩
def Jr.lP {N n:Nat}(h:Jr s N t n cs v){j:Nat}(hj:Oz v j):N<=j/\j<s.next/\s.get j=some (.cells cs t false 0 0):=by
 obtain⟨b,cap,rfl,h2,h3,h4,h5,h6⟩:=h;rw[QK] at hj;subst hj;exact⟨h5,h6,h3⟩
def Jr.HQ {s s':St}{N n:Nat}(h:Jr s N t n cs v)(hn:s.next<=s'.next)(hg:∀j,j<s.next->Oz v j->s'.get j=s.get j):Jr s' N t n cs v:=by
 obtain⟨b,cap,rfl,h2,h3,h4,h5,h6⟩:=h;exact⟨b,cap,rfl,h2,by rw[hg b h6 ((QK _ _ _ _).2 rfl)];exact h3,h4,h5,J⟩
def Jr.akB {N n:Nat}(h:Jr s N t n cs v)(hN:N<=s.next)(x y:AV)(hx:Zu x=true)(hy:Zu y=true) :
  ∃s1,PF t 2 1 [x,y] v s=some (.sl s.next 0 (n+1) none 2,s1)/\s1.next=s.next+1/\Jr s1 N t (n+1) (cs++[x,y]) (.sl s.next 0 (n+1) none 2)/\(∀j,j<s.next->¬Oz v j->s1.get j=s.get j)/\(Fr s->Fr s1):=by
 obtain⟨b,cap,rfl,h2,h3,h4,h5,h6⟩:=h;rcases h2 with rfl|rfl
 ·refine⟨(s.put b .gone).new (.cells (cs++[x,y]) t false 0 0),by rw[R_,h3,T9 h4 J (by simp[hx,hy])],rfl,⟨s.next,none,rfl,.inl rfl,by rw[Z5,Z_,Of rfl],by simp[h4];omega,hN,O0⟩,λj hj ZB=>?_,λhf=>(hf.put h6 _).new _⟩;rw[QK] at ZB;rw[Z5,Z_,O3 J,Z7,O3 ZB]
 ·refine⟨s.new (.cells (cs++[x,y]) t false 0 0),by rw[Rs h3 h4 J],rfl,⟨s.next,none,rfl,.inl rfl,by rw[Z5,Of rfl],by simp[h4];omega,hN,O0⟩,λj hj ZB=>?_,λhf=>hf.new _⟩;rw[Z5,O3 J]
def Jr.WV {N n:Nat}(h:Jr s N t n cs v):Go.Am.WV v=n:=by
 obtain⟨b,cap,rfl,_⟩:=h;rfl
def vU {a b:Zv}(hb:b.ok)(VK:a.lines=b.lines){c x:Nat}(hc:c<(Zg a.fa b.fa).n)(hx:x<2^a.lines.toNat):Yr b.fa.n ((Zg a.fa b.fa).nx c x)=[.int .i64 ((a.fa.nx (c / b.fa.n) x:Nat):Int),.int .i64 ((b.fa.nx (c%b.fa.n) x:Nat):Int)]:=by
 have h:=hb.UU.lt (c%b.fa.n) x (Nat.mod_lt _ hb.pos) (by show x<2^b.lines.toNat;rw[<-VK];exact hx);show[AV.int .i64 (((a.fa.nx (c / b.fa.n) x*b.fa.n+b.fa.nx (c%b.fa.n) x) / b.fa.n:Nat):Int),AV.int .i64 (((a.fa.nx (c / b.fa.n) x*b.fa.n+b.fa.nx (c%b.fa.n) x)%b.fa.n:Nat):Int)]=_;rw[UW h,SU h]
inductive NZ {G:Type} (QU:G->Nat->Nat->G->Prop):G->List (Nat×Nat)->G->Prop
 |nil (g:G):NZ QU g [] g
 |snoc {g g1 g2:G} {l:List (Nat×Nat)} {c x:Nat}:NZ QU g l g1->QU g1 c x g2->NZ QU g (l++[(c,x)]) g2
structure DP (s:St)(N:Nat)(a b:Zv)(fpg:Nat->Prop)(A0 B0 mp pt:Nat)(T:List Yb)(pv sv:AV):Prop where
 gA:s.get A0=some (.cells [.int .i64 a.lines,ZU a.Xb (a.next.map ZF),ZU a.WG (a.ZW.map ZM)] 42 false 0 0)
 gB:s.get B0=some (.cells [.int .i64 b.lines,ZU b.Xb (b.next.map ZF),ZU b.WG (b.ZW.map ZM)] 42 false 0 0)
 gm:s.get mp=some (.map (Ty b.fa.n (λ_=>.bool true) (Xz T) 0) false)
 hp:Jr s N 164 T.length (RT b.fa.n (Xz T)) pv
 hs:Jr s N 231 T.length (scs (Lc T)) sv
 lt:A0<s.next/\B0<s.next/\mp<s.next/\pt<s.next/\N<=A0/\N<=B0/\N<=mp/\N<=pt
 fA:¬fpg A0/\¬fpg B0/\¬fpg mp/\¬fpg pt
 fp:∀j,Oz pv j->¬fpg j/\j≠pt
 fs:∀j,Oz sv j->¬fpg j
 np:A0≠pt/\B0≠pt/\mp≠pt
def DP.ne {N:Nat}{a b:Zv}{fpg:Nat->Prop}{A0 B0 mp pt:Nat}{T:List Yb}{pv sv:AV}(h:DP s N a b fpg A0 B0 mp pt T pv sv):(∀j,Oz pv j->j≠A0/\j≠B0/\j≠mp/\¬Oz sv j)/\(∀j,Oz sv j->j≠A0/\j≠B0/\j≠mp)/\A0≠mp/\B0≠mp:=by
 refine⟨λj hj=>?_,λj hj=>?_,?_,?_⟩
 ·have h1:=(h.hp.lP hj).2.2;refine⟨Xy h1 h.gA Mo,Xy h1 h.gB Mo,?_,λh2=>?_⟩
  ·rintro rfl;rw[h.gm] at h1;cases h1
  ·exact Xy h1 (h.hs.lP h2).2.2 Mo rfl
 ·have h1:=(h.hs.lP hj).2.2;refine⟨Xy h1 h.gA Mo,Xy h1 h.gB Mo,?_⟩;rintro rfl;rw[h.gm] at h1;cases h1
 ·rintro rfl;have:=h.gm.symm.trans h.gA;cases this
 ·rintro rfl;have:=h.gm.symm.trans h.gB;cases this
def DP.keep {s s':St}{N:Nat}{a b:Zv}{f f':Nat->Prop}{A0 B0 mp pt:Nat}{T:List Yb}{pv sv:AV}(h:DP s N a b f A0 B0 mp pt T pv sv)(hn:s.next<=s'.next)(hg:∀j,j<s.next->N<=j->¬f j->s'.get j=s.get j)(hf:∀j,f' j->f j\/s.next<=j):DP s' N a b f' A0 B0 mp pt T pv sv:=by
 obtain⟨gA,gB,gm,hp,hs,⟨l1,l2,l3,l4,l5,l6,l7,l8⟩,⟨f1,f2,f3,f4⟩,fp,fs,np⟩:=h;have nf:∀j,j<s.next->¬f j->¬f' j:=λj h1 h2 h3=>by rcases hf j h3 with h|h;exact h2 h;omega
 exact⟨(hg _ l1 l5 f1).trans gA,(hg _ l2 l6 f2).trans gB,(hg _ l3 l7 f3).trans gm,hp.HQ hn λj h1 h2=>hg j h1 (hp.lP h2).1 (fp j h2).1,hs.HQ hn λj h1 h2=>hg j h1 (hs.lP h2).1 (fs j h2),⟨J,J,J,J,l5,l6,l7,l8⟩,⟨nf _ l1 f1,nf _ l2 f2,nf _ l3 f3,nf _ l4 f4⟩,λj hj=>⟨nf j (hp.lP hj).2.1 (fp j hj).1,(fp j hj).2⟩,λj hj=>nf j (hs.lP hj).2.1 (fs j hj),np⟩
def oE (k:Nat)(L:List Nat)(c:Nat):RT k (L++[c])=RT k L++[.int .i64 ((c / k:Nat):Int),.int .i64 ((c%k:Nat):Int)]:=by simp[RT,Yr]
def acE (L:List (Int×Int))(p:Int×Int):scs (L++[p])=scs L++[.int .i64 p.1,.int .i64 p.2]:=by simp[scs]
def acF {T:List Yb}(h:0<T.length)(t:Yb):Lc (T++[t])=Lc T++[((t.2.1:Int),(t.2.2:Int))]:=by
 cases T with
 |nil=>simp at h
 |cons a l=>simp[Lc]
def Bq (T:List Yb)(t:Yb):Xz (T++[t])=Xz T++[t.1]:=by simp[Xz]
def Ti (T:List Yb):(Xz T).length=T.length:=by simp[Xz]
def Ad (c x:Nat):List (Nat×Nat):=(List.range x).map λz=>(c,z)
def jq (c x:Nat):Ad c (x+1)=Ad c x++[(c,x)]:=by simp[Ad,List.range_succ]
def DP.put {s s':St}{N:Nat}{a b:Zv}{f:Nat->Prop}{A0 B0 mp pt:Nat}{T:List Yb}{pv sv:AV}(h:DP s N a b f A0 B0 mp pt T pv sv)(hT:0<T.length){c i x pb sb:Nat}(hn:s.next<=s'.next)
  (hm:s'.get mp=some (.map (Ty b.fa.n (λ_=>.bool true) (Xz T++[c]) 0) false))
  (hp:Jr s' N 164 (T.length+1) (RT b.fa.n (Xz T)++[.int .i64 ((c / b.fa.n:Nat):Int),.int .i64 ((c%b.fa.n:Nat):Int)]) (.sl pb 0 (T.length+1) none 2))
  (hs:Jr s' N 231 (T.length+1) (scs (Lc T)++[.int .i64 (i:Int),.int .i64 (x:Int)]) (.sl sb 0 (T.length+1) none 2))
  (a8:s.next<=pb)(hsb:s.next<=sb)(hg:∀j,j<s.next->j≠mp->¬Oz pv j->¬Oz sv j->s'.get j=s.get j)(Mw:∀j,f j->j<s.next) :
  DP s' N a b f A0 B0 mp pt (T++[(c,i,x)]) (.sl pb 0 (T.length+1) none 2) (.sl sb 0 (T.length+1) none 2):=by
 obtain⟨n1,n2,n3,n4⟩:=h.ne;obtain⟨gA,gB,gm,iU,hs0,⟨l1,l2,l3,l4,l5,l6,l7,l8⟩,fA,fp,fs,np⟩:=h;refine⟨(hg _ l1 n3 (λh=>(n1 _ h).1 rfl) λh=>(n2 _ h).1 rfl).trans gA,(hg _ l2 n4 (λh=>(n1 _ h).2.1 rfl) λh=>(n2 _ h).2.1 rfl).trans gB,?_,?_,?_,⟨J,J,J,J,l5,l6,l7,l8⟩,fA,λj hj=>?_,λj hj=>?_,np⟩
 ·rw[Bq];exact hm
 ·rw[Bq,oE,ann,aqh];exact hp
 ·rw[acF hT,acE,ann,aqh];exact hs
 ·rw[QK] at hj;subst hj;exact⟨λh=>by have:=Mw _ h;omega,J⟩
 ·rw[QK] at hj;subst hj;exact λh=>by have:=Mw _ h;omega
def ai7 {β:Type}{fin:Fl->β}{ks:List K}{ZC:β->Prop}{a b:Zv}(ha:a.ok)(hb:b.ok)(VK:a.lines=b.lines){fn:AV}{N:Nat}{G:Type}{CI:G->St->Prop}{fp:G->Nat->Prop}{QO:Nat->Nat->Prop}{y:Nat->Nat->Bool}{QU:G->Nat->Nat->G->Prop}
  (Y:Yld fn b.fa.n N G CI fp QO y QU){c i:Nat}(hc:c<(Zg a.fa b.fa).n)(Lv:∀x,x<2^a.lines.toNat->QO c x){T:List Yb}(hT:QA (Zg a.fa b.fa) T)(hi:i<T.length){A0 B0 mp pt:Nat}{pv sv:AV}{g:G}{vr:List Yb×Option Nat}
  (hvr:X6 ((Zg a.fa b.fa).nx c) (y c) i (2^a.lines.toNat) 0 T=vr)
  {e:Env}(g2:e.get 2=fn)(g3:e.get 3=.ptr A0 0)(g4:e.get 4=.ptr B0 0)(g8:e.get 8=.map mp)(g9:e.get 9=pv)(Cj:e.get 10=sv)(yU:e.get 13=.int .i64 (i:Nat))(g14:e.get 14=.ptr pt 0)(mo:e.get 36=.int .i64 ((2^a.lines.toNat:Nat):Int))(xU:e.get 37=.int .i64 (0:Nat))
  (V:DP s N a b (fp g) A0 B0 mp pt T pv sv)(gpt:s.get pt=some (.cells (Yr b.fa.n c) 164 false 0 0))(AK:CI g s)(fr:Fr s)(hN:N<=s.next)
  (hk:vr.2=none->∀e' s' SD K9 g',(∀t:Nat,t<15->t≠9->t≠10->e'.get t=e.get t)->e'.get 9=SD->e'.get 10=K9->DP s' N a b (fp g') A0 B0 mp pt vr.1 SD K9->NZ QU g (Ad c (2^a.lines.toNat)) g'->CI g' s'->(∀j,j<N->¬fp g j->s'.get j=s.get j)->s.next<=s'.next->(∀j,fp g' j->fp g j\/N<=j)->Fr s'->ZC (goN U fin ks e' s'))
  (hx:∀z,vr.2=some z->∀e' s' SD K9 w g',(∀t:Nat,t<15->t≠9->t≠10->t≠11->t≠12->e'.get t=e.get t)->e'.get 9=SD->e'.get 10=K9->e'.get 11=.int .i64 (i:Nat)->e'.get 12=.sl w 0 1 (some 1) 1->s'.get w=some (.cells (Zz [z]) 3 false 0 0)->s.next<=w->w<s'.next->¬fp g' w->DP s' N a b (fp g') A0 B0 mp pt vr.1 SD K9->(∃l,NZ QU g l g')->CI g' s'->(∀j,j<N->¬fp g j->s'.get j=s.get j)->s.next<=s'.next->(∀j,fp g' j->fp g j\/N<=j)->Fr s'->ZC (gH U fin ks 0 e' s')) :
  ZC (SJ U fin (.bk 2::ks) MB e s):=by
 have hA:=J9 ha.UU hb.UU (by show 2^a.lines.toNat=2^b.lines.toNat;rw[VK]);have iV:c / b.fa.n<a.next.length:=Nat.div_lt_of_lt_mul (by rw[Nat.mul_comm];exact hc);have Jg:c%b.fa.n<b.next.length:=Nat.mod_lt _ hb.pos;have Hn:=ha.m16;have hnn:(Zg a.fa b.fa).n<=262144:=Nat.mul_le_mul ha.few hb.few;refine YT (σ:=Nat) (λx=>2^a.lines.toNat-x) (λx e' s'=>x<=2^a.lines.toNat/\(∀t:Nat,t<15\/t=36->t≠9->t≠10->e'.get t=e.get t)/\e'.get 37=.int .i64 (x:Nat) /\
   (∀j,j<N->¬fp g j->s'.get j=s.get j)/\s.next<=s'.next/\Fr s'/\s'.get pt=some (.cells (Yr b.fa.n c) 164 false 0 0) /\
   ∃T' SD K9 g',X6 ((Zg a.fa b.fa).nx c) (y c) i (2^a.lines.toNat-x) x T'=vr/\QA (Zg a.fa b.fa) T'/\i<T'.length/\e'.get 9=SD/\e'.get 10=K9/\DP s' N a b (fp g') A0 B0 mp pt T' SD K9/\CI g' s'/\NZ QU g (Ad c x) g'/\(∀j,fp g' j->fp g j\/N<=j)) 0 ?_
  ⟨apW _,λ_ _ _ _=>rfl,xU,λ_ _ _=>rfl,api _,fr,gpt,T,pv,sv,g,by rw[Nat.sub_zero];exact hvr,hT,hi,g9,Cj,V,AK,.nil g,λj hj=>.inl hj⟩
 rintro Lp x e' s' ⟨tP,hold,fN,hs,Vq,Wk,qpt,T',SD,K9,g1,Yf,pK,QD,q9,HX,V',kZ,W_,iQ⟩ IH;have q2:=(hold 2 J J J).trans g2;have q3:=(hold 3 J J J).trans g3;have q4:=(hold 4 J J J).trans g4;have q8:=(hold 8 J J J).trans g8;have La:=(hold 13 J J J).trans yU;have q14:=(hold 14 J J J).trans g14;have q36:=(hold 36 J J J).trans mo;have hTl:=pK.len;unfold Yr at qpt;by_cases hd:x<2^a.lines.toNat
 ·have hw:=ZI hd J;obtain⟨rV,s1,VY,aoV,acG,akA,RX,hn1,tf⟩:=Y.call g1 c x s' (Lv x hd) kZ Wk;unfold Yr at VY;have V1:DP s1 N a b (fp rV) A0 B0 mp pt T' SD K9:=V'.keep hn1 (λj h1 _ h3=>RX j h1 h3) akA;have agc:NZ QU g (Ad c (x+1)) rV:=by rw[jq];exact .snoc W_ aoV
  have Fj:∀j,fp rV j->fp g j\/N<=j:=λj hj=>by
   rcases akA j hj with h|h
   ·exact iQ j h
   ·exact .inr J
  have TB:∀j,j<N->¬fp g j->s1.get j=s.get j:=λj h1 h2=>(RX j J λh=>by rcases iQ j h with h|h;exact h2 h;omega).trans (hs j h1 h2)
  have aL:s1.get pt=some (.cells [.int .i64 ((c / b.fa.n:Nat):Int),.int .i64 ((c%b.fa.n:Nat):Int)] 164 false 0 0):=(RX pt V'.lt.2.2.2.1 V'.fA.2.2.2).trans qpt;have abu:=Y.lt rV s1 acG;rw[show 2^a.lines.toNat-x=(2^a.lines.toNat-(x+1))+1 by omega,X6] at Yf;have Jv:∀t:Nat,t<15\/t=36->t≠9->t≠10->(9=t)=False/\(10=t)=False/\(15=t)=False/\(16=t)=False/\∀k:Nat,37<=k->(k=t)=False:=λt h1 h2 h3=>⟨F_,F_,F_,F_,λk hk=>F_⟩
  cases hy:y c x with
  |false =>
   rw[hy,cond_false] at Yf;rw[hy] at VY;subst Yf;simp only[go_sem,MB,q2,La,q14,q36,fN,qpt,Z9,hd,VY];refine hx x rfl _ _ SD K9 s1.next rV (λt h1 h2 h3 h4 h5=>?_) ?_ ?_ ?_ ?_ ?_ J ?_ (λh=>by have:=abu _ h;omega) ?_ ⟨_,agc⟩ ?_ (λj h1 h2=>?_) ?_ Fj ?_
   ·obtain⟨n9,o9,zp,o6,n37⟩:=Jv t (.inl h1) h2 h3;simp only[go_sem,zp,n37,eq_false h4.symm,eq_false h5.symm];exact hold t (.inl h1) h2 h3
   ·simp only[go_sem,q9]
   ·simp only[go_sem,HX]
   ·simp only[go_sem]
   ·simp only[go_sem]
   ·rw[Z5,Of rfl];rfl
   ·rw[Z'];omega
   ·exact V1.keep O0 (λj h1 _ _=>by rw[Z5,O3 J]) λj hj=>.inl hj
   ·exact Y.keep rV s1 _ acG O0 λj h1 _=>by rw[Z5,O3 J]
   ·rw[Z5,O3 J];exact TB j h1 h2
   ·rw[Z'];omega
   ·exact tf.new _
  |true =>
   rw[hy,cond_true] at Yf;rw[hy] at VY;have lt3:(Zg a.fa b.fa).nx c x<(Zg a.fa b.fa).n:=hA.lt c x hc hd;have hpn:=vU hb VK hc hd;have n1:=ha.mM iV hd;have n2:=hb.mM Jg (by rw[<-VK];exact hd);have r1:=Ul (nl:=a.Xb) iV;have r2:=Ul (nl:=b.Xb) Jg;have hgA:=V1.gA;have hgB:=V1.gB;have hgm:=V1.gm;obtain⟨l1,l2,l3,l4,l5,l6,l7,l8⟩:=V1.lt;have lk:=λ(S:St) (h:S.get mp=some (.map (Ty b.fa.n (λ_=>.bool true) (Xz T') 0) false))=>jO h ((Zg a.fa b.fa).nx c x)
   have up:=λ(S:St) (h:S.get mp=some (.map (Ty b.fa.n (λ_=>.bool true) (Xz T') 0) false))=>B8 h (c:=(Zg a.fa b.fa).nx c x)
   rw[hpn] at lk up;generalize hcn:(Zg a.fa b.fa).nx c x=cn at *;have Ps:=tf.at;have f1:∀q,(s1.next+q=A0)=False:=λq=>F_
   have f2:∀q,(s1.next+q=B0)=False:=λq=>F_
   have f3:∀q,(s1.next+q=mp)=False:=λq=>F_
   have f4:∀q,(s1.next+q=pt)=False:=λq=>F_
   have f5:∀q,(mp=s1.next+q)=False:=λq=>F_
   by_cases TD:cn∈T'.map (·.1)
   ·have agd:WR (Xz T') cn<(Xz T').length:=(QW _ _).2 TD;rw[decide_eq_true TD,cond_true] at Yf;rw[decide_eq_true agd] at lk;simp only[go_sem,MB,q2,q3,q4,q8,q14,q36,fN,qpt,Z9,hd,VY,hgA,hgB,hgm,aL,r1,r2,n1,n2,hw,f3,Ps,lk];have k4:∀j,j<s1.next->(((s1.upto (s1.next+21)).put (s1.next+19) (.cells [.int .i64 0,.int .i64 0] 164 false 0 0)).put (s1.next+19) (.cells [.int .i64 ((a.fa.nx (c / b.fa.n) x:Nat):Int),.int .i64 ((b.fa.nx (c%b.fa.n) x:Nat):Int)] 164 false 0 0)).get j=s1.get j:=λj hj=>by
     rw[Z7,O3 J,Z7,O3 J,ZR]
    refine IH (x+1) _ _ J ⟨J,λt h1 h2 h3=>?_,?_,λj h1 h2=>by rw[k4 j J];exact TB j h1 h2,O0,?_,by rw[k4 pt l4];exact aL,T',SD,K9,rV,?_,pK,QD,?_,?_,V1.keep O0 (λj h1 _ _=>k4 j h1) (λj hj=>.inl hj),Y.keep rV s1 _ acG O0 (λj h1 _=>k4 j h1),agc,Fj⟩
    ·obtain⟨n9,o9,zp,o6,n37⟩:=Jv t h1 h2 h3;simp only[go_sem,zp,o6,n37];exact hold t h1 h2 h3
    ·simp only[go_sem]
    ·repeat first|exact tf|apply Fr.new|apply Fr.put|apply Fr.upto
     all_goals try simp only[Z_,Z6]
     all_goals omega
    ·exact Yf
    ·simp only[go_sem,q9]
    ·simp only[go_sem,HX]
   ·have agd:¬WR (Xz T') cn<(Xz T').length:=λh=>TD ((QW _ _).1 h)
    rw[decide_eq_false TD,cond_false] at Yf;rw[decide_eq_false agd] at lk;have up:=λS h=>up S h TD
    have hlP:=V1.hp.WV;have hlS:=V1.hs.WV;have TV:(T'.length+1)*16<=1099511627776:=J;have U5:T'.length+1<=1099511627776:=J;simp only[go_sem,MB,q2,q3,q4,q8,q9,q14,q36,fN,qpt,Z9,hd,VY,hgA,hgB,hgm,aL,r1,r2,n1,n2,f3,f5,Ps,lk,up,ap3,aqP,Zx,Nat.reducePow,hlP,TV,U5];obtain⟨S,hS⟩:∃S,S=((((s1.upto (s1.next+21)).put (s1.next+19) (.cells [.int .i64 0,.int .i64 0] 164 false 0 0)).put (s1.next+19) (.cells [.int .i64 ((a.fa.nx (c / b.fa.n) x:Nat):Int),.int .i64 ((b.fa.nx (c%b.fa.n) x:Nat):Int)] 164 false 0 0)).put mp (.map (Ty b.fa.n (λ_=>.bool true) (Xz T'++[cn]) 0) false)).new (.cells [.int .i64 ((a.fa.nx (c / b.fa.n) x:Nat):Int),.int .i64 ((b.fa.nx (c%b.fa.n) x:Nat):Int)] 164 false 0 0):=⟨_,rfl⟩;rw[<-hS];have DX:S.next=s1.next+22:=by rw[hS];simp only[Z_,Z',Z6]
    have kS:∀j,j<s1.next->j≠mp->S.get j=s1.get j:=λj h1 h2=>by rw[hS,Z5,Z_,Z_,Z_,Z6,O3 J,Z7,O3 h2.symm,Z7,O3 J,Z7,O3 J,ZR]
    have kSm:S.get mp=some (.map (Ty b.fa.n (λ_=>.bool true) (Xz T'++[cn]) 0) false):=by rw[hS,Z5,Z_,Z_,Z_,Z6,O3 J,Z7,Of rfl]
    have Jh:Fr S:=by
     rw[hS]
     repeat first|exact tf|apply Fr.new|apply Fr.put|apply Fr.upto
     all_goals try simp only[Z_,Z6]
     all_goals omega
    obtain⟨m1,m2,m3,m4⟩:=V1.ne;have P1:Jr S N 164 T'.length (RT b.fa.n (Xz T')) SD:=V1.hp.HQ J λj h1 h2=>kS j h1 (m1 j h2).2.2.1
    obtain⟨s4,d1,d2,d3,d4,d5⟩:=P1.akB J (.int .i64 ((a.fa.nx (c / b.fa.n) x:Nat):Int)) (.int .i64 ((b.fa.nx (c%b.fa.n) x:Nat):Int)) rfl rfl;rw[d1];simp only[go_sem,HX,La,aqP,Zx,Nat.reducePow,hlS,TV,U5];have kQ:∀j,j<s1.next->j≠mp->¬Oz SD j->(s4.new (.cells [.int .i64 (i:Int),.int .i64 (x:Int)] 231 false 0 0)).get j=s1.get j:=λj h1 h2 h3=>by rw[Z5,O3 J,d4 j J h3,kS j h1 h2]
    have P2:Jr (s4.new (.cells [.int .i64 (i:Int),.int .i64 (x:Int)] 231 false 0 0)) N 231 T'.length (scs (Lc T')) K9:=V1.hs.HQ O0 λj h1 h2=>kQ j h1 (m2 j h2).2.2 λh=>(m1 j h).2.2.2 h2
    obtain⟨s6,b1,b2,b3,b4,b5⟩:=P2.akB O0 (.int .i64 (i:Int)) (.int .i64 (x:Int)) rfl rfl;rw[b1];simp only[go_sem,fN,hw];rw[Z'] at b2 b3 b4;have k6:∀j,j<s1.next->j≠mp->¬Oz SD j->¬Oz K9 j->s6.get j=s1.get j:=λj h1 h2 h3 h4=>by rw[b4 j J h4,kQ j h1 h2 h3]
    have hT2:0<T'.length:=J;have nfp:∀j,fp rV j\/j<N->j<s1.next->j≠mp/\¬Oz SD j/\¬Oz K9 j:=λj hj hl=>by
     rcases hj with hj|hj
     ·exact⟨λe=>V1.fA.2.2.1 (e ▸ hj),λh=>(V1.fp j h).1 hj,λh=>V1.fs j h hj⟩
     ·exact⟨J,λh=>by have:=(V1.hp.lP h).1;omega,λh=>by have:=(V1.hs.lP h).1;omega⟩
    refine IH (x+1) _ _ J ⟨J,λt h1 h2 h3=>?_,?_,λj h1 h2=>?_,J,b5 ((d5 Jh).new _),?_,T'++[(cn,i,x)],.sl S.next 0 (T'.length+1) none 2,.sl (s4.next+1) 0 (T'.length+1) none 2,rV,Yf,pK.put lt3 QD hd TD,by rw[ann];omega,?_,?_,?_,Y.keep rV s1 _ acG J (λj h1 h2=>?_),agc,Fj⟩
    ·obtain⟨n9,o9,zp,o6,n37⟩:=Jv t h1 h2 h3;simp only[go_sem,n9,o9,zp,o6,n37];exact hold t h1 h2 h3
    ·simp only[go_sem]
    ·obtain⟨a1,a2,a3⟩:=nfp j (.inr h1) J;rw[k6 j J a1 a2 a3];exact TB j h1 h2
    ·rw[k6 pt l4 (λe=>V1.np.2.2 e.symm) (λh=>(V1.fp pt h).2 rfl) λh=>Xy aL (V1.hs.lP h).2.2 Mo rfl];exact aL
    ·simp only[go_sem]
    ·simp only[go_sem]
    ·have hpc:Yr b.fa.n cn=[.int .i64 ((cn / b.fa.n:Nat):Int),.int .i64 ((cn%b.fa.n:Nat):Int)]:=rfl;rw[hpn] at hpc;rw[hpc] at d3;refine V1.put hT2 J ?_ (d3.HQ J λj h1 h2=>?_) b3 J J k6 abu
     ·rw[b4 mp J (λh=>(m2 mp h).2.2 rfl),Z5,O3 J,d4 mp J λh=>(m1 mp h).2.2.1 rfl];exact kSm
     ·rw[QK] at h2;subst h2;rw[b4 _ J λh=>by have:=(V1.hs.lP h).2.1;omega,Z5,O3 J]
    ·obtain⟨a1,a2,a3⟩:=nfp j h2 h1;exact k6 j h1 a1 a2 a3
 ·have hxe:x=2^a.lines.toNat:=J;subst hxe;rw[Nat.sub_self,X6] at Yf;subst Yf;simp only[go_sem,MB,q36,fN,Z9,ap5];refine hk rfl _ _ SD K9 g1 (λt h1 h2 h3=>?_) ?_ ?_ V' W_ kZ hs Vq iQ Wk
  ·have ZB:∀k:Nat,37<=k->(k=t)=False:=λk hk=>F_
   simp only[go_sem,ZB];exact hold t (.inl h1) h2 h3
  ·simp only[go_sem,q9]
  ·simp only[go_sem,HX]
def vQ {A:Fa}(hA:A.ok):(Yw A λ_ _=>true).2=none:=by
 have h:=Vn hA λ_ _=>true
 cases e:(Yw A λ_ _=>true).2 with
 |none=>rfl
 |some z =>
  obtain⟨k,x⟩:=z;obtain⟨_,_,⟨t,_,h2⟩,_⟩:=h.stop k x e
  cases h2
def Sp (a b:Zv):List Nat:=Xz (Yw (Zg a.fa b.fa) λ_ _=>true).1
structure oh (a b:Zv)(T:List Nat):Prop where
 pos:0<T.length
 nd:T.Nodup
 lt:∀c∈T,c<(Zg a.fa b.fa).n
 cl:∀c∈T,∀x,x<2^a.lines.toNat->(Zg a.fa b.fa).nx c x∈T
 hd:T[0]? = some 0
def PX {a b:Zv}(ha:a.ok)(hb:b.ok)(VK:a.lines=b.lines):(Zg a.fa b.fa).ok:=J9 ha.UU hb.UU (by show 2^a.lines.toNat=2^b.lines.toNat;rw[VK])
def rA {a b:Zv}(ha:a.ok)(hb:b.ok)(VK:a.lines=b.lines){y:Nat->Nat->Bool}(hn:(Yw (Zg a.fa b.fa) y).2=none):oh a b (Xz (Yw (Zg a.fa b.fa) y).1):=by
 have h:=Vn (PX ha hb VK) y;refine⟨by rw[Ti];exact h.inv.pos,h.inv.nd,λc hc=>?_,λc hc x hx=>?_,?_⟩
 ·obtain⟨t,ht,rfl⟩:=ap0.1 hc;exact h.inv.lt t ht
 ·obtain⟨t,ht,rfl⟩:=ap0.1 hc;obtain⟨k,hk,e⟩:=aqd.1 ht;exact (h.go hn k t (apW _) (by rw[aaa hk,e]) x hx).2
 ·obtain⟨R,hR⟩:=h.pre;rw[hR];rfl
def Gb {a b:Zv}(ha:a.ok)(hb:b.ok)(VK:a.lines=b.lines):oh a b (Sp a b):=rA ha hb VK (vQ (PX ha hb VK))
def oh.len {a b:Zv}{T:List Nat}(h:oh a b T):T.length<=a.fa.n*b.fa.n:=Wj (κ:=id) (by rw[List.map_id];exact h.nd) h.lt
def Oy (φ:Nat->Nat)(T:List Yb):List Yb:=T.map λt=>(φ t.1,t.2.1,t.2.2)
def Ey {nP nQ:Nat->Nat}{yP yQ:Nat->Bool}{φ:Nat->Nat}{n:Nat}(hinj:∀u v,u<n->v<n->φ u=φ v->u=v)(i:Nat):∀(r x:Nat) (T:List Yb),(∀t∈T,t.1<n)->(∀z,x<=z->z<x+r->nP z<n/\nQ z=φ (nP z)/\yQ z=yP z) ->
  X6 nQ yQ i r x (Oy φ T)=(Oy φ (X6 nP yP i r x T).1,(X6 nP yP i r x T).2)
 |0,x,T,_,_=>rfl
 |r+1,x,T,hT,h=>by
  obtain⟨h1,h2,h3⟩:=h x (api _) J;have afN:(nQ x∈(Oy φ T).map (·.1))<->nP x∈T.map (·.1):=by
   simp only[Oy,aqY,ap0,Function.comp,h2]
   constructor
   ·rintro⟨t,ht,e⟩;exact⟨t,ht,hinj _ _ (hT t ht) h1 e⟩
   ·rintro⟨t,ht,e⟩;exact⟨t,ht,by rw[e]⟩
  have anV:decide (nQ x∈(Oy φ T).map (·.1))=decide (nP x∈T.map (·.1)):=by simp only[afN]
  rw[X6,X6,h3,anV]
  cases yP x with
  |false=>rfl
  |true =>
   simp only[cond_true];have e:(bif decide (nP x∈T.map (·.1)) then Oy φ T else Oy φ T++[(nQ x,i,x)])=Oy φ (bif decide (nP x∈T.map (·.1)) then T else T++[(nP x,i,x)]):=by
    cases decide (nP x∈T.map (·.1)) with
    |true=>rfl
    |false=>simp[Oy,h2]
   rw[e];refine Ey hinj i r (x+1) _ (λt ht=>?_) λz ug iZ=>h z J J
   cases hd:decide (nP x∈T.map (·.1)) with
   |true=>rw[hd] at ht;exact hT t ht
   |false =>
    rw[hd,cond_false] at ht;rcases aqm.1 ht with ht|ht
    ·exact hT t ht
    ·rw[apY.1 ht];exact h1
def vP {A Q:Fa}(hA:A.ok){y yQ:Nat->Nat->Bool}{φ:Nat->Nat}(hinj:∀u v,u<A.n->v<A.n->φ u=φ v->u=v)(hm:Q.m=A.m)(h:∀s x,s<A.n->x<A.m->Q.nx (φ s) x=φ (A.nx s x)/\yQ (φ s) x=y s x) :
  ∀(f i:Nat) (T:List Yb),QA A T->i<=T.length->Sx Q yQ f i (Oy φ T)=(Oy φ (Sx A y f i T).1,(Sx A y f i T).2)
 |0,i,T,_,_=>rfl
 |f+1,i,T,hT,hi=>by
  rw[Sx,Sx];have e:(Oy φ T)[i]? = (T[i]?).map λt=>(φ t.1,t.2.1,t.2.2):=by simp[Oy]
  rw[e]
  cases ht:T[i]? with
  |none=>rfl
  |some t =>
   simp only[aqG];have DR:=(apX.1 ht).1;have o4:=hT.lt t (aqn ht);rw[hm,Ey (n:=A.n) (φ:=φ) (nP:=A.nx t.1) (yP:=y t.1) hinj i A.m 0 T hT.lt λz _ hz=>⟨hA.lt _ _ o4 J,(h _ _ o4 J).1,(h _ _ o4 J).2⟩];obtain⟨⟨i1,R,hR⟩,_,_⟩:=SM hA o4 (y t.1) A.m 0 (T:=T) (i:=i) J hT DR;generalize X6 (A.nx t.1) (y t.1) i A.m 0 T=v at *;obtain⟨T1,o⟩:=v
   cases o with
   |some x=>rfl
   |none =>
    simp only at i1 hR;exact vP hA hinj hm h f (i+1) T1 i1 (by rw[hR];simp;omega)
def BD {A:Fa}(hA:A.ok)(y:Nat->Nat->Bool):∀(f f' i:Nat) (T:List Yb),QA A T->i<=T.length->A.n+1<=f+i->A.n+1<=f'+i->Sx A y f i T=Sx A y f' i T
 |0,f',i,T,hT,hi,hf,EL=>by have:=hT.len;omega
 |f+1,0,i,T,hT,hi,hf,EL=>by have:=hT.len;omega
 |f+1,f'+1,i,T,hT,hi,hf,EL=>by
  rw[Sx,Sx]
  cases ht:T[i]? with
  |none=>rfl
  |some t =>
   simp only;have DR:=(apX.1 ht).1;have o4:=hT.lt t (aqn ht);obtain⟨⟨i1,R,hR⟩,_,_⟩:=SM hA o4 (y t.1) A.m 0 (T:=T) (i:=i) J hT DR;generalize X6 (A.nx t.1) (y t.1) i A.m 0 T=v at *;obtain⟨T1,o⟩:=v
   cases o with
   |some x=>rfl
   |none =>
    simp only at i1 hR;exact BD hA y f f' (i+1) T1 i1 (by rw[hR];simp;omega) J J
def r8 {A Q:Fa}(hA:A.ok){y yQ:Nat->Nat->Bool}{φ:Nat->Nat}(hinj:∀u v,u<A.n->v<A.n->φ u=φ v->u=v)(hm:Q.m=A.m)(hn:A.n<=Q.n)(h0:φ 0=0)(h:∀s x,s<A.n->x<A.m->Q.nx (φ s) x=φ (A.nx s x)/\yQ (φ s) x=y s x) :
  Yw Q yQ=(Oy φ (Yw A y).1,(Yw A y).2):=by
 have e:=vP hA hinj hm h (Q.n+1) 0 [(0,0,0)] (ox hA) No;rw[BD hA y (Q.n+1) (A.n+1) 0 _ (ox hA) No J J] at e;rw[Yw,Yw,<-e];simp[Oy,h0]
end Go.Am
