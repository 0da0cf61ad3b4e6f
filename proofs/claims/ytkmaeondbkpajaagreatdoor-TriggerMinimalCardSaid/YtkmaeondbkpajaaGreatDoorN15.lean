/- A part of the proof of a statement of this seat: the machine on which the program is read, and what it computes; for every input. -/
import Derived.Test.YtkmaeondbkpajaaGreatDoorN14
set_option linter.all false
namespace Go.Am
open Go
variable [Z3]
set_option maxRecDepth 100000
set_option maxHeartbeats 8000000
theorem ua (k c:Nat):WL U 164 (.agg (Zc k c))=true:=by
 have h1:U.Zt 164=some (.array 2 3):=by kernel_rfl
 have h2:U.Zt 3=some (.int .i64):=by kernel_rfl
 have h3:size U 3=some 1:=by kernel_rfl
 simp only[WL,h1,h2,h3,Zc];rfl
theorem yw {s:St}{m k:Nat}{ks:List Nat}(h:s.get m=some (.map (VA k (fun _=>.bool true) ks 0) false))(c:Nat):WI U 229 (.map m) (.agg (Zc k c)) false s=some (.bool (decide (Ya ks c<ks.length))):=by
 have hu:U.Zt 229=some (.map 164 4):=by kernel_rfl
 have hz:zero U 4=some (.bool false):=by kernel_rfl
 unfold WI;rw[hu];simp only[ua,if_true,h,PA]
 cases decide (Ya ks c<ks.length) with
 |true=>rfl
 |false=>simp only[cond_false,hz];rfl
theorem Iw {s:St}{m k:Nat}{ks:List Nat}(h:s.get m=some (.map (VA k (fun _=>.bool true) ks 0) false)){c:Nat}(hc:c∉ks):Xm U 229 (.map m) (.agg (Zc k c)) (.bool true) s=some (s.put m (.map (VA k (fun _=>.bool true) (ks++[c]) 0) false)):=by
 have hu:U.Zt 229=some (.map 164 4):=by kernel_rfl
 have:=MU k (fun _=>.bool true) c ks 0 hc;unfold Xm;rw[hu];simp only[ua,if_true,h,this]
structure dD (fn:AV)(k B0:Nat)(G:Type)(CI:G->St->Prop)(fp:G->Nat->Prop)(Tv:Nat->Nat->Prop)(y:Nat->Nat->Bool)(TA:G->Nat->Nat->G->Prop):Prop where
 call:∀g c x s,Tv c x->CI g s->Fr s->∃g' s',G4 U fn [.agg (Zc k c),.int .i64 (x:Int)] s=some (.bool (y c x),s')/\TA g c x g'/\CI g' s'/\(∀j,fp g' j->fp g j\/s.next<=j)/\(∀j,j<s.next->¬fp g j->s'.get j=s.get j)/\s.next<=s'.next/\Fr s'
 keep:∀g s s',CI g s->s.next<=s'.next->(∀j,j<s.next->(fp g j\/j<B0)->s'.get j=s.get j)->CI g s'
 lt:∀g s,CI g s->∀j,fp g j->j<s.next
def Nx (s:St)(N:Nat)(t:TypeId)(n:Nat)(cs:List AV)(v:AV):Prop:=∃b cap,v=.sl b 0 n cap 2/\(cap=none\/cap=some n)/\s.get b=some (.cells cs t false 0 0)/\cs.length=n*2/\N<=b/\b<s.next
theorem Nx.keep {s s':St}{N n:Nat}{t:TypeId}{cs:List AV}{v:AV}(h:Nx s N t n cs v)(hn:s.next<=s'.next)(hg:∀j,j<s.next->N<=j->s.get j=some (.cells cs t false 0 0)->s'.get j=s.get j):Nx s' N t n cs v:=by
 obtain⟨b,cap,h1,h2,h3,h4,h5,h6⟩:=h;exact⟨b,cap,h1,h2,by rw[hg b h6 h5 h3];exact h3,h4,h5,by omega⟩
theorem Nx.app {s:St}{N n:Nat}{t:TypeId}{cs:List AV}{v:AV}(h:Nx s N t n cs v)(hN:N<=s.next)(x y:AV)(hx:Zw x=true)(hy:Zw y=true) :
  ∃s1,SG t 2 1 [x,y] v s=some (.sl s.next 0 (n+1) none 2,s1)/\s1.next=s.next+1/\Nx s1 N t (n+1) (cs++[x,y]) (.sl s.next 0 (n+1) none 2)/\(∀j,j<s.next->s.get j≠some (.cells cs t false 0 0)->s1.get j=s.get j)/\(Fr s->Fr s1):=by
 obtain⟨b,cap,rfl,h2,h3,h4,h5,h6⟩:=h;rcases h2 with rfl|rfl
 ·refine⟨(s.put b .gone).new (.cells (cs++[x,y]) t false 0 0),by rw[Uq,h3,Wm h4 (by omega) (by simp[hx,hy])],rfl,⟨s.next,none,rfl,.inl rfl,by rw[ZZ,Z9,if_pos rfl],by simp[h4];omega,hN,by rw[Z',Z9];omega⟩,fun j hj ZQ=>?_,fun hf=>(hf.put h6 _).new _⟩;have:b≠j:=by rintro rfl;exact ZQ h3
  rw[ZZ,Z9,if_neg (by omega),Z7,if_neg this]
 ·refine⟨s.new (.cells (cs++[x,y]) t false 0 0),by rw[SE h3 h4 (by omega)],rfl,⟨s.next,none,rfl,.inl rfl,by rw[ZZ,if_pos rfl],by simp[h4];omega,hN,by rw[Z'];omega⟩,fun j hj ZQ=>?_,fun hf=>hf.new _⟩;rw[ZZ,if_neg (by omega)]
def WT (k:Nat)(L:List Nat):List AV:=L.flatMap (Zc k)
def sc (L:List (Int×Int)):List AV:=L.flatMap fun p=>[.int .i64 p.1,.int .i64 p.2]
def zJ:List Xs->List (Int×Int)
 |[]=>[]
 |_::l=>(-1,0)::l.map fun t=>((t.2.1:Int),(t.2.2:Int))
def Yt (T:List Xs):List Nat:=T.map (·.1)
def RN (v:AV)(j:Nat):Prop:=∃n cap,v=.sl j 0 n cap 2
theorem Tn (b n j:Nat)(cap:Option Nat):RN (.sl b 0 n cap 2) j<->b=j:=by
 constructor
 ·rintro⟨m,c,h⟩;cases h;rfl
 ·rintro rfl;exact⟨n,cap,rfl⟩
theorem Nx.zy {s:St}{N n:Nat}{t:TypeId}{cs:List AV}{v:AV}(h:Nx s N t n cs v){j:Nat}(hj:RN v j):N<=j/\j<s.next/\s.get j=some (.cells cs t false 0 0):=by
 obtain⟨b,cap,rfl,h2,h3,h4,h5,h6⟩:=h;rw[Tn] at hj;subst hj;exact⟨h5,h6,h3⟩
theorem Nx.Ms {s s':St}{N n:Nat}{t:TypeId}{cs:List AV}{v:AV}(h:Nx s N t n cs v)(hn:s.next<=s'.next)(hg:∀j,j<s.next->RN v j->s'.get j=s.get j):Nx s' N t n cs v:=by
 obtain⟨b,cap,rfl,h2,h3,h4,h5,h6⟩:=h;exact⟨b,cap,rfl,h2,by rw[hg b h6 ((Tn _ _ _ _).2 rfl)];exact h3,h4,h5,by omega⟩
theorem Nx.aa1 {s:St}{N n:Nat}{t:TypeId}{cs:List AV}{v:AV}(h:Nx s N t n cs v)(hN:N<=s.next)(x y:AV)(hx:Zw x=true)(hy:Zw y=true) :
  ∃s1,SG t 2 1 [x,y] v s=some (.sl s.next 0 (n+1) none 2,s1)/\s1.next=s.next+1/\Nx s1 N t (n+1) (cs++[x,y]) (.sl s.next 0 (n+1) none 2)/\(∀j,j<s.next->¬RN v j->s1.get j=s.get j)/\(Fr s->Fr s1):=by
 obtain⟨b,cap,rfl,h2,h3,h4,h5,h6⟩:=h;rcases h2 with rfl|rfl
 ·refine⟨(s.put b .gone).new (.cells (cs++[x,y]) t false 0 0),by rw[Uq,h3,Wm h4 (by omega) (by simp[hx,hy])],rfl,⟨s.next,none,rfl,.inl rfl,by rw[ZZ,Z9,if_pos rfl],by simp[h4];omega,hN,by rw[Z',Z9];omega⟩,fun j hj ZQ=>?_,fun hf=>(hf.put h6 _).new _⟩;rw[Tn] at ZQ;rw[ZZ,Z9,if_neg (by omega),Z7,if_neg ZQ]
 ·refine⟨s.new (.cells (cs++[x,y]) t false 0 0),by rw[SE h3 h4 (by omega)],rfl,⟨s.next,none,rfl,.inl rfl,by rw[ZZ,if_pos rfl],by simp[h4];omega,hN,by rw[Z'];omega⟩,fun j hj ZQ=>?_,fun hf=>hf.new _⟩;rw[ZZ,if_neg (by omega)]
theorem Nx.WK {s:St}{N n:Nat}{t:TypeId}{cs:List AV}{v:AV}(h:Nx s N t n cs v):Go.Am.WK v=n:=by
 obtain⟨b,cap,rfl,_⟩:=h;rfl
theorem EG {a b:ZN}(hb:b.ok)(VD:a.lines=b.lines){c x:Nat}(hc:c<(Zn a.fa b.fa).n)(hx:x<2^a.lines.toNat):Zc b.fa.n ((Zn a.fa b.fa).nx c x)=[.int .i64 ((a.fa.nx (c / b.fa.n) x:Nat):Int),.int .i64 ((b.fa.nx (c%b.fa.n) x:Nat):Int)]:=by
 have h:=hb.VK.lt (c%b.fa.n) x (Nat.mod_lt _ hb.pos) (by show x<2^b.lines.toNat;rw[<-VD];exact hx);show[AV.int .i64 (((a.fa.nx (c / b.fa.n) x*b.fa.n+b.fa.nx (c%b.fa.n) x) / b.fa.n:Nat):Int),AV.int .i64 (((a.fa.nx (c / b.fa.n) x*b.fa.n+b.fa.nx (c%b.fa.n) x)%b.fa.n:Nat):Int)]=_;rw[Rr h,OG h]
inductive Rv {G:Type} (TA:G->Nat->Nat->G->Prop):G->List (Nat×Nat)->G->Prop
 |nil (g:G):Rv TA g [] g
 |snoc {g g1 g2:G} {l:List (Nat×Nat)} {c x:Nat}:Rv TA g l g1->TA g1 c x g2->Rv TA g (l++[(c,x)]) g2
structure Jz (s:St)(N:Nat)(a b:ZN)(mB:Nat->Prop)(A0 B0 mp pt:Nat)(T:List Xs)(pv sv:AV):Prop where
 gA:s.get A0=some (.cells [.int .i64 a.lines,ZP a.YC (a.next.map ZX),ZP a.Yx (a.Z4.map ZY)] 42 false 0 0)
 gB:s.get B0=some (.cells [.int .i64 b.lines,ZP b.YC (b.next.map ZX),ZP b.Yx (b.Z4.map ZY)] 42 false 0 0)
 gm:s.get mp=some (.map (VA b.fa.n (fun _=>.bool true) (Yt T) 0) false)
 hp:Nx s N 164 T.length (WT b.fa.n (Yt T)) pv
 hs:Nx s N 231 T.length (sc (zJ T)) sv
 lt:A0<s.next/\B0<s.next/\mp<s.next/\pt<s.next/\N<=A0/\N<=B0/\N<=mp/\N<=pt
 fA:¬mB A0/\¬mB B0/\¬mB mp/\¬mB pt
 fp:∀j,RN pv j->¬mB j/\j≠pt
 fs:∀j,RN sv j->¬mB j
 np:A0≠pt/\B0≠pt/\mp≠pt
theorem Jz.ne {s:St}{N:Nat}{a b:ZN}{mB:Nat->Prop}{A0 B0 mp pt:Nat}{T:List Xs}{pv sv:AV}(h:Jz s N a b mB A0 B0 mp pt T pv sv):(∀j,RN pv j->j≠A0/\j≠B0/\j≠mp/\¬RN sv j)/\(∀j,RN sv j->j≠A0/\j≠B0/\j≠mp)/\A0≠mp/\B0≠mp:=by
 refine⟨fun j hj=>?_,fun j hj=>?_,?_,?_⟩
 ·have h1:=(h.hp.zy hj).2.2;refine⟨YY h1 h.gA (by decide),YY h1 h.gB (by decide),?_,fun h2=>?_⟩
  ·rintro rfl;rw[h.gm] at h1;cases h1
  ·exact YY h1 (h.hs.zy h2).2.2 (by decide) rfl
 ·have h1:=(h.hs.zy hj).2.2;refine⟨YY h1 h.gA (by decide),YY h1 h.gB (by decide),?_⟩;rintro rfl;rw[h.gm] at h1;cases h1
 ·rintro rfl;have:=h.gm.symm.trans h.gA;cases this
 ·rintro rfl;have:=h.gm.symm.trans h.gB;cases this
theorem Jz.keep {s s':St}{N:Nat}{a b:ZN}{f f':Nat->Prop}{A0 B0 mp pt:Nat}{T:List Xs}{pv sv:AV}(h:Jz s N a b f A0 B0 mp pt T pv sv)(hn:s.next<=s'.next)(hg:∀j,j<s.next->N<=j->¬f j->s'.get j=s.get j)(hf:∀j,f' j->f j\/s.next<=j):Jz s' N a b f' A0 B0 mp pt T pv sv:=by
 obtain⟨gA,gB,gm,hp,hs,⟨l1,l2,l3,l4,l5,l6,l7,l8⟩,⟨f1,f2,f3,f4⟩,fp,fs,np⟩:=h;have nf:∀j,j<s.next->¬f j->¬f' j:=fun j h1 h2 h3=>by rcases hf j h3 with h|h;exact h2 h;omega
 exact⟨(hg _ l1 l5 f1).trans gA,(hg _ l2 l6 f2).trans gB,(hg _ l3 l7 f3).trans gm,hp.Ms hn fun j h1 h2=>hg j h1 (hp.zy h2).1 (fp j h2).1,hs.Ms hn fun j h1 h2=>hg j h1 (hs.zy h2).1 (fs j h2),⟨by omega,by omega,by omega,by omega,l5,l6,l7,l8⟩,⟨nf _ l1 f1,nf _ l2 f2,nf _ l3 f3,nf _ l4 f4⟩,fun j hj=>⟨nf j (hp.zy hj).2.1 (fp j hj).1,(fp j hj).2⟩,fun j hj=>nf j (hs.zy hj).2.1 (fs j hj),np⟩
theorem AO (k:Nat)(L:List Nat)(c:Nat):WT k (L++[c])=WT k L++[.int .i64 ((c / k:Nat):Int),.int .i64 ((c%k:Nat):Int)]:=by simp[WT,Zc]
theorem oB (L:List (Int×Int))(p:Int×Int):sc (L++[p])=sc L++[.int .i64 p.1,.int .i64 p.2]:=by simp[sc]
theorem oA {T:List Xs}(h:0<T.length)(t:Xs):zJ (T++[t])=zJ T++[((t.2.1:Int),(t.2.2:Int))]:=by
 cases T with
 |nil=>simp at h
 |cons a l=>simp[zJ]
theorem H3 (T:List Xs)(t:Xs):Yt (T++[t])=Yt T++[t.1]:=by simp[Yt]
theorem Vo (T:List Xs):(Yt T).length=T.length:=by simp[Yt]
def G6 (c x:Nat):List (Nat×Nat):=(List.range x).map fun z=>(c,z)
theorem yb (c x:Nat):G6 c (x+1)=G6 c x++[(c,x)]:=by simp[G6,List.range_succ]
theorem Jz.put {s s':St}{N:Nat}{a b:ZN}{f:Nat->Prop}{A0 B0 mp pt:Nat}{T:List Xs}{pv sv:AV}(h:Jz s N a b f A0 B0 mp pt T pv sv)(hT:0<T.length){c i x pb sb:Nat}(hn:s.next<=s'.next)
  (hm:s'.get mp=some (.map (VA b.fa.n (fun _=>.bool true) (Yt T++[c]) 0) false))
  (hp:Nx s' N 164 (T.length+1) (WT b.fa.n (Yt T)++[.int .i64 ((c / b.fa.n:Nat):Int),.int .i64 ((c%b.fa.n:Nat):Int)]) (.sl pb 0 (T.length+1) none 2))
  (hs:Nx s' N 231 (T.length+1) (sc (zJ T)++[.int .i64 (i:Int),.int .i64 (x:Int)]) (.sl sb 0 (T.length+1) none 2))
  (hpb:s.next<=pb)(hsb:s.next<=sb)(hg:∀j,j<s.next->j≠mp->¬RN pv j->¬RN sv j->s'.get j=s.get j)(Sx:∀j,f j->j<s.next) :
  Jz s' N a b f A0 B0 mp pt (T++[(c,i,x)]) (.sl pb 0 (T.length+1) none 2) (.sl sb 0 (T.length+1) none 2):=by
 obtain⟨n1,n2,n3,n4⟩:=h.ne;obtain⟨gA,gB,gm,bQ,hs0,⟨l1,l2,l3,l4,l5,l6,l7,l8⟩,fA,fp,fs,np⟩:=h;refine⟨(hg _ l1 n3 (fun h=>(n1 _ h).1 rfl) fun h=>(n2 _ h).1 rfl).trans gA,(hg _ l2 n4 (fun h=>(n1 _ h).2.1 rfl) fun h=>(n2 _ h).2.1 rfl).trans gB,?_,?_,?_,⟨by omega,by omega,by omega,by omega,l5,l6,l7,l8⟩,fA,fun j hj=>?_,fun j hj=>?_,np⟩
 ·rw[H3];exact hm
 ·rw[H3,AO,aeW,aff];exact hp
 ·rw[oA hT,oB,aeW,aff];exact hs
 ·rw[Tn] at hj;subst hj;exact⟨fun h=>by have:=Sx _ h;omega,by omega⟩
 ·rw[Tn] at hj;subst hj;exact fun h=>by have:=Sx _ h;omega
theorem aH {β:Type}{fin:Fl->β}{ks:List K}{ZV:β->Prop}{a b:ZN}(ha:a.ok)(hb:b.ok)(VD:a.lines=b.lines){fn:AV}{N:Nat}{G:Type}{CI:G->St->Prop}{fp:G->Nat->Prop}{Tv:Nat->Nat->Prop}{y:Nat->Nat->Bool}{TA:G->Nat->Nat->G->Prop}
  (Y:dD fn b.fa.n N G CI fp Tv y TA){c i:Nat}(hc:c<(Zn a.fa b.fa).n)(PD:∀x,x<2^a.lines.toNat->Tv c x){T:List Xs}(hT:Qc (Zn a.fa b.fa) T)(hi:i<T.length){A0 B0 mp pt:Nat}{pv sv:AV}{g:G}{vr:List Xs×Option Nat}
  (hvr:Xx ((Zn a.fa b.fa).nx c) (y c) i (2^a.lines.toNat) 0 T=vr)
  {e:Env}{s:St}(g2:Env.get e 2=fn)(g3:Env.get e 3=.ptr A0 0)(g4:Env.get e 4=.ptr B0 0)(g8:Env.get e 8=.map mp)(g9:Env.get e 9=pv)(Gp:Env.get e 10=sv)(LV:Env.get e 13=.int .i64 (i:Nat))(i_:Env.get e 14=.ptr pt 0)(fV:Env.get e 36=.int .i64 ((2^a.lines.toNat:Nat):Int))(qV:Env.get e 37=.int .i64 (0:Nat))
  (V:Jz s N a b (fp g) A0 B0 mp pt T pv sv)(gpt:s.get pt=some (.cells (Zc b.fa.n c) 164 false 0 0))(DW:CI g s)(fr:Fr s)(hN:N<=s.next)
  (hk:vr.2=none->∀e' s' NY Nw g',(∀t:Nat,t<15->t≠9->t≠10->Env.get e' t=Env.get e t)->Env.get e' 9=NY->Env.get e' 10=Nw->Jz s' N a b (fp g') A0 B0 mp pt vr.1 NY Nw->Rv TA g (G6 c (2^a.lines.toNat)) g'->CI g' s'->(∀j,j<N->¬fp g j->s'.get j=s.get j)->s.next<=s'.next->(∀j,fp g' j->fp g j\/N<=j)->Fr s'->ZV (goN U fin ks e' s'))
  (hx:∀z,vr.2=some z->∀e' s' NY Nw w g',(∀t:Nat,t<15->t≠9->t≠10->t≠11->t≠12->Env.get e' t=Env.get e t)->Env.get e' 9=NY->Env.get e' 10=Nw->Env.get e' 11=.int .i64 (i:Nat)->Env.get e' 12=.sl w 0 1 (some 1) 1->s'.get w=some (.cells (ZO [z]) 3 false 0 0)->s.next<=w->w<s'.next->¬fp g' w->Jz s' N a b (fp g') A0 B0 mp pt vr.1 NY Nw->(∃l,Rv TA g l g')->CI g' s'->(∀j,j<N->¬fp g j->s'.get j=s.get j)->s.next<=s'.next->(∀j,fp g' j->fp g j\/N<=j)->Fr s'->ZV (qg U fin ks 0 e' s')) :
  ZV (Vx U fin (.bk 2::ks) Qj e s):=by
 have hA:=Ot ha.VK hb.VK (by show 2^a.lines.toNat=2^b.lines.toNat;rw[VD]);have Bo:c / b.fa.n<a.next.length:=Nat.div_lt_of_lt_mul (by rw[Nat.mul_comm];exact hc);have P9:c%b.fa.n<b.next.length:=Nat.mod_lt _ hb.pos;have Nv:=ha.j8;have hnn:(Zn a.fa b.fa).n<=262144:=Nat.mul_le_mul ha.few hb.few;refine ZC (σ:=Nat) (fun x=>2^a.lines.toNat-x) (fun x e' s'=>x<=2^a.lines.toNat/\(∀t:Nat,t<15\/t=36->t≠9->t≠10->Env.get e' t=Env.get e t)/\Env.get e' 37=.int .i64 (x:Nat) /\
   (∀j,j<N->¬fp g j->s'.get j=s.get j)/\s.next<=s'.next/\Fr s'/\s'.get pt=some (.cells (Zc b.fa.n c) 164 false 0 0) /\
   ∃T' NY Nw g',Xx ((Zn a.fa b.fa).nx c) (y c) i (2^a.lines.toNat-x) x T'=vr/\Qc (Zn a.fa b.fa) T'/\i<T'.length/\Env.get e' 9=NY/\Env.get e' 10=Nw/\Jz s' N a b (fp g') A0 B0 mp pt T' NY Nw/\CI g' s'/\Rv TA g (G6 c x) g'/\(∀j,fp g' j->fp g j\/N<=j)) 0 ?_
  ⟨ae5 _,fun _ _ _ _=>rfl,qV,fun _ _ _=>rfl,aba _,fr,gpt,T,pv,sv,g,by rw[Nat.sub_zero];exact hvr,hT,hi,g9,Gp,V,DW,.nil g,fun j hj=>.inl hj⟩
 rintro Lp x e' s' ⟨hx0,hold,wO,hs,XY,YM,qpt,T',NY,Nw,g1,Zp,Bs,Uz,q9,Um,V',zk,Xg,qj⟩ IH;have q2:=(hold 2 (by omega) (by omega) (by omega)).trans g2;have q3:=(hold 3 (by omega) (by omega) (by omega)).trans g3;have q4:=(hold 4 (by omega) (by omega) (by omega)).trans g4;have q8:=(hold 8 (by omega) (by omega) (by omega)).trans g8;have U6:=(hold 13 (by omega) (by omega) (by omega)).trans LV;have q14:=(hold 14 (by omega) (by omega) (by omega)).trans i_;have lq:=(hold 36 (by omega) (by omega) (by omega)).trans fV;have lI:=Bs.len;unfold Zc at qpt;by_cases hd:x<2^a.lines.toNat
 ·have hw:=ZI hd (by omega);obtain⟨CT,s1,TD,aea,oz,aa0,Ur,nj,Kr⟩:=Y.call g1 c x s' (PD x hd) zk YM;unfold Zc at TD;have V1:Jz s1 N a b (fp CT) A0 B0 mp pt T' NY Nw:=V'.keep nj (fun j h1 _ h3=>Ur j h1 h3) aa0;have gZ:Rv TA g (G6 c (x+1)) CT:=by rw[yb];exact .snoc Xg aea
  have Ku:∀j,fp CT j->fp g j\/N<=j:=fun j hj=>by
   rcases aa0 j hj with h|h
   ·exact qj j h
   ·exact .inr (by omega)
  have WC:∀j,j<N->¬fp g j->s1.get j=s.get j:=fun j h1 h2=>(Ur j (by omega) fun h=>by rcases qj j h with h|h;exact h2 h;omega).trans (hs j h1 h2)
  have ta:s1.get pt=some (.cells [.int .i64 ((c / b.fa.n:Nat):Int),.int .i64 ((c%b.fa.n:Nat):Int)] 164 false 0 0):=(Ur pt V'.lt.2.2.2.1 V'.fA.2.2.2).trans qpt;have qi:=Y.lt CT s1 oz;rw[show 2^a.lines.toNat-x=(2^a.lines.toNat-(x+1))+1 by omega,Xx] at Zp;have Nz:∀t:Nat,t<15\/t=36->t≠9->t≠10->(9=t)=False/\(10=t)=False/\(15=t)=False/\(16=t)=False/\∀k:Nat,37<=k->(k=t)=False:=fun t h1 h2 h3=>⟨by simp;omega,by simp;omega,by simp;omega,by simp;omega,fun k hk=>by simp;omega⟩
  cases hy:y c x with
  |false =>
   rw[hy,cond_false] at Zp;rw[hy] at TD;subst Zp;simp only[go_sem,Qj,q2,U6,q14,lq,wO,qpt,Z8,hd,TD];refine hx x rfl _ _ NY Nw s1.next CT (fun t h1 h2 h3 h4 h5=>?_) ?_ ?_ ?_ ?_ ?_ (by omega) ?_ (fun h=>by have:=qi _ h;omega) ?_ ⟨_,gZ⟩ ?_ (fun j h1 h2=>?_) ?_ Ku ?_
   ·obtain⟨n9,HP,Gq,A6,n37⟩:=Nz t (.inl h1) h2 h3;simp only[go_sem,Gq,n37,eq_false h4.symm,eq_false h5.symm];exact hold t (.inl h1) h2 h3
   ·simp only[go_sem,q9]
   ·simp only[go_sem,Um]
   ·simp only[go_sem]
   ·simp only[go_sem]
   ·rw[ZZ,if_pos rfl];rfl
   ·rw[Z'];omega
   ·exact V1.keep (by rw[Z'];omega) (fun j h1 _ _=>by rw[ZZ,if_neg (by omega)]) fun j hj=>.inl hj
   ·exact Y.keep CT s1 _ oz (by rw[Z'];omega) fun j h1 _=>by rw[ZZ,if_neg (by omega)]
   ·rw[ZZ,if_neg (by omega)];exact WC j h1 h2
   ·rw[Z'];omega
   ·exact Kr.new _
  |true =>
   rw[hy,cond_true] at Zp;rw[hy] at TD;have kx:(Zn a.fa b.fa).nx c x<(Zn a.fa b.fa).n:=hA.lt c x hc hd;have hpn:=EG hb VD hc hd;have n1:=ha.DR Bo hd;have n2:=hb.DR P9 (by rw[<-VD];exact hd);have r1:=Xi (nl:=a.YC) Bo;have r2:=Xi (nl:=b.YC) P9;have hgA:=V1.gA;have hgB:=V1.gB;have gY:=V1.gm;obtain⟨l1,l2,l3,l4,l5,l6,l7,l8⟩:=V1.lt;have lk:=fun (S:St) (h:S.get mp=some (.map (VA b.fa.n (fun _=>.bool true) (Yt T') 0) false))=>yw h ((Zn a.fa b.fa).nx c x)
   have up:=fun (S:St) (h:S.get mp=some (.map (VA b.fa.n (fun _=>.bool true) (Yt T') 0) false))=>Iw h (c:=(Zn a.fa b.fa).nx c x)
   rw[hpn] at lk up;generalize hcn:(Zn a.fa b.fa).nx c x=cn at *;have R_:=Kr.at;have f1:∀q,(s1.next+q=A0)=False:=fun q=>by simp;omega
   have f2:∀q,(s1.next+q=B0)=False:=fun q=>by simp;omega
   have f3:∀q,(s1.next+q=mp)=False:=fun q=>by simp;omega
   have f4:∀q,(s1.next+q=pt)=False:=fun q=>by simp;omega
   have f5:∀q,(mp=s1.next+q)=False:=fun q=>by simp;omega
   by_cases R4:cn∈T'.map (·.1)
   ·have gW:Ya (Yt T') cn<(Yt T').length:=(Tt _ _).2 R4;rw[decide_eq_true R4,cond_true] at Zp;rw[decide_eq_true gW] at lk;simp only[go_sem,Qj,q2,q3,q4,q8,U6,q14,lq,wO,qpt,Z8,hd,TD,hgA,hgB,gY,ta,r1,r2,n1,n2,hw,f1,f2,f3,f4,R_,lk,aeX];have k4:∀j,j<s1.next->(((s1.upto (s1.next+21)).put (s1.next+19) (.cells [.int .i64 0,.int .i64 0] 164 false 0 0)).put (s1.next+19) (.cells [.int .i64 ((a.fa.nx (c / b.fa.n) x:Nat):Int),.int .i64 ((b.fa.nx (c%b.fa.n) x:Nat):Int)] 164 false 0 0)).get j=s1.get j:=fun j hj=>by
     rw[Z7,if_neg (by omega),Z7,if_neg (by omega),Z0]
    refine IH (x+1) _ _ (by omega) ⟨by omega,fun t h1 h2 h3=>?_,?_,fun j h1 h2=>by rw[k4 j (by omega)];exact WC j h1 h2,by simp only[Z9,Z_];omega,?_,by rw[k4 pt l4];exact ta,T',NY,Nw,CT,?_,Bs,Uz,?_,?_,V1.keep (by simp only[Z9,Z_];omega) (fun j h1 _ _=>k4 j h1) (fun j hj=>.inl hj),Y.keep CT s1 _ oz (by simp only[Z9,Z_];omega) (fun j h1 _=>k4 j h1),gZ,Ku⟩
    ·obtain⟨n9,HP,Gq,A6,n37⟩:=Nz t h1 h2 h3;simp only[go_sem,n9,HP,Gq,A6,n37];exact hold t h1 h2 h3
    ·simp only[go_sem]
    ·repeat first|exact Kr|apply Fr.new|apply Fr.put|apply Fr.upto
     all_goals try simp only[Z9,Z',Z_]
     all_goals omega
    ·exact Zp
    ·simp only[go_sem,q9]
    ·simp only[go_sem,Um]
   ·have gW:¬Ya (Yt T') cn<(Yt T').length:=fun h=>R4 ((Tt _ _).1 h)
    rw[decide_eq_false R4,cond_false] at Zp;rw[decide_eq_false gW] at lk;have up:=fun S h=>up S h R4
    have fN:=V1.hp.WK;have hlS:=V1.hs.WK;have RQ:(T'.length+1)*16<=1099511627776:=by omega
    have TG:T'.length+1<=1099511627776:=by omega
    simp only[go_sem,Qj,q2,q3,q4,q8,q9,Um,U6,q14,lq,wO,qpt,Z8,hd,TD,hgA,hgB,gY,ta,r1,r2,n1,n2,hw,f1,f2,f3,f4,f5,R_,lk,up,aeX,ae3,afu,ZD,Nat.reducePow,fN,RQ,TG];obtain⟨S,hS⟩:∃S,S=((((s1.upto (s1.next+21)).put (s1.next+19) (.cells [.int .i64 0,.int .i64 0] 164 false 0 0)).put (s1.next+19) (.cells [.int .i64 ((a.fa.nx (c / b.fa.n) x:Nat):Int),.int .i64 ((b.fa.nx (c%b.fa.n) x:Nat):Int)] 164 false 0 0)).put mp (.map (VA b.fa.n (fun _=>.bool true) (Yt T'++[cn]) 0) false)).new (.cells [.int .i64 ((a.fa.nx (c / b.fa.n) x:Nat):Int),.int .i64 ((b.fa.nx (c%b.fa.n) x:Nat):Int)] 164 false 0 0):=⟨_,rfl⟩;rw[<-hS];have rN:S.next=s1.next+22:=by rw[hS];simp only[Z9,Z',Z_]
    have kS:∀j,j<s1.next->j≠mp->S.get j=s1.get j:=fun j h1 h2=>by rw[hS,ZZ,Z9,Z9,Z9,Z_,if_neg (by omega),Z7,if_neg h2.symm,Z7,if_neg (by omega),Z7,if_neg (by omega),Z0]
    have kSm:S.get mp=some (.map (VA b.fa.n (fun _=>.bool true) (Yt T'++[cn]) 0) false):=by rw[hS,ZZ,Z9,Z9,Z9,Z_,if_neg (by omega),Z7,if_pos rfl]
    have He:Fr S:=by
     rw[hS]
     repeat first|exact Kr|apply Fr.new|apply Fr.put|apply Fr.upto
     all_goals try simp only[Z9,Z',Z_]
     all_goals omega
    obtain⟨m1,m2,m3,m4⟩:=V1.ne;have P1:Nx S N 164 T'.length (WT b.fa.n (Yt T')) NY:=V1.hp.Ms (by omega) fun j h1 h2=>kS j h1 (m1 j h2).2.2.1
    obtain⟨s4,d1,d2,d3,d4,d5⟩:=P1.aa1 (by omega) (.int .i64 ((a.fa.nx (c / b.fa.n) x:Nat):Int)) (.int .i64 ((b.fa.nx (c%b.fa.n) x:Nat):Int)) rfl rfl;rw[d1];simp only[go_sem,Um,U6,ae3,afu,ZD,Nat.reducePow,hlS,RQ,TG];have kQ:∀j,j<s1.next->j≠mp->¬RN NY j->(s4.new (.cells [.int .i64 (i:Int),.int .i64 (x:Int)] 231 false 0 0)).get j=s1.get j:=fun j h1 h2 h3=>by rw[ZZ,if_neg (by omega),d4 j (by omega) h3,kS j h1 h2]
    have P2:Nx (s4.new (.cells [.int .i64 (i:Int),.int .i64 (x:Int)] 231 false 0 0)) N 231 T'.length (sc (zJ T')) Nw:=V1.hs.Ms (by rw[Z'];omega) fun j h1 h2=>kQ j h1 (m2 j h2).2.2 fun h=>(m1 j h).2.2.2 h2
    obtain⟨s6,b1,b2,b3,b4,b5⟩:=P2.aa1 (by rw[Z'];omega) (.int .i64 (i:Int)) (.int .i64 (x:Int)) rfl rfl;rw[b1];simp only[go_sem,wO,hw];rw[Z'] at b2 b3 b4;have k6:∀j,j<s1.next->j≠mp->¬RN NY j->¬RN Nw j->s6.get j=s1.get j:=fun j h1 h2 h3 h4=>by rw[b4 j (by omega) h4,kQ j h1 h2 h3]
    have hT2:0<T'.length:=by omega
    have qF:∀j,fp CT j\/j<N->j<s1.next->j≠mp/\¬RN NY j/\¬RN Nw j:=fun j hj hl=>by
     rcases hj with hj|hj
     ·exact⟨fun e=>V1.fA.2.2.1 (e ▸ hj),fun h=>(V1.fp j h).1 hj,fun h=>V1.fs j h hj⟩
     ·exact⟨by omega,fun h=>by have:=(V1.hp.zy h).1;omega,fun h=>by have:=(V1.hs.zy h).1;omega⟩
    refine IH (x+1) _ _ (by omega) ⟨by omega,fun t h1 h2 h3=>?_,?_,fun j h1 h2=>?_,by omega,b5 ((d5 He).new _),?_,T'++[(cn,i,x)],.sl S.next 0 (T'.length+1) none 2,.sl (s4.next+1) 0 (T'.length+1) none 2,CT,Zp,Bs.put kx Uz hd R4,by rw[aeW];omega,?_,?_,?_,Y.keep CT s1 _ oz (by omega) (fun j h1 h2=>?_),gZ,Ku⟩
    ·obtain⟨n9,HP,Gq,A6,n37⟩:=Nz t h1 h2 h3;simp only[go_sem,n9,HP,Gq,A6,n37];exact hold t h1 h2 h3
    ·simp only[go_sem]
    ·obtain⟨a1,a2,a3⟩:=qF j (.inr h1) (by omega);rw[k6 j (by omega) a1 a2 a3];exact WC j h1 h2
    ·rw[k6 pt l4 (fun e=>V1.np.2.2 e.symm) (fun h=>(V1.fp pt h).2 rfl) fun h=>YY ta (V1.hs.zy h).2.2 (by decide) rfl];exact ta
    ·simp only[go_sem]
    ·simp only[go_sem]
    ·have hpc:Zc b.fa.n cn=[.int .i64 ((cn / b.fa.n:Nat):Int),.int .i64 ((cn%b.fa.n:Nat):Int)]:=rfl;rw[hpn] at hpc;rw[hpc] at d3;refine V1.put hT2 (by omega) ?_ (d3.Ms (by omega) fun j h1 h2=>?_) b3 (by omega) (by omega) k6 qi
     ·rw[b4 mp (by omega) (fun h=>(m2 mp h).2.2 rfl),ZZ,if_neg (by omega),d4 mp (by omega) fun h=>(m1 mp h).2.2.1 rfl];exact kSm
     ·rw[Tn] at h2;subst h2;rw[b4 _ (by omega) fun h=>by have:=(V1.hs.zy h).2.1;omega,ZZ,if_neg (by omega)]
    ·obtain⟨a1,a2,a3⟩:=qF j h2 h1;exact k6 j h1 a1 a2 a3
 ·have rT:x=2^a.lines.toNat:=by omega
  subst rT;rw[Nat.sub_self,Xx] at Zp;subst Zp;simp only[go_sem,Qj,lq,wO,Z8,afg];refine hk rfl _ _ NY Nw g1 (fun t h1 h2 h3=>?_) ?_ ?_ V' Xg zk hs XY qj YM
  ·have ZQ:∀k:Nat,37<=k->(k=t)=False:=fun k hk=>by simp;omega
   simp only[go_sem,ZQ];exact hold t (.inl h1) h2 h3
  ·simp only[go_sem,q9]
  ·simp only[go_sem,Um]
end Go.Am
