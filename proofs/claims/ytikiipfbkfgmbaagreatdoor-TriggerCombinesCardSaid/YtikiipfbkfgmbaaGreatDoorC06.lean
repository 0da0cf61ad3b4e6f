/- A part of the proof of a statement of this seat: the machine on which the program is read, and what it computes; for every input. -/
import Derived.Test.YtikiipfbkfgmbaaGreatDoorC05
import Derived.Test.YtikiipfbkfgmbaaGreatDoorC04
set_option linter.all false
namespace Go.Am
open Go
variable [MaxLen]
set_option maxRecDepth 100000
set_option maxHeartbeats 8000000
theorem keyOkP (k c:Nat):keyOk U 186 (.agg (yM k c))=true:=by
 have h1:U.und 186=some (.array 2 3):=by kernel_rfl
 have h2:U.und 3=some (.int .i64):=by kernel_rfl
 have h3:size U 3=some 1:=by kernel_rfl
 simp only[keyOk,h1,h2,h3,yM]
 rfl
theorem lookup260 {s:St}{m k:Nat}{ks:List Nat}(h:s.get m=some (.map (entP k (fun _=>.bool true) ks 0) false))(c:Nat):lookupA U 260 (.map m) (.agg (yM k c)) false s=some (.bool (decide (idxN ks c<ks.length))):=by
 have hu:U.und 260=some (.map 186 4):=by kernel_rfl
 have hz:zero U 4=some (.bool false):=by kernel_rfl
 unfold lookupA
 rw[hu]
 simp only[keyOkP,if_true,h,findA_entP]
 cases decide (idxN ks c<ks.length) with
 |true=>rfl
 |false=>simp only[cond_false,hz];rfl
theorem update260 {s:St}{m k:Nat}{ks:List Nat}(h:s.get m=some (.map (entP k (fun _=>.bool true) ks 0) false)){c:Nat}(hc:c∉ks):updateA U 260 (.map m) (.agg (yM k c)) (.bool true) s=some (s.put m (.map (entP k (fun _=>.bool true) (ks++[c]) 0) false)):=by
 have hu:U.und 260=some (.map 186 4):=by kernel_rfl
 have:=putA_entP k (fun _=>.bool true) c ks 0 hc
 unfold updateA
 rw[hu]
 simp only[keyOkP,if_true,h,this]
theorem lookup259 {s:St}{m k:Nat}{ks:List Nat}(h:s.get m=some (.map (entP k (fun i=>.int .i64 (i:Int)) ks 0) false)){c:Nat}(hc:idxN ks c<ks.length):lookupA U 259 (.map m) (.agg (yM k c)) false s=some (.int .i64 ((idxN ks c:Nat):Int)):=by
 have hu:U.und 259=some (.map 186 3):=by kernel_rfl
 unfold lookupA
 rw[hu]
 simp only[keyOkP,if_true,h,findA_entP]
 rw[decide_eq_true hc,cond_true,Nat.zero_add]
 rfl
theorem update259 {s:St}{m k:Nat}{ks:List Nat}(h:s.get m=some (.map (entP k (fun i=>.int .i64 (i:Int)) ks 0) false)){c:Nat}(hc:c∉ks):updateA U 259 (.map m) (.agg (yM k c)) (.int .i64 ((ks.length:Nat):Int)) s=some (s.put m (.map (entP k (fun i=>.int .i64 (i:Int)) (ks++[c]) 0) false)):=by
 have hu:U.und 259=some (.map 186 3):=by kernel_rfl
 have:=putA_entP k (fun i=>.int .i64 (i:Int)) c ks 0 hc
 rw[Nat.zero_add] at this
 unfold updateA
 rw[hu]
 simp only[keyOkP,if_true,h,this]
structure Yld (fn:AV)(k B0:Nat)(G:Type)(CI:G→St→Prop)(fp:G→Nat→Prop)(dom:Nat→Nat→Prop)(y:Nat→Nat→Bool)(nxt:G→Nat→Nat→G→Prop):Prop where
 call:∀g c x s,dom c x→CI g s→Fr s→∃g' s',calv U fn [.agg (yM k c),.int .i64 (x:Int)] s=some (.bool (y c x),s')∧nxt g c x g'∧CI g' s'∧(∀j,fp g' j→fp g j∨s.next≤j)∧(∀j,j<s.next→¬fp g j→s'.get j=s.get j)∧s.next≤s'.next∧Fr s'
 keep:∀g s s',CI g s→s.next≤s'.next→(∀j,j<s.next→(fp g j∨j<B0)→s'.get j=s.get j)→CI g s'
 lt:∀g s,CI g s→∀j,fp g j→j<s.next
def PrI (s:St)(N:Nat)(t:TypeId)(n:Nat)(cs:List AV)(v:AV):Prop:=∃b cap,v=.sl b 0 n cap 2∧(cap=none∨cap=some n)∧s.get b=some (.cells cs t false 0 0)∧cs.length=n*2∧N≤b∧b<s.next
theorem PrI.keep {s s':St}{N n:Nat}{t:TypeId}{cs:List AV}{v:AV}(h:PrI s N t n cs v)(hn:s.next≤s'.next)(hg:∀j,j<s.next→N≤j→s.get j=some (.cells cs t false 0 0)→s'.get j=s.get j):PrI s' N t n cs v:=by
 obtain⟨b,cap,h1,h2,h3,h4,h5,h6⟩:=h
 exact⟨b,cap,h1,h2,by rw[hg b h6 h5 h3];exact h3,h4,h5,by omega⟩
theorem PrI.app {s:St}{N n:Nat}{t:TypeId}{cs:List AV}{v:AV}(h:PrI s N t n cs v)(hN:N≤s.next)(x y:AV)(hx:noAgg x=true)(hy:noAgg y=true) :
  ∃s1,appD t 2 1 [x,y] v s=some (.sl s.next 0 (n+1) none 2,s1)∧s1.next=s.next+1∧PrI s1 N t (n+1) (cs++[x,y]) (.sl s.next 0 (n+1) none 2)∧(∀j,j<s.next→s.get j≠some (.cells cs t false 0 0)→s1.get j=s.get j)∧(Fr s→Fr s1):=by
 obtain⟨b,cap,rfl,h2,h3,h4,h5,h6⟩:=h
 rcases h2 with rfl|rfl
 ·refine⟨(s.put b .gone).new (.cells (cs++[x,y]) t false 0 0),by rw[appD_sl,h3,appS_cells h4 (by omega) (by simp[hx,hy])],rfl,⟨s.next,none,rfl,.inl rfl,by rw[get_new,next_put,if_pos rfl],by simp[h4];omega,hN,by rw[next_new,next_put];omega⟩,fun j hj hne=>?_,fun hf=>(hf.put h6 _).new _⟩
  have:b≠j:=by rintro rfl;exact hne h3
  rw[get_new,next_put,if_neg (by omega),get_put,if_neg this]
 ·refine⟨s.new (.cells (cs++[x,y]) t false 0 0),by rw[appD_slk h3 h4 (by omega)],rfl,⟨s.next,none,rfl,.inl rfl,by rw[get_new,if_pos rfl],by simp[h4];omega,hN,by rw[next_new];omega⟩,fun j hj hne=>?_,fun hf=>hf.new _⟩
  rw[get_new,if_neg (by omega)]
def pcs (k:Nat)(L:List Nat):List AV:=L.flatMap (yM k)
def scs (L:List (Int×Int)):List AV:=L.flatMap fun p=>[.int .i64 p.1,.int .i64 p.2]
def stp:List Trip→List (Int×Int)
 |[]=>[]
 |_::l=>(-1,0)::l.map fun t=>((t.2.1:Int),(t.2.2:Int))
def zV (T:List Trip):List Nat:=T.map (·.1)
def isB2 (v:AV)(j:Nat):Prop:=∃n cap,v=.sl j 0 n cap 2
theorem isB2_sl (b n j:Nat)(cap:Option Nat):isB2 (.sl b 0 n cap 2) j↔b=j:=by
 constructor
 ·rintro⟨m,c,h⟩;cases h;rfl
 ·rintro rfl;exact⟨n,cap,rfl⟩
theorem PrI.ltB {s:St}{N n:Nat}{t:TypeId}{cs:List AV}{v:AV}(h:PrI s N t n cs v){j:Nat}(hj:isB2 v j):N≤j∧j<s.next∧s.get j=some (.cells cs t false 0 0):=by
 obtain⟨b,cap,rfl,h2,h3,h4,h5,h6⟩:=h
 rw[isB2_sl] at hj;subst hj;exact⟨h5,h6,h3⟩
theorem PrI.keepB {s s':St}{N n:Nat}{t:TypeId}{cs:List AV}{v:AV}(h:PrI s N t n cs v)(hn:s.next≤s'.next)(hg:∀j,j<s.next→isB2 v j→s'.get j=s.get j):PrI s' N t n cs v:=by
 obtain⟨b,cap,rfl,h2,h3,h4,h5,h6⟩:=h
 exact⟨b,cap,rfl,h2,by rw[hg b h6 ((isB2_sl _ _ _ _).2 rfl)];exact h3,h4,h5,by omega⟩
theorem PrI.appB {s:St}{N n:Nat}{t:TypeId}{cs:List AV}{v:AV}(h:PrI s N t n cs v)(hN:N≤s.next)(x y:AV)(hx:noAgg x=true)(hy:noAgg y=true) :
  ∃s1,appD t 2 1 [x,y] v s=some (.sl s.next 0 (n+1) none 2,s1)∧s1.next=s.next+1∧PrI s1 N t (n+1) (cs++[x,y]) (.sl s.next 0 (n+1) none 2)∧(∀j,j<s.next→¬isB2 v j→s1.get j=s.get j)∧(Fr s→Fr s1):=by
 obtain⟨b,cap,rfl,h2,h3,h4,h5,h6⟩:=h
 rcases h2 with rfl|rfl
 ·refine⟨(s.put b .gone).new (.cells (cs++[x,y]) t false 0 0),by rw[appD_sl,h3,appS_cells h4 (by omega) (by simp[hx,hy])],rfl,⟨s.next,none,rfl,.inl rfl,by rw[get_new,next_put,if_pos rfl],by simp[h4];omega,hN,by rw[next_new,next_put];omega⟩,fun j hj hne=>?_,fun hf=>(hf.put h6 _).new _⟩
  rw[isB2_sl] at hne
  rw[get_new,next_put,if_neg (by omega),get_put,if_neg hne]
 ·refine⟨s.new (.cells (cs++[x,y]) t false 0 0),by rw[appD_slk h3 h4 (by omega)],rfl,⟨s.next,none,rfl,.inl rfl,by rw[get_new,if_pos rfl],by simp[h4];omega,hN,by rw[next_new];omega⟩,fun j hj hne=>?_,fun hf=>hf.new _⟩
  rw[get_new,if_neg (by omega)]
theorem PrI.lenA {s:St}{N n:Nat}{t:TypeId}{cs:List AV}{v:AV}(h:PrI s N t n cs v):Go.Am.lenA v=n:=by
 obtain⟨b,cap,rfl,_⟩:=h;rfl
theorem pcell_nx {a b:Auto}(hb:b.ok)(hlb:a.lines=b.lines){c x:Nat}(hc:c<(zQ a.fa b.fa).n)(hx:x<2^a.lines.toNat):yM b.fa.n ((zQ a.fa b.fa).nx c x)=[.int .i64 ((a.fa.nx (c / b.fa.n) x:Nat):Int),.int .i64 ((b.fa.nx (c%b.fa.n) x:Nat):Int)]:=by
 have h:=hb.faok.lt (c%b.fa.n) x (Nat.mod_lt _ hb.pos) (by show x<2^b.lines.toNat;rw[←hlb];exact hx)
 show[AV.int .i64 (((a.fa.nx (c / b.fa.n) x*b.fa.n+b.fa.nx (c%b.fa.n) x) / b.fa.n:Nat):Int),AV.int .i64 (((a.fa.nx (c / b.fa.n) x*b.fa.n+b.fa.nx (c%b.fa.n) x)%b.fa.n:Nat):Int)]=_
 rw[pair_div h,pair_mod h]
inductive Stps {G:Type} (nxt:G→Nat→Nat→G→Prop):G→List (Nat×Nat)→G→Prop
 |nil (g:G):Stps nxt g [] g
 |snoc {g g1 g2:G} {l:List (Nat×Nat)} {c x:Nat}:Stps nxt g l g1→nxt g1 c x g2→Stps nxt g (l++[(c,x)]) g2
structure Vis (s:St)(N:Nat)(a b:Auto)(fpg:Nat→Prop)(A0 B0 mp pt:Nat)(T:List Trip)(pv sv:AV):Prop where
 gA:s.get A0=some (.cells [.int .i64 a.lines,encS a.nNl (a.next.map zG),encS a.fNl (a.fires.map zC)] 69 false 0 0)
 gB:s.get B0=some (.cells [.int .i64 b.lines,encS b.nNl (b.next.map zG),encS b.fNl (b.fires.map zC)] 69 false 0 0)
 gm:s.get mp=some (.map (entP b.fa.n (fun _=>.bool true) (zV T) 0) false)
 hp:PrI s N 186 T.length (pcs b.fa.n (zV T)) pv
 hs:PrI s N 262 T.length (scs (stp T)) sv
 lt:A0<s.next∧B0<s.next∧mp<s.next∧pt<s.next∧N≤A0∧N≤B0∧N≤mp∧N≤pt
 fA:¬fpg A0∧¬fpg B0∧¬fpg mp∧¬fpg pt
 fp:∀j,isB2 pv j→¬fpg j∧j≠pt
 fs:∀j,isB2 sv j→¬fpg j
 np:A0≠pt∧B0≠pt∧mp≠pt
theorem Vis.ne {s:St}{N:Nat}{a b:Auto}{fpg:Nat→Prop}{A0 B0 mp pt:Nat}{T:List Trip}{pv sv:AV}(h:Vis s N a b fpg A0 B0 mp pt T pv sv):(∀j,isB2 pv j→j≠A0∧j≠B0∧j≠mp∧¬isB2 sv j)∧(∀j,isB2 sv j→j≠A0∧j≠B0∧j≠mp)∧A0≠mp∧B0≠mp:=by
 refine⟨fun j hj=>?_,fun j hj=>?_,?_,?_⟩
 ·have h1:=(h.hp.ltB hj).2.2
  refine⟨zP h1 h.gA (by decide),zP h1 h.gB (by decide),?_,fun h2=>?_⟩
  ·rintro rfl;rw[h.gm] at h1;cases h1
  ·exact zP h1 (h.hs.ltB h2).2.2 (by decide) rfl
 ·have h1:=(h.hs.ltB hj).2.2
  refine⟨zP h1 h.gA (by decide),zP h1 h.gB (by decide),?_⟩
  rintro rfl;rw[h.gm] at h1;cases h1
 ·rintro rfl;have:=h.gm.symm.trans h.gA;cases this
 ·rintro rfl;have:=h.gm.symm.trans h.gB;cases this
theorem Vis.keep {s s':St}{N:Nat}{a b:Auto}{f f':Nat→Prop}{A0 B0 mp pt:Nat}{T:List Trip}{pv sv:AV}(h:Vis s N a b f A0 B0 mp pt T pv sv)(hn:s.next≤s'.next)(hg:∀j,j<s.next→N≤j→¬f j→s'.get j=s.get j)(hf:∀j,f' j→f j∨s.next≤j):Vis s' N a b f' A0 B0 mp pt T pv sv:=by
 obtain⟨gA,gB,gm,hp,hs,⟨l1,l2,l3,l4,l5,l6,l7,l8⟩,⟨f1,f2,f3,f4⟩,fp,fs,np⟩:=h
 have nf:∀j,j<s.next→¬f j→¬f' j:=fun j h1 h2 h3=>by rcases hf j h3 with h|h;exact h2 h;omega
 exact⟨(hg _ l1 l5 f1).trans gA,(hg _ l2 l6 f2).trans gB,(hg _ l3 l7 f3).trans gm,hp.keepB hn fun j h1 h2=>hg j h1 (hp.ltB h2).1 (fp j h2).1,hs.keepB hn fun j h1 h2=>hg j h1 (hs.ltB h2).1 (fs j h2),⟨by omega,by omega,by omega,by omega,l5,l6,l7,l8⟩,⟨nf _ l1 f1,nf _ l2 f2,nf _ l3 f3,nf _ l4 f4⟩,fun j hj=>⟨nf j (hp.ltB hj).2.1 (fp j hj).1,(fp j hj).2⟩,fun j hj=>nf j (hs.ltB hj).2.1 (fs j hj),np⟩
theorem pcs_app (k:Nat)(L:List Nat)(c:Nat):pcs k (L++[c])=pcs k L++[.int .i64 ((c / k:Nat):Int),.int .i64 ((c%k:Nat):Int)]:=by simp[pcs,yM]
theorem scs_app (L:List (Int×Int))(p:Int×Int):scs (L++[p])=scs L++[.int .i64 p.1,.int .i64 p.2]:=by simp[scs]
theorem stp_app {T:List Trip}(h:0<T.length)(t:Trip):stp (T++[t])=stp T++[((t.2.1:Int),(t.2.2:Int))]:=by
 cases T with
 |nil=>simp at h
 |cons a l=>simp[stp]
theorem codes_app (T:List Trip)(t:Trip):zV (T++[t])=zV T++[t.1]:=by simp[zV]
theorem codes_len (T:List Trip):(zV T).length=T.length:=by simp[zV]
def rowC (c x:Nat):List (Nat×Nat):=(List.range x).map fun z=>(c,z)
theorem rowC_succ (c x:Nat):rowC c (x+1)=rowC c x++[(c,x)]:=by simp[rowC,List.range_succ]
theorem Vis.put {s s':St}{N:Nat}{a b:Auto}{f:Nat→Prop}{A0 B0 mp pt:Nat}{T:List Trip}{pv sv:AV}(h:Vis s N a b f A0 B0 mp pt T pv sv)(hT:0<T.length){c i x pb sb:Nat}(hn:s.next≤s'.next)
  (hm:s'.get mp=some (.map (entP b.fa.n (fun _=>.bool true) (zV T++[c]) 0) false))
  (hp:PrI s' N 186 (T.length+1) (pcs b.fa.n (zV T)++[.int .i64 ((c / b.fa.n:Nat):Int),.int .i64 ((c%b.fa.n:Nat):Int)]) (.sl pb 0 (T.length+1) none 2))
  (hs:PrI s' N 262 (T.length+1) (scs (stp T)++[.int .i64 (i:Int),.int .i64 (x:Int)]) (.sl sb 0 (T.length+1) none 2))
  (hpb:s.next≤pb)(hsb:s.next≤sb)(hg:∀j,j<s.next→j≠mp→¬isB2 pv j→¬isB2 sv j→s'.get j=s.get j)(hfl:∀j,f j→j<s.next) :
  Vis s' N a b f A0 B0 mp pt (T++[(c,i,x)]) (.sl pb 0 (T.length+1) none 2) (.sl sb 0 (T.length+1) none 2):=by
 obtain⟨n1,n2,n3,n4⟩:=h.ne
 obtain⟨gA,gB,gm,hp0,hs0,⟨l1,l2,l3,l4,l5,l6,l7,l8⟩,fA,fp,fs,np⟩:=h
 refine⟨(hg _ l1 n3 (fun h=>(n1 _ h).1 rfl) fun h=>(n2 _ h).1 rfl).trans gA,(hg _ l2 n4 (fun h=>(n1 _ h).2.1 rfl) fun h=>(n2 _ h).2.1 rfl).trans gB,?_,?_,?_,⟨by omega,by omega,by omega,by omega,l5,l6,l7,l8⟩,fA,fun j hj=>?_,fun j hj=>?_,np⟩
 ·rw[codes_app];exact hm
 ·rw[codes_app,pcs_app,List.length_append,List.length_singleton];exact hp
 ·rw[stp_app hT,scs_app,List.length_append,List.length_singleton];exact hs
 ·rw[isB2_sl] at hj;subst hj
  exact⟨fun h=>by have:=hfl _ h;omega,by omega⟩
 ·rw[isB2_sl] at hj;subst hj
  exact fun h=>by have:=hfl _ h;omega
theorem l114a {β:Type}{fin:Fl→β}{ks:List K}{Post:β→Prop}{a b:Auto}(ha:a.ok)(hb:b.ok)(hlb:a.lines=b.lines){fn:AV}{N:Nat}{G:Type}{CI:G→St→Prop}{fp:G→Nat→Prop}{dom:Nat→Nat→Prop}{y:Nat→Nat→Bool}{nxt:G→Nat→Nat→G→Prop}
  (Y:Yld fn b.fa.n N G CI fp dom y nxt){c i:Nat}(hc:c<(zQ a.fa b.fa).n)(hdom:∀x,x<2^a.lines.toNat→dom c x){T:List Trip}(hT:VisI (zQ a.fa b.fa) T)(hi:i<T.length){A0 B0 mp pt:Nat}{pv sv:AV}{g:G}{vr:List Trip×Option Nat}
  (hvr:visRow ((zQ a.fa b.fa).nx c) (y c) i (2^a.lines.toNat) 0 T=vr)
  {e:Env}{s:St}(g2:Env.get e 2=fn)(g3:Env.get e 3=.ptr A0 0)(g4:Env.get e 4=.ptr B0 0)(g8:Env.get e 8=.map mp)(g9:Env.get e 9=pv)(g10:Env.get e 10=sv)(g13:Env.get e 13=.int .i64 (i:Nat))(g14:Env.get e 14=.ptr pt 0)(g36:Env.get e 36=.int .i64 ((2^a.lines.toNat:Nat):Int))(g37:Env.get e 37=.int .i64 (0:Nat))
  (V:Vis s N a b (fp g) A0 B0 mp pt T pv sv)(gpt:s.get pt=some (.cells (yM b.fa.n c) 186 false 0 0))(hci:CI g s)(fr:Fr s)(hN:N≤s.next)
  (hk:vr.2=none→∀e' s' pv' sv' g',(∀t:Nat,t<15→t≠9→t≠10→Env.get e' t=Env.get e t)→Env.get e' 9=pv'→Env.get e' 10=sv'→Vis s' N a b (fp g') A0 B0 mp pt vr.1 pv' sv'→Stps nxt g (rowC c (2^a.lines.toNat)) g'→CI g' s'→(∀j,j<N→¬fp g j→s'.get j=s.get j)→s.next≤s'.next→(∀j,fp g' j→fp g j∨N≤j)→Fr s'→Post (goN U fin ks e' s'))
  (hx:∀z,vr.2=some z→∀e' s' pv' sv' w g',(∀t:Nat,t<15→t≠9→t≠10→t≠11→t≠12→Env.get e' t=Env.get e t)→Env.get e' 9=pv'→Env.get e' 10=sv'→Env.get e' 11=.int .i64 (i:Nat)→Env.get e' 12=.sl w 0 1 (some 1) 1→s'.get w=some (.cells (nats [z]) 3 false 0 0)→s.next≤w→w<s'.next→¬fp g' w→Vis s' N a b (fp g') A0 B0 mp pt vr.1 pv' sv'→(∃l,Stps nxt g l g')→CI g' s'→(∀j,j<N→¬fp g j→s'.get j=s.get j)→s.next≤s'.next→(∀j,fp g' j→fp g j∨N≤j)→Fr s'→Post (goX U fin ks 0 e' s')) :
  Post (goL U fin (.bk 2::ks) r114_l0 e s):=by
 have hA:=prodF_ok ha.faok hb.faok (by show 2^a.lines.toNat=2^b.lines.toNat;rw[hlb])
 have hc1:c / b.fa.n<a.next.length:=Nat.div_lt_of_lt_mul (by rw[Nat.mul_comm];exact hc)
 have hc2:c%b.fa.n<b.next.length:=Nat.mod_lt _ hb.pos
 have hm16:=ha.m16
 have hnn:(zQ a.fa b.fa).n≤65536:=Nat.mul_le_mul ha.few hb.few
 refine yE (σ:=Nat) (fun x=>2^a.lines.toNat-x) (fun x e' s'=>x≤2^a.lines.toNat∧(∀t:Nat,t<15∨t=36→t≠9→t≠10→Env.get e' t=Env.get e t)∧Env.get e' 37=.int .i64 (x:Nat) ∧
   (∀j,j<N→¬fp g j→s'.get j=s.get j)∧s.next≤s'.next∧Fr s'∧s'.get pt=some (.cells (yM b.fa.n c) 186 false 0 0) ∧
   ∃T' pv' sv' g',visRow ((zQ a.fa b.fa).nx c) (y c) i (2^a.lines.toNat-x) x T'=vr∧VisI (zQ a.fa b.fa) T'∧i<T'.length∧Env.get e' 9=pv'∧Env.get e' 10=sv'∧Vis s' N a b (fp g') A0 B0 mp pt T' pv' sv'∧CI g' s'∧Stps nxt g (rowC c x) g'∧(∀j,fp g' j→fp g j∨N≤j)) 0 ?_
  ⟨Nat.zero_le _,fun _ _ _ _=>rfl,g37,fun _ _ _=>rfl,Nat.le_refl _,fr,gpt,T,pv,sv,g,by rw[Nat.sub_zero];exact hvr,hT,hi,g9,g10,V,hci,.nil g,fun j hj=>.inl hj⟩
 rintro Lp x e' s' ⟨hx0,hold,q37,hs,hnx,fr',qpt,T',pv',sv',g1,hrun,hT',hi',q9,q10,V',hci',hst,hfp⟩ IH
 have q2:=(hold 2 (by omega) (by omega) (by omega)).trans g2
 have q3:=(hold 3 (by omega) (by omega) (by omega)).trans g3
 have q4:=(hold 4 (by omega) (by omega) (by omega)).trans g4
 have q8:=(hold 8 (by omega) (by omega) (by omega)).trans g8
 have q13:=(hold 13 (by omega) (by omega) (by omega)).trans g13
 have q14:=(hold 14 (by omega) (by omega) (by omega)).trans g14
 have q36:=(hold 36 (by omega) (by omega) (by omega)).trans g36
 have hTl:=hT'.len
 unfold yM at qpt
 by_cases hd:x<2^a.lines.toNat
 ·have hw:=zR hd (by omega)
  obtain⟨g2',s1,hcall,hnxt,hci1,hfp1,hs1,hn1,fr1⟩:=Y.call g1 c x s' (hdom x hd) hci' fr'
  unfold yM at hcall
  have V1:Vis s1 N a b (fp g2') A0 B0 mp pt T' pv' sv':=V'.keep hn1 (fun j h1 _ h3=>hs1 j h1 h3) hfp1
  have hst1:Stps nxt g (rowC c (x+1)) g2':=by rw[rowC_succ];exact .snoc hst hnxt
  have hfp2:∀j,fp g2' j→fp g j∨N≤j:=fun j hj=>by
   rcases hfp1 j hj with h|h
   ·exact hfp j h
   ·exact .inr (by omega)
  have hs2:∀j,j<N→¬fp g j→s1.get j=s.get j:=fun j h1 h2=>(hs1 j (by omega) fun h=>by rcases hfp j h with h|h;exact h2 h;omega).trans (hs j h1 h2)
  have hpt1:s1.get pt=some (.cells [.int .i64 ((c / b.fa.n:Nat):Int),.int .i64 ((c%b.fa.n:Nat):Int)] 186 false 0 0):=(hs1 pt V'.lt.2.2.2.1 V'.fA.2.2.2).trans qpt
  have hlt1:=Y.lt g2' s1 hci1
  rw[show 2^a.lines.toNat-x=(2^a.lines.toNat-(x+1))+1 by omega,visRow] at hrun
  have hnt:∀t:Nat,t<15∨t=36→t≠9→t≠10→(9=t)=False∧(10=t)=False∧(15=t)=False∧(16=t)=False∧∀k:Nat,37≤k→(k=t)=False:=fun t h1 h2 h3=>⟨by simp;omega,by simp;omega,by simp;omega,by simp;omega,fun k hk=>by simp;omega⟩
  cases hy:y c x with
  |false =>
   rw[hy,cond_false] at hrun
   rw[hy] at hcall
   subst hrun
   simp (maxSteps:=2000000) +contextual only[go_sem,↓reduceIte,r114_l0,q2,q13,q14,q36,q37,qpt,zA,hd,hcall]
   refine hx x rfl _ _ pv' sv' s1.next g2' (fun t h1 h2 h3 h4 h5=>?_) ?_ ?_ ?_ ?_ ?_ (by omega) ?_ (fun h=>by have:=hlt1 _ h;omega) ?_ ⟨_,hst1⟩ ?_ (fun j h1 h2=>?_) ?_ hfp2 ?_
   ·obtain⟨n9,n10,n15,n16,n37⟩:=hnt t (.inl h1) h2 h3
    simp +contextual only[go_sem,↓reduceIte,n15,n37,eq_false h4.symm,eq_false h5.symm]
    exact hold t (.inl h1) h2 h3
   ·simp +contextual only[go_sem,↓reduceIte,q9]
   ·simp +contextual only[go_sem,↓reduceIte,q10]
   ·simp +contextual only[go_sem,↓reduceIte]
   ·simp +contextual only[go_sem,↓reduceIte]
   ·rw[get_new,if_pos rfl];rfl
   ·rw[next_new];omega
   ·exact V1.keep (by rw[next_new];omega) (fun j h1 _ _=>by rw[get_new,if_neg (by omega)]) fun j hj=>.inl hj
   ·exact Y.keep g2' s1 _ hci1 (by rw[next_new];omega) fun j h1 _=>by rw[get_new,if_neg (by omega)]
   ·rw[get_new,if_neg (by omega)];exact hs2 j h1 h2
   ·rw[next_new];omega
   ·exact fr1.new _
  |true =>
   rw[hy,cond_true] at hrun
   rw[hy] at hcall
   have lt3:(zQ a.fa b.fa).nx c x<(zQ a.fa b.fa).n:=hA.lt c x hc hd
   have hpn:=pcell_nx hb hlb hc hd
   have n1:=ha.nxAt hc1 hd
   have n2:=hb.nxAt hc2 (by rw[←hlb];exact hd)
   have r1:=ixa_rowI (nl:=a.nNl) hc1
   have r2:=ixa_rowI (nl:=b.nNl) hc2
   have hgA:=V1.gA
   have hgB:=V1.gB
   have hgm:=V1.gm
   obtain⟨l1,l2,l3,l4,l5,l6,l7,l8⟩:=V1.lt
   have lk:=fun (S:St) (h:S.get mp=some (.map (entP b.fa.n (fun _=>.bool true) (zV T') 0) false))=>lookup260 h ((zQ a.fa b.fa).nx c x)
   have up:=fun (S:St) (h:S.get mp=some (.map (entP b.fa.n (fun _=>.bool true) (zV T') 0) false))=>update260 h (c:=(zQ a.fa b.fa).nx c x)
   rw[hpn] at lk up
   generalize hcn:(zQ a.fa b.fa).nx c x=cn at *
   have hfk:=fr1.at
   have f1:∀q,(s1.next+q=A0)=False:=fun q=>by simp;omega
   have f2:∀q,(s1.next+q=B0)=False:=fun q=>by simp;omega
   have f3:∀q,(s1.next+q=mp)=False:=fun q=>by simp;omega
   have f4:∀q,(s1.next+q=pt)=False:=fun q=>by simp;omega
   have f5:∀q,(mp=s1.next+q)=False:=fun q=>by simp;omega
   by_cases hin:cn∈T'.map (·.1)
   ·have hin2:idxN (zV T') cn<(zV T').length:=(idxN_lt _ _).2 hin
    rw[decide_eq_true hin,cond_true] at hrun
    rw[decide_eq_true hin2] at lk
    simp (maxSteps:=2000000) +contextual only[go_sem,↓reduceIte,r114_l0,q2,q3,q4,q8,q13,q14,q36,q37,qpt,zA,hd,hcall,hgA,hgB,hgm,hpt1,r1,r2,n1,n2,hw,f1,f2,f3,f4,hfk,lk,Nat.add_assoc]
    have k4:∀j,j<s1.next→(((s1.upto (s1.next+21)).put (s1.next+19) (.cells [.int .i64 0,.int .i64 0] 186 false 0 0)).put (s1.next+19) (.cells [.int .i64 ((a.fa.nx (c / b.fa.n) x:Nat):Int),.int .i64 ((b.fa.nx (c%b.fa.n) x:Nat):Int)] 186 false 0 0)).get j=s1.get j:=fun j hj=>by
     rw[get_put,if_neg (by omega),get_put,if_neg (by omega),zJ]
    refine IH (x+1) _ _ (by omega) ⟨by omega,fun t h1 h2 h3=>?_,?_,fun j h1 h2=>by rw[k4 j (by omega)];exact hs2 j h1 h2,by simp only[next_put,zB];omega,?_,by rw[k4 pt l4];exact hpt1,T',pv',sv',g2',?_,hT',hi',?_,?_,V1.keep (by simp only[next_put,zB];omega) (fun j h1 _ _=>k4 j h1) (fun j hj=>.inl hj),Y.keep g2' s1 _ hci1 (by simp only[next_put,zB];omega) (fun j h1 _=>k4 j h1),hst1,hfp2⟩
    ·obtain⟨n9,n10,n15,n16,n37⟩:=hnt t h1 h2 h3
     simp +contextual only[go_sem,↓reduceIte,n9,n10,n15,n16,n37]
     exact hold t h1 h2 h3
    ·simp +contextual only[go_sem,↓reduceIte]
    ·repeat first|exact fr1|apply Fr.new|apply Fr.put|apply Fr.upto
     all_goals try simp only[next_put,next_new,zB]
     all_goals omega
    ·exact hrun
    ·simp +contextual only[go_sem,↓reduceIte,q9]
    ·simp +contextual only[go_sem,↓reduceIte,q10]
   ·have hin2:¬idxN (zV T') cn<(zV T').length:=fun h=>hin ((idxN_lt _ _).1 h)
    rw[decide_eq_false hin,cond_false] at hrun
    rw[decide_eq_false hin2] at lk
    have up:=fun S h=>up S h hin
    have hlP:=V1.hp.lenA
    have hlS:=V1.hs.lenA
    have hb1:(T'.length+1)*16≤1099511627776:=by omega
    have hb2:T'.length+1≤1099511627776:=by omega
    simp (maxSteps:=2000000) +contextual only[go_sem,↓reduceIte,r114_l0,q2,q3,q4,q8,q9,q10,q13,q14,q36,q37,qpt,zA,hd,hcall,hgA,hgB,hgm,hpt1,r1,r2,n1,n2,hw,f1,f2,f3,f4,f5,hfk,lk,up,Nat.add_assoc,Nat.mul_one,Nat.one_mul,zW,Nat.reducePow,hlP,hb1,hb2]
    obtain⟨S,hS⟩:∃S,S=((((s1.upto (s1.next+21)).put (s1.next+19) (.cells [.int .i64 0,.int .i64 0] 186 false 0 0)).put (s1.next+19) (.cells [.int .i64 ((a.fa.nx (c / b.fa.n) x:Nat):Int),.int .i64 ((b.fa.nx (c%b.fa.n) x:Nat):Int)] 186 false 0 0)).put mp (.map (entP b.fa.n (fun _=>.bool true) (zV T'++[cn]) 0) false)).new (.cells [.int .i64 ((a.fa.nx (c / b.fa.n) x:Nat):Int),.int .i64 ((b.fa.nx (c%b.fa.n) x:Nat):Int)] 186 false 0 0):=⟨_,rfl⟩
    rw[←hS]
    have hSn:S.next=s1.next+22:=by rw[hS];simp only[next_put,next_new,zB]
    have kS:∀j,j<s1.next→j≠mp→S.get j=s1.get j:=fun j h1 h2=>by rw[hS,get_new,next_put,next_put,next_put,zB,if_neg (by omega),get_put,if_neg h2.symm,get_put,if_neg (by omega),get_put,if_neg (by omega),zJ]
    have kSm:S.get mp=some (.map (entP b.fa.n (fun _=>.bool true) (zV T'++[cn]) 0) false):=by rw[hS,get_new,next_put,next_put,next_put,zB,if_neg (by omega),get_put,if_pos rfl]
    have frS:Fr S:=by
     rw[hS]
     repeat first|exact fr1|apply Fr.new|apply Fr.put|apply Fr.upto
     all_goals try simp only[next_put,next_new,zB]
     all_goals omega
    obtain⟨m1,m2,m3,m4⟩:=V1.ne
    have P1:PrI S N 186 T'.length (pcs b.fa.n (zV T')) pv':=V1.hp.keepB (by omega) fun j h1 h2=>kS j h1 (m1 j h2).2.2.1
    obtain⟨s4,d1,d2,d3,d4,d5⟩:=P1.appB (by omega) (.int .i64 ((a.fa.nx (c / b.fa.n) x:Nat):Int)) (.int .i64 ((b.fa.nx (c%b.fa.n) x:Nat):Int)) rfl rfl
    rw[d1]
    simp (maxSteps:=2000000) +contextual only[go_sem,↓reduceIte,q10,q13,Nat.mul_one,Nat.one_mul,zW,Nat.reducePow,hlS,hb1,hb2]
    have kQ:∀j,j<s1.next→j≠mp→¬isB2 pv' j→(s4.new (.cells [.int .i64 (i:Int),.int .i64 (x:Int)] 262 false 0 0)).get j=s1.get j:=fun j h1 h2 h3=>by rw[get_new,if_neg (by omega),d4 j (by omega) h3,kS j h1 h2]
    have P2:PrI (s4.new (.cells [.int .i64 (i:Int),.int .i64 (x:Int)] 262 false 0 0)) N 262 T'.length (scs (stp T')) sv':=V1.hs.keepB (by rw[next_new];omega) fun j h1 h2=>kQ j h1 (m2 j h2).2.2 fun h=>(m1 j h).2.2.2 h2
    obtain⟨s6,b1,b2,b3,b4,b5⟩:=P2.appB (by rw[next_new];omega) (.int .i64 (i:Int)) (.int .i64 (x:Int)) rfl rfl
    rw[b1]
    simp (maxSteps:=2000000) +contextual only[go_sem,↓reduceIte,q37,hw]
    rw[next_new] at b2 b3 b4
    have k6:∀j,j<s1.next→j≠mp→¬isB2 pv' j→¬isB2 sv' j→s6.get j=s1.get j:=fun j h1 h2 h3 h4=>by rw[b4 j (by omega) h4,kQ j h1 h2 h3]
    have hT2:0<T'.length:=by omega
    have nfp:∀j,fp g2' j∨j<N→j<s1.next→j≠mp∧¬isB2 pv' j∧¬isB2 sv' j:=fun j hj hl=>by
     rcases hj with hj|hj
     ·exact⟨fun e=>V1.fA.2.2.1 (e ▸ hj),fun h=>(V1.fp j h).1 hj,fun h=>V1.fs j h hj⟩
     ·exact⟨by omega,fun h=>by have:=(V1.hp.ltB h).1;omega,fun h=>by have:=(V1.hs.ltB h).1;omega⟩
    refine IH (x+1) _ _ (by omega) ⟨by omega,fun t h1 h2 h3=>?_,?_,fun j h1 h2=>?_,by omega,b5 ((d5 frS).new _),?_,T'++[(cn,i,x)],.sl S.next 0 (T'.length+1) none 2,.sl (s4.next+1) 0 (T'.length+1) none 2,g2',hrun,hT'.put lt3 hi' hd hin,by rw[List.length_append];omega,?_,?_,?_,Y.keep g2' s1 _ hci1 (by omega) (fun j h1 h2=>?_),hst1,hfp2⟩
    ·obtain⟨n9,n10,n15,n16,n37⟩:=hnt t h1 h2 h3
     simp +contextual only[go_sem,↓reduceIte,n9,n10,n15,n16,n37]
     exact hold t h1 h2 h3
    ·simp +contextual only[go_sem,↓reduceIte]
    ·obtain⟨a1,a2,a3⟩:=nfp j (.inr h1) (by omega)
     rw[k6 j (by omega) a1 a2 a3];exact hs2 j h1 h2
    ·rw[k6 pt l4 (fun e=>V1.np.2.2 e.symm) (fun h=>(V1.fp pt h).2 rfl) fun h=>zP hpt1 (V1.hs.ltB h).2.2 (by decide) rfl];exact hpt1
    ·simp +contextual only[go_sem,↓reduceIte]
    ·simp +contextual only[go_sem,↓reduceIte]
    ·have hpc:yM b.fa.n cn=[.int .i64 ((cn / b.fa.n:Nat):Int),.int .i64 ((cn%b.fa.n:Nat):Int)]:=rfl
     rw[hpn] at hpc
     rw[hpc] at d3
     refine V1.put hT2 (by omega) ?_ (d3.keepB (by omega) fun j h1 h2=>?_) b3 (by omega) (by omega) k6 hlt1
     ·rw[b4 mp (by omega) (fun h=>(m2 mp h).2.2 rfl),get_new,if_neg (by omega),d4 mp (by omega) fun h=>(m1 mp h).2.2.1 rfl];exact kSm
     ·rw[isB2_sl] at h2
      subst h2
      rw[b4 _ (by omega) fun h=>by have:=(V1.hs.ltB h).2.1;omega,get_new,if_neg (by omega)]
    ·obtain⟨a1,a2,a3⟩:=nfp j h2 h1
     exact k6 j h1 a1 a2 a3
 ·have hxe:x=2^a.lines.toNat:=by omega
  subst hxe
  rw[Nat.sub_self,visRow] at hrun
  subst hrun
  simp (maxSteps:=2000000) +contextual only[go_sem,↓reduceIte,r114_l0,q36,q37,zA,Nat.lt_irrefl]
  refine hk rfl _ _ pv' sv' g1 (fun t h1 h2 h3=>?_) ?_ ?_ V' hst hci' hs hnx hfp fr'
  ·have hne:∀k:Nat,37≤k→(k=t)=False:=fun k hk=>by simp;omega
   simp +contextual only[go_sem,↓reduceIte,hne]
   exact hold t (.inl h1) h2 h3
  ·simp +contextual only[go_sem,↓reduceIte,q9]
  ·simp +contextual only[go_sem,↓reduceIte,q10]
theorem Vis.pt {s s':St}{N:Nat}{a b:Auto}{f:Nat→Prop}{A0 B0 mp pt:Nat}{T:List Trip}{pv sv:AV}(h:Vis s N a b f A0 B0 mp pt T pv sv)(hn:s.next<s'.next)(hg:∀j,j<s.next→s'.get j=s.get j)(hfl:∀j,f j→j<s.next):Vis s' N a b f A0 B0 mp s.next T pv sv:=by
 obtain⟨gA,gB,gm,hp,hs,⟨l1,l2,l3,l4,l5,l6,l7,l8⟩,⟨f1,f2,f3,f4⟩,fp,fs,np⟩:=h
 exact⟨(hg _ l1).trans gA,(hg _ l2).trans gB,(hg _ l3).trans gm,hp.keepB (by omega) fun j h1 _=>hg j h1,hs.keepB (by omega) fun j h1 _=>hg j h1,⟨by omega,by omega,by omega,hn,l5,l6,l7,by omega⟩,⟨f1,f2,f3,fun h=>by have:=hfl _ h;omega⟩,fun j hj=>⟨(fp j hj).1,by have:=(hp.ltB hj).2.1;omega⟩,fs,⟨by omega,by omega,by omega⟩⟩
theorem Stps.trans {G:Type}{nxt:G→Nat→Nat→G→Prop}{g g1 g2:G}{l l':List (Nat×Nat)}(h:Stps nxt g l g1)(h':Stps nxt g1 l' g2):Stps nxt g (l++l') g2:=by
 induction h' with
 |nil=>rw[List.append_nil];exact h
 |snoc h1 h2 ih=>rw[←List.append_assoc];exact .snoc ih h2
theorem pcs_len (k:Nat):∀L:List Nat,(pcs k L).length=L.length*2
 |[]=>rfl
 |c::l=>by
  have:=pcs_len k l
  rw[pcs,List.flatMap_cons,List.length_append,List.length_cons]
  unfold pcs at this
  rw[this]
  show 2+_=_
  omega
theorem pcs_grab (k:Nat):∀(L:List Nat) (i:Nat) (h:i<L.length),grab 2 (i*2) (pcs k L)=some (yM k L[i])
 |c::l,0,_=>by
  rw[pcs,List.flatMap_cons,Nat.zero_mul]
  simp[yM,grab_head,grab_zero]
 |c::l,i+1,h=>by
  have:=pcs_grab k l i (by rw[List.length_cons] at h;omega)
  rw[pcs,List.flatMap_cons,show (i+1)*2=i*2+2 by omega]
  exact this
theorem l114b {β:Type}{fin:Fl→β}{ks:List K}{Post:β→Prop}{a b:Auto}(ha:a.ok)(hb:b.ok)(hlb:a.lines=b.lines){fn:AV}{N:Nat}{G:Type}{CI:G→St→Prop}{fp:G→Nat→Prop}{dom:Nat→Nat→Prop}{y:Nat→Nat→Bool}{nxt:G→Nat→Nat→G→Prop}
  (Y:Yld fn b.fa.n N G CI fp dom y nxt)(hdom:∀c x,c<(zQ a.fa b.fa).n→x<2^a.lines.toNat→dom c x){A0 B0 mp pt:Nat}{pv sv:AV}{g:G}
  {e:Env}{s:St}(g2:Env.get e 2=fn)(g3:Env.get e 3=.ptr A0 0)(g4:Env.get e 4=.ptr B0 0)(g8:Env.get e 8=.map mp)(g9:Env.get e 9=pv)(g10:Env.get e 10=sv)(g13:Env.get e 13=.int .i64 (0:Nat))
  (V:Vis s N a b (fp g) A0 B0 mp pt [(0,0,0)] pv sv)(hci:CI g s)(fr:Fr s)(hN:N≤s.next)
  (hk:(yC (zQ a.fa b.fa) y).2=none→∀e' s' pv' sv' pt' g',Env.get e' 11=Env.get e 11→Env.get e' 12=Env.get e 12→Env.get e' 9=pv'→Env.get e' 10=sv'→Vis s' N a b (fp g') A0 B0 mp pt' (yC (zQ a.fa b.fa) y).1 pv' sv'→Stps nxt g ((zV (yC (zQ a.fa b.fa) y).1).flatMap fun c=>rowC c (2^a.lines.toNat)) g'→CI g' s'→(∀j,j<N→¬fp g j→s'.get j=s.get j)→s.next≤s'.next→(∀j,fp g' j→fp g j∨N≤j)→Fr s'→Post (goN U fin ks e' s'))
  (hx:∀k z,(yC (zQ a.fa b.fa) y).2=some (k,z)→∀e' s' pv' sv' pt' w g',Env.get e' 9=pv'→Env.get e' 10=sv'→Env.get e' 11=.int .i64 (k:Nat)→Env.get e' 12=.sl w 0 1 (some 1) 1→s'.get w=some (.cells (nats [z]) 3 false 0 0)→N≤w→w<s'.next→¬fp g' w→Vis s' N a b (fp g') A0 B0 mp pt' (yC (zQ a.fa b.fa) y).1 pv' sv'→CI g' s'→(∀j,j<N→¬fp g j→s'.get j=s.get j)→s.next≤s'.next→(∀j,fp g' j→fp g j∨N≤j)→Fr s'→Post (goN U fin ks e' s')) :
  Post (goL U fin (.bk 0::ks) r114_l1 e s):=by
 have hA:=prodF_ok ha.faok hb.faok (by show 2^a.lines.toNat=2^b.lines.toNat;rw[hlb])
 have hnn:(zQ a.fa b.fa).n≤65536:=Nat.mul_le_mul ha.few hb.few
 have hsh:=bin_shl1 U 3 true .i64 (n:=a.lines) (by have:=ha.lines;omega)
 have hpw:((2:Int)^a.lines.toNat)=((2^a.lines.toNat:Nat):Int):=by simp
 rw[hpw] at hsh
 refine yE (σ:=Nat) (fun i=>(zQ a.fa b.fa).n-i) (fun i e' s'=>Env.get e' 2=fn∧Env.get e' 3=.ptr A0 0∧Env.get e' 4=.ptr B0 0∧Env.get e' 8=.map mp∧Env.get e' 11=Env.get e 11∧Env.get e' 12=Env.get e 12∧Env.get e' 13=.int .i64 (i:Nat) ∧
   (∀j,j<N→¬fp g j→s'.get j=s.get j)∧s.next≤s'.next∧Fr s' ∧
   ∃T' pv' sv' pt' g',visT (zQ a.fa b.fa) y ((zQ a.fa b.fa).n+1-i) i T'=yC (zQ a.fa b.fa) y∧VisI (zQ a.fa b.fa) T'∧i≤T'.length∧Env.get e' 9=pv'∧Env.get e' 10=sv'∧Vis s' N a b (fp g') A0 B0 mp pt' T' pv' sv'∧CI g' s'∧Stps nxt g (((zV T').take i).flatMap fun c=>rowC c (2^a.lines.toNat)) g'∧(∀j,fp g' j→fp g j∨N≤j)) 0 ?_
  ⟨g2,g3,g4,g8,rfl,rfl,g13,fun _ _ _=>rfl,Nat.le_refl _,fr,[(0,0,0)],pv,sv,pt,g,rfl,visI0 hA,Nat.zero_le _,g9,g10,V,hci,.nil g,fun j hj=>.inl hj⟩
 rintro Lp i e' s' ⟨q2,q3,q4,q8,q11,q12,q13,hs,hnx,fr',T',pv',sv',pt',g1,hrun,hT',hi,q9,q10,V',hci',hst,hfp⟩ IH
 have hTl:=hT'.len
 have hlen:=V'.hp.lenA
 obtain⟨bp,cap,hpv,hp2,hp3,hp4,hp5,hp6⟩:=V'.hp
 rw[show (zQ a.fa b.fa).n+1-i=((zQ a.fa b.fa).n-i)+1 by omega,visT] at hrun
 by_cases hd:i<T'.length
 ·have hwr:=zR hd (by omega)
  rw[List.getElem?_eq_getElem hd] at hrun
  simp only at hrun
  have hc:T'[i].1<(zQ a.fa b.fa).n:=hT'.lt _ (List.getElem_mem hd)
  have hcx:(zV T')[i]'(by rw[codes_len];exact hd)=T'[i].1:=by simp[zV]
  have gr:=pcs_grab b.fa.n (zV T') i (by rw[codes_len];exact hd)
  rw[hcx] at gr
  have hg9:=q9.trans hpv
  have hlt1:=Y.lt g1 s' hci'
  have hgA:=V'.gA
  obtain⟨l1,l2,l3,l4,l5,l6,l7,l8⟩:=V'.lt
  have f1:(s'.next=A0)=False:=by simp;omega
  generalize hcd:T'[i].1=c at *
  unfold yM at gr
  simp (maxSteps:=2000000) +contextual only[go_sem,↓reduceIte,r114_l1,q3,q13,hg9,zA,hd,hp3,gr,hgA,hsh,f1]
  obtain⟨S,hS⟩:∃S,S=(s'.new (.cells [.int .i64 0,.int .i64 0] 186 false 0 0)).put s'.next (.cells [.int .i64 ((c / b.fa.n:Nat):Int),.int .i64 ((c%b.fa.n:Nat):Int)] 186 false 0 0):=⟨_,rfl⟩
  rw[←hS]
  have hSn:S.next=s'.next+1:=by rw[hS,next_put,next_new]
  have kS:∀j,j<s'.next→S.get j=s'.get j:=fun j h1=>by rw[hS,get_put,if_neg (by omega),get_new,if_neg (by omega)]
  have hpt:S.get s'.next=some (.cells (yM b.fa.n c) 186 false 0 0):=by rw[hS,get_put,if_pos rfl];rfl
  have frS:Fr S:=by rw[hS];exact (fr'.new _).put (by rw[next_new];omega) _
  have VS:Vis S N a b (fp g1) A0 B0 mp s'.next T' pv' sv':=V'.pt (by omega) kS hlt1
  have hciS:CI g1 S:=Y.keep g1 s' S hci' (by omega) fun j h1 _=>kS j h1
  have hVR:=visRow_spec hA hc (y c) (zQ a.fa b.fa).m 0 (T:=T') (i:=i) (by omega) hT' hd
  refine l114a (Post:=Post) ha hb hlb Y hc (fun x hx=>hdom c x hc hx) hT' hd (vr:=visRow ((zQ a.fa b.fa).nx c) (y c) i (2^a.lines.toNat) 0 T') rfl ?_ ?_ ?_ ?_ ?_ ?_ ?_ ?_ ?_ ?_ VS hpt hciS frS (by omega) ?_ ?_
  case refine_11 =>
   intro hnone e2 s2 pv2 sv2 g2' hold p9 p10 V2 hst2 hci2 hs2 hn2 hfp2 fr2
   have hm:(zQ a.fa b.fa).m=2^a.lines.toNat:=rfl
   rw[hm] at hrun hVR
   generalize visRow ((zQ a.fa b.fa).nx c) (y c) i (2^a.lines.toNat) 0 T'=v at *
   obtain⟨T2,o2⟩:=v
   simp only at hnone hrun V2 hVR
   subst hnone
   obtain⟨⟨i1,R,hR⟩,_,_⟩:=hVR
   have E2:∀t:Nat,t<14→t≠9→t≠10→Env.get e2 t=Env.get e' t:=fun t h1 h2 h3=>by
    rw[hold t (by omega) h2 h3]
    have hne:∀k:Nat,14≤k→(k=t)=False:=fun k hk=>by simp;omega
    simp +contextual only[go_sem,↓reduceIte,hne]
   have p2:=(E2 2 (by omega) (by omega) (by omega)).trans q2
   have p3:=(E2 3 (by omega) (by omega) (by omega)).trans q3
   have p4:=(E2 4 (by omega) (by omega) (by omega)).trans q4
   have p8:=(E2 8 (by omega) (by omega) (by omega)).trans q8
   have p11:=(E2 11 (by omega) (by omega) (by omega)).trans q11
   have p12:=(E2 12 (by omega) (by omega) (by omega)).trans q12
   have p13:=(E2 13 (by omega) (by omega) (by omega)).trans q13
   have hlT:i+1≤T2.length:=by rw[hR,List.length_append];omega
   have htk:(zV T2).take (i+1)=(zV T').take i++[c]:=by
    rw[hR]
    have e1:zV (T'++R)=zV T'++zV R:=by simp[zV]
    have hlc:=codes_len T'
    rw[e1,List.take_append_of_le_length (by omega),List.take_succ_eq_append_getElem (by omega),hcx]
   simp (maxSteps:=2000000) +contextual only[go_sem,↓reduceIte,p13,hwr]
   have hle2:=i1.len
   refine IH (i+1) _ _ (by omega) ⟨?_,?_,?_,?_,?_,?_,?_,fun j h1 h2=>?_,by omega,fr2,T2,pv2,sv2,s'.next,g2',?_,i1,hlT,?_,?_,V2,hci2,?_,fun j hj=>?_⟩
   case refine_8 =>
    rw[hs2 j h1 fun h=>by rcases hfp j h with h|h;exact h2 h;omega,kS j (by omega),hs j h1 h2]
   case refine_9=>rw[show (zQ a.fa b.fa).n+1-(i+1)=(zQ a.fa b.fa).n-i by omega];exact hrun
   case refine_12 =>
    rw[htk,List.flatMap_append,List.flatMap_singleton]
    exact hst.trans hst2
   case refine_13 =>
    rcases hfp2 j hj with h|h
    ·exact hfp j h
    ·exact .inr h
   all_goals simp +contextual only[go_sem,↓reduceIte,p2,p3,p4,p8,p9,p10,p11,p12]
  case refine_12 =>
   intro z hz e2 s2 pv2 sv2 w g2' hold p9 p10 p11 p12 hw hw1 hw2 hw3 V2 hst2 hci2 hs2 hn2 hfp2 fr2
   have hm:(zQ a.fa b.fa).m=2^a.lines.toNat:=rfl
   rw[hm] at hrun
   generalize visRow ((zQ a.fa b.fa).nx c) (y c) i (2^a.lines.toNat) 0 T'=v at *
   obtain⟨T2,o2⟩:=v
   simp only at hz hrun V2
   subst hz
   simp only at hrun
   rw[←hrun] at hx
   simp (maxSteps:=2000000) +contextual only[go_sem,↓reduceIte]
   refine hx i z rfl _ _ pv2 sv2 s'.next w g2' p9 p10 p11 p12 hw (by omega) hw2 hw3 V2 hci2 (fun j h1 h2=>?_) (by omega) (fun j hj=>?_) fr2
   ·rw[hs2 j h1 fun h=>by rcases hfp j h with h|h;exact h2 h;omega,kS j (by omega),hs j h1 h2]
   ·rcases hfp2 j hj with h|h
    ·exact hfp j h
    ·exact .inr h
  all_goals simp +contextual only[go_sem,↓reduceIte,q2,q3,q4,q8,q9,q10,q13]
  all_goals rfl
 ·have hie:i=T'.length:=by omega
  rw[List.getElem?_eq_none (by omega)] at hrun
  simp only at hrun
  have hle:decide ((i:Int)<(T'.length:Int))=false:=by rw[zA];simp;omega
  have hg9:=q9.trans hpv
  simp (maxSteps:=2000000) +contextual only[go_sem,↓reduceIte,r114_l1,q13,hg9,hle]
  rw[←hrun] at hk
  rw[List.take_of_length_le (by rw[codes_len];omega)] at hst
  refine hk rfl _ _ pv' sv' pt' g1 ?_ ?_ ?_ ?_ V' hst hci' hs hnx hfp fr'
  ·simp +contextual only[go_sem,↓reduceIte,q11]
  ·simp +contextual only[go_sem,↓reduceIte,q12]
  ·simp +contextual only[go_sem,↓reduceIte,q9]
  ·simp +contextual only[go_sem,↓reduceIte,q10]
theorem scs_get:∀(l:List (Int×Int)) (i:Nat) (h:i<l.length),(scs l)[i*2]? = some (.int .i64 l[i].1)∧(scs l)[i*2+1]? = some (.int .i64 l[i].2)
 |p::l,0,_=>⟨rfl,rfl⟩
 |p::l,i+1,h=>by
  have:=scs_get l i (by rw[List.length_cons] at h;omega)
  rw[show (i+1)*2=i*2+2 by omega]
  exact this
theorem stp_get {T:List Trip}{k:Nat}{t:Trip}(h:T[k+1]? = some t):∃h':k+1<(stp T).length,(stp T)[k+1]=((t.2.1:Int),(t.2.2:Int)):=by
 cases T with
 |nil=>simp at h
 |cons a l =>
  rw[List.getElem?_cons_succ] at h
  obtain⟨h1,h2⟩:=List.getElem?_eq_some_iff.1 h
  exact⟨by simp[stp,h1],by simp[stp,h2]⟩
theorem l114c {β:Type}{fin:Fl→β}{ks:List K}{Post:β→Prop}{A:Fa}{T:List Trip}(hT:VisI A T)(hTl:T.length≤65536){N k w:Nat}{cap:Option Nat}{sv:AV}{L:List Nat}(hk:k<T.length)(hcap:cap=none∨cap=some L.length)(hL:k+L.length≤2^20)
  {e:Env}{s:St}(g10:Env.get e 10=sv)(g11:Env.get e 11=.int .i64 (k:Nat))(g12:Env.get e 12=.sl w 0 L.length cap 1)(hs:PrI s N 262 T.length (scs (stp T)) sv)(gw:s.get w=some (.cells (nats L) 3 false 0 0))(nw:w<s.next)(fr:Fr s)
  (hk:∀e' s' w' cap',Env.get e' 9=Env.get e 9→Env.get e' 12=.sl w' 0 (L++(sigT T k k).reverse).length cap' 1→s'.get w'=some (.cells (nats (L++(sigT T k k).reverse)) 3 false 0 0)→(w'=w∨s.next≤w')→w'<s'.next→(∀j,j<s.next→j≠w→s'.get j=s.get j)→s.next≤s'.next→Fr s'→Post (goN U fin ks e' s')) :
  Post (goL U fin (.bk 4::ks) r114_l2 e s):=by
 have hk0:=hk
 generalize hR:L++(sigT T k k).reverse=R at *
 refine yE (σ:=Nat) (fun k=>k) (fun k' e' s'=>k'<T.length∧Env.get e' 9=Env.get e 9∧Env.get e' 10=sv∧Env.get e' 11=.int .i64 (k':Nat)∧PrI s' N 262 T.length (scs (stp T)) sv∧(∀j,j<s.next→j≠w→s'.get j=s.get j)∧s.next≤s'.next∧Fr s' ∧
   ∃L' w' cap',Env.get e' 12=.sl w' 0 L'.length cap' 1∧(cap'=none∨cap'=some L'.length)∧L'++(sigT T k' k').reverse=R∧k'+L'.length≤2^20∧s'.get w'=some (.cells (nats L') 3 false 0 0)∧(w'=w∨s.next≤w')∧w'<s'.next) k ?_
  ⟨by omega,rfl,g10,g11,hs,fun _ _ _=>rfl,Nat.le_refl _,fr,L,w,cap,g12,hcap,hR,hL,gw,.inl rfl,nw⟩
 rintro Lp k' e' s' ⟨hk',q9,q10,q11,hs',hsf,hnx,fr',L',w',cap',q12,hcap',hR',hL',gw',hw',nw'⟩ IH
 cases k' with
 |zero =>
  have hR':L'=R:=by rw[←hR'];simp[sigT]
  subst hR'
  have hd:decide (((0:Nat):Int)>0)=false:=rfl
  simp (maxSteps:=2000000) +contextual only[go_sem,↓reduceIte,r114_l2,q11,hd]
  refine hk0 _ _ w' cap' ?_ ?_ gw' hw' nw' hsf hnx fr'
  ·simp +contextual only[go_sem,↓reduceIte,q9]
  ·simp +contextual only[go_sem,↓reduceIte,q12]
 |succ k' =>
  have ht:T[k'+1]? = some T[k'+1]:=List.getElem?_eq_getElem hk'
  obtain⟨f1,f2⟩:=hT.fr k' _ ht
  obtain⟨hst,hst2⟩:=stp_get ht
  obtain⟨c1,c2⟩:=scs_get (stp T) (k'+1) hst
  rw[hst2] at c1 c2
  simp only at c1 c2
  have hsg:sigT T (k'+1) (k'+1)=sigT T T[k'+1].2.1 T[k'+1].2.1++[T[k'+1].2.2]:=by
   rw[sigT,ht]
   simp only
   rw[sigT_fuel hT k' _ f1 (by omega)]
  rw[hsg,List.reverse_append,List.reverse_singleton,←List.append_assoc] at hR'
  generalize T[k'+1].2.1=fm at *
  generalize T[k'+1].2.2=x at *
  have hd:decide (((k'+1:Nat):Int)>0)=true:=by simp
  obtain⟨bs,caps,rfl,hp2,hp3,hp4,hp5,hp6⟩:=hs'
  have hws:w'≠bs:=zP gw' hp3 (by decide)
  have hkT:k'+1<T.length:=hk'
  have hb3:(L'.length+1)*8≤1099511627776:=by omega
  have hb4:L'.length+1≤1099511627776:=by omega
  simp (maxSteps:=2000000) +contextual only[go_sem,↓reduceIte,r114_l2,q10,q11,q12,hd,hkT,hp3,c1,c2,Nat.zero_add,Nat.mul_one,Nat.one_mul,zW,Nat.reducePow,hb3,hb4]
  obtain⟨s4,d1,d2,d3,d4,d5⟩:=appC (b:=w') (L:=L') (s:=s'.new (.cells [.int .i64 (x:Int)] 3 false 0 0)) hcap' rfl (by rw[get_new,if_neg (by omega)];exact gw') (by rw[next_new];omega) x
  simp only[next_new] at d1 d2 d3 d4
  rw[d1]
  have k4:∀j,j<s'.next→j≠w'→s4.get j=s'.get j:=fun j h1 h2=>by rw[d4 j (by omega) h2,get_new,if_neg (by omega)]
  have u3:=(k4 bs hp6 hws.symm).trans hp3
  simp (maxSteps:=2000000) +contextual only[go_sem,↓reduceIte,q10,q11,hkT,u3,c1,Nat.zero_add,Nat.mul_one]
  refine IH fm _ _ (by omega) ⟨by omega,?_,?_,?_,⟨bs,caps,rfl,hp2,u3,hp4,hp5,by omega⟩,fun j h1 h2=>by rw[k4 j (by omega) (by omega),hsf j h1 h2],by omega,d5 (fr'.new _),L'++[x],s'.next+1,none,?_,.inl rfl,hR',by rw[List.length_append,List.length_singleton];omega,d3,.inr (by omega),by omega⟩
  ·simp +contextual only[go_sem,↓reduceIte,q9]
  ·simp +contextual only[go_sem,↓reduceIte,q10]
  ·simp +contextual only[go_sem,↓reduceIte]
  ·simp +contextual only[go_sem,↓reduceIte,List.length_append,List.length_singleton]
theorem c178 {s:St}{w:Nat}{L:List Nat}{cap:Option Nat}(hL:L≠[])(hlen:L.length≤2^30)(hg:s.get w=some (.cells (nats L) 3 false 0 0))(hw:w<s.next)(fr:Fr s) :
  ∃v s',cal U 178 [.sl w 0 L.length cap 1] s=some (v,s')∧s'.get w=some (.cells (nats L.reverse) 3 false 0 0)∧(∀j,j<s.next→j≠w→s'.get j=s.get j)∧s.next≤s'.next∧Fr s':=by
 suffices hgo:∃x,go U (finB U []) [] r178 (yG 0 [.sl w 0 L.length cap 1] .nil) s=some x∧x.2.get w=some (.cells (nats L.reverse) 3 false 0 0)∧(∀j,j<s.next→j≠w→x.2.get j=s.get j)∧s.next≤x.2.next∧Fr x.2 by
  obtain⟨x,h1,h2⟩:=hgo
  exact⟨x.1,x.2,kept_go k178 (by kernel_rfl) h1,h2⟩
 obtain⟨m,hm⟩:∃m,L.length=m+1:=⟨L.length-1,by have:=List.length_pos_iff.2 hL;omega⟩
 have hwr:IntKind.i64.wrap ((L.length:Int)-1)=(m:Int):=by rw[wrap_i64] <;> omega
 simp (maxSteps:=2000000) +contextual only[go_sem,↓reduceIte,r178,hwr]
 refine yE (Post:=fun (o:Option (AV×St))=>∃x,o=some x∧x.2.get w=some (.cells (nats L.reverse) 3 false 0 0)∧(∀j,j<s.next→j≠w→x.2.get j=s.get j)∧s.next≤x.2.next∧Fr x.2) (σ:=Nat×Nat) (fun p=>p.2) (fun p e' s'=>p.1+p.2+1=L.length∧Env.get e' 0=.sl w 0 L.length cap 1∧Env.get e' 2=.int .i64 (p.1:Nat)∧Env.get e' 3=.int .i64 (p.2:Nat)∧(∀j,j<s.next→j≠w→s'.get j=s.get j)∧s.next≤s'.next∧Fr s' ∧
   ∃M:List Nat,M.length=L.length∧s'.get w=some (.cells (nats M) 3 false 0 0)∧∀x,x<L.length→M[x]? = if x<p.1∨L.length≤x+p.1 then L[L.length-1-x]? else L[x]?) (0,m) ?_
  ⟨by simp only;omega,?_,?_,?_,fun _ _ _=>rfl,Nat.le_refl _,fr,L,rfl,hg,fun x hx=>by simp only;rw[if_neg (by omega)]⟩
 ·rintro Lp ⟨i,j⟩ e' s' ⟨hij,q0,q2,q3,hsf,hnx,fr',M,hM,gM,hMx⟩ IH
  simp only at hij q2 q3 hMx
  by_cases hd:i<j
  ·have hw1:=zR hd (by omega)
   have hw2:IntKind.i64.wrap ((j:Int)-1)=((j-1:Nat):Int):=by rw[wrap_i64] <;> omega
   have hi:i<L.length:=by omega
   have hj:j<L.length:=by omega
   have o1:=yL (l:=M) (i:=i) (by omega)
   have o2:=yL (l:=M) (i:=j) (by omega)
   have y1:=nats_lay (l:=M) (i:=i) (gt M j) (by omega)
   have y2:=nats_lay (l:=M.set i (gt M j)) (i:=j) (gt M i) (by rw[List.length_set];omega)
   have hws:w<s'.next:=by omega
   have f1:∀q,(s'.next+q=w)=False:=fun q=>by simp;omega
   have f2:∀q,(w=s'.next+q)=False:=fun q=>by simp;omega
   simp (maxSteps:=2000000) +contextual only[go_sem,↓reduceIte,r178_l0,q0,q2,q3,zA,hd,hi,hj,gM,o1,o2,y1,y2,Nat.zero_add,Nat.mul_one,hw1,hw2,f1,f2]
   have gj:M[j]? = some (gt M j):=by rw[gt_get (by omega)];exact List.getElem?_eq_getElem _
   have gi:M[i]? = some (gt M i):=by rw[gt_get (by omega)];exact List.getElem?_eq_getElem _
   have mj:=hMx j hj
   have mi:=hMx i hi
   rw[if_neg (by omega)] at mj mi
   refine IH (i+1,j-1) _ _ (by simp only;omega) ⟨by simp only;omega,?_,?_,?_,fun k h1 h2=>?_,?_,?_,(M.set i (gt M j)).set j (gt M i),by simp[hM],?_,fun x hx=>?_⟩
   ·simp +contextual only[go_sem,↓reduceIte,q0]
   ·simp +contextual only[go_sem,↓reduceIte]
   ·simp +contextual only[go_sem,↓reduceIte]
   ·rw[get_put,if_neg h2.symm,get_put,if_neg h2.symm,zJ];exact hsf k h1 h2
   ·simp only[next_put,zB];omega
   ·repeat first|exact fr'|apply Fr.new|apply Fr.put|apply Fr.upto
    all_goals try simp only[next_put,next_new,zB]
    all_goals omega
   ·rw[get_put,if_pos rfl]
   ·simp only
    rw[List.getElem?_set,List.getElem?_set]
    by_cases e1:j=x
    ·subst e1
     rw[if_pos rfl,if_pos (by rw[List.length_set];omega),if_pos (by omega),show L.length-1-j=i by omega,←mi,gi]
    ·rw[if_neg e1]
     by_cases e2:i=x
     ·subst e2
      rw[if_pos rfl,if_pos (by omega),if_pos (by omega),show L.length-1-i=j by omega,←mj,gj]
     ·rw[if_neg e2,hMx x hx]
      by_cases e3:x<i∨L.length≤x+i
      ·rw[if_pos e3,if_pos (by omega)]
      ·rw[if_neg e3,if_neg (by omega)]
  ·simp (maxSteps:=2000000) +contextual only[go_sem,↓reduceIte,r178_l0,q2,q3,zA,hd]
   have hMe:M=L.reverse:=by
    refine List.ext_getElem? fun x=>?_
    by_cases hx:x<L.length
    ·rw[List.getElem?_reverse hx,hMx x hx]
     by_cases e3:x<i∨L.length≤x+i
     ·rw[if_pos e3]
     ·rw[if_neg e3,show L.length-1-x=x by omega]
    ·rw[List.getElem?_eq_none (by omega),List.getElem?_eq_none (by rw[List.length_reverse];omega)]
   rw[←hMe]
   exact⟨_,rfl,gM,hsf,hnx,fr'⟩
 all_goals simp +contextual only[go_sem,↓reduceIte]
 all_goals rfl
theorem k178' (args:List AV)(s:St):callK U (calV U 178 args) 178 args s=cal U 178 args s:=(callK_eq U 178 args s).symm
theorem k114' (args:List AV)(s:St):callK U (calV U 114 args) 114 args s=cal U 114 args s:=(callK_eq U 114 args s).symm
theorem c178n (s:St):∃v,cal U 178 [.nils] s=some (v,s):=by
 suffices hgo:∃v,go U (finB U []) [] r178 (yG 0 [.nils] .nil) s=some (v,s) by
  obtain⟨v,h1⟩:=hgo
  exact⟨v,kept_go k178 (by kernel_rfl) h1⟩
 have hwr:IntKind.i64.wrap ((0:Int)-1) = -1:=rfl
 have hd:decide ((0:Int) < -1)=false:=rfl
 simp (maxSteps:=2000000) +contextual only[go_sem,↓reduceIte,r178,hwr]
 rw[goL_eq]
 simp (maxSteps:=2000000) +contextual only[go_sem,↓reduceIte,r178_l0,hwr,hd]
 exact⟨_,rfl⟩
theorem sigT_len (T:List Trip):∀(f k:Nat),(sigT T f k).length≤f
 |0,k=>by simp[sigT]
 |f+1,0=>by simp[sigT]
 |f+1,k+1=>by
  rw[sigT]
  cases T[k+1]? with
  |none=>simp
  |some t =>
   have:=sigT_len T f t.2.1
   simp only[List.length_append,List.length_singleton]
   omega
def EndI (s:St)(N:Nat)(L:List Nat)(v:AV):Prop:=(v=.nils∧L=[])∨∃w cap,v=.sl w 0 L.length cap 1∧s.get w=some (.cells (nats L) 3 false 0 0)∧N≤w∧w<s.next∧L≠[]
structure VisR {G:Type}(a b:Auto)(y:Nat→Nat→Bool)(CI:G→St→Prop)(fp:G→Nat→Prop)(nxt:G→Nat→Nat→G→Prop)(g:G)(s:St)(pv ev:AV)(s':St)(g':G):Prop where
 pairs:PrI s' s.next 186 (yC (zQ a.fa b.fa) y).1.length (pcs b.fa.n (zV (yC (zQ a.fa b.fa) y).1)) pv
 ends:EndI s' s.next (endS (yC (zQ a.fa b.fa) y)) ev
 stps:(yC (zQ a.fa b.fa) y).2=none→Stps nxt g ((zV (yC (zQ a.fa b.fa) y).1).flatMap fun c=>rowC c (2^a.lines.toNat)) g'
 ci:CI g' s'
 same:∀j,j<s.next→¬fp g j→s'.get j=s.get j
 next:s.next≤s'.next
 foot:∀j,fp g' j→fp g j∨s.next≤j
 own:∀j,isB2 pv j→¬fp g' j
 fr:Fr s'
theorem c114 {a b:Auto}(ha:a.ok)(hb:b.ok)(hlb:a.lines=b.lines){fn:AV}{s:St}{G:Type}{CI:G→St→Prop}{fp:G→Nat→Prop}{dom:Nat→Nat→Prop}{y:Nat→Nat→Bool}{nxt:G→Nat→Nat→G→Prop}
  (Y:Yld fn b.fa.n s.next G CI fp dom y nxt)(hdom:∀c x,c<(zQ a.fa b.fa).n→x<2^a.lines.toNat→dom c x){g:G}(hci:CI g s)(fr:Fr s) :
  ∃pv ev s' g',cal U 114 [encA a,encA b,fn] s=some (.tup [pv,ev],s')∧VisR a b y CI fp nxt g s pv ev s' g':=by
 suffices hgo:∃x,go U (finB U [.tmp 6,.tmp 7]) [] r114 (yG 0 [encA a,encA b,fn] .nil) s=some x∧∃pv ev g',x.1=.tup [pv,ev]∧VisR a b y CI fp nxt g s pv ev x.2 g' by
  obtain⟨x,h1,pv,ev,g',h2,h3⟩:=hgo
  exact⟨pv,ev,x.2,g',by rw[←h2];exact kept_go k114 (by kernel_rfl) h1,h3⟩
 have hP:=prodF_ok ha.faok hb.faok (by show 2^a.lines.toNat=2^b.lines.toNat;rw[hlb])
 have hnn:(zQ a.fa b.fa).n≤65536:=Nat.mul_le_mul ha.few hb.few
 have hV:=visAll_spec hP y
 have hVl:=hV.inv.len
 have hltg:=Y.lt g s hci
 have nn:=zH a.nNl (a.next.map zG)
 have nf:=zH a.fNl (a.fires.map zC)
 have cn:=zD a.nNl (a.next.map zG)
 have cf:=zD a.fNl (a.fires.map zC)
 have nn':=zH b.nNl (b.next.map zG)
 have nf':=zH b.fNl (b.fires.map zC)
 have cn':=zD b.nNl (b.next.map zG)
 have cf':=zD b.fNl (b.fires.map zC)
 have hz:yM b.fa.n 0=[.int .i64 0,.int .i64 0]:=by simp[yM]
 have up:=fun (S:St) (m:Nat) (h:S.get m=some (.map [] false))=>update260 (m:=m) (k:=b.fa.n) (ks:=[]) (c:=0) h (by simp)
 rw[hz] at up
 rw[zU a,zU b]
 unfold encN encFs
 simp (maxSteps:=2000000) +contextual only[go_sem,↓reduceIte,r114,nn,nf,cn,cf,nn',nf',cn',cf',up,Nat.add_assoc]
 obtain⟨S,hS⟩:∃S,S=((((((s.new (.cells [.int .i64 a.lines,encS a.nNl (a.next.map zG),encS a.fNl (a.fires.map zC)] 69 false 0 0)).new (.cells [.int .i64 b.lines,encS b.nNl (b.next.map zG),encS b.fNl (b.fires.map zC)] 69 false 0 0)).new (.map [] false)).put (s.next+2) (.map (entP b.fa.n (fun _=>.bool true) [0] 0) false)).new (.cells [.int .i64 0,.int .i64 0] 186 false 0 0)).new (.cells [.int .i64 (-1),.int .i64 0] 262 false 0 0)):=⟨_,rfl⟩
 rw[←hS]
 have hSn:S.next=s.next+5:=by rw[hS];simp only[next_new,next_put]
 have kS:∀j,j<s.next→S.get j=s.get j:=fun j h1=>by rw[hS];simp only[get_new,next_new,next_put,get_put];rw[if_neg (by omega),if_neg (by omega),if_neg (by omega),if_neg (by omega),if_neg (by omega),if_neg (by omega)]
 have u0:S.get s.next=some (.cells [.int .i64 a.lines,encS a.nNl (a.next.map zG),encS a.fNl (a.fires.map zC)] 69 false 0 0):=by rw[hS];simp only[get_new,next_new,next_put,get_put];rw[if_neg (by omega),if_neg (by omega),if_neg (by omega),if_neg (by omega),if_neg (by omega)];exact if_pos trivial
 have u1:S.get (s.next+1)=some (.cells [.int .i64 b.lines,encS b.nNl (b.next.map zG),encS b.fNl (b.fires.map zC)] 69 false 0 0):=by rw[hS];simp only[get_new,next_new,next_put,get_put];rw[if_neg (by omega),if_neg (by omega),if_neg (by omega),if_neg (by omega)];exact if_pos trivial
 have u2:S.get (s.next+2)=some (.map (entP b.fa.n (fun _=>.bool true) [0] 0) false):=by rw[hS];simp only[get_new,next_new,next_put,get_put];rw[if_neg (by omega),if_neg (by omega)];exact if_pos trivial
 have u3:S.get (s.next+3)=some (.cells [.int .i64 0,.int .i64 0] 186 false 0 0):=by rw[hS];simp only[get_new,next_new,next_put,get_put];rw[if_neg (by omega)];exact if_pos trivial
 have u4:S.get (s.next+4)=some (.cells [.int .i64 (-1),.int .i64 0] 262 false 0 0):=by rw[hS];simp only[get_new,next_new,next_put,get_put];exact if_pos trivial
 have frS:Fr S:=by
  rw[hS]
  repeat first|exact fr|apply Fr.new|apply Fr.put|apply Fr.upto
  all_goals try simp only[next_put,next_new,zB]
  all_goals omega
 have nfp:∀q,¬fp g (s.next+q):=fun q h=>by have:=hltg _ h;omega
 have V:Vis S s.next a b (fp g) s.next (s.next+1) (s.next+2) (s.next+4) [(0,0,0)] (.sl (s.next+3) 0 1 (some 1) 2) (.sl (s.next+4) 0 1 (some 1) 2):=by
  refine⟨u0,u1,u2,⟨s.next+3,some 1,rfl,.inr rfl,?_,rfl,by omega,by omega⟩,⟨s.next+4,some 1,rfl,.inr rfl,u4,rfl,by omega,by omega⟩,by omega,⟨nfp 0,nfp 1,nfp 2,nfp 4⟩,fun j hj=>?_,fun j hj=>?_,by omega⟩
  ·rw[u3]
   simp[pcs,zV,hz]
  ·rw[isB2_sl] at hj;subst hj;exact⟨nfp 3,by omega⟩
  ·rw[isB2_sl] at hj;subst hj;exact nfp 4
 have hciS:CI g S:=Y.keep g s S hci (by omega) fun j h1 _=>kS j h1
 refine l114b (Post:=fun (o:Option (AV×St))=>∃x,o=some x∧∃pv ev g',x.1=.tup [pv,ev]∧VisR a b y CI fp nxt g s pv ev x.2 g') ha hb hlb Y hdom ?_ ?_ ?_ ?_ ?_ ?_ ?_ V hciS frS (by omega) ?_ ?_
 case refine_8 =>
  intro hnone e2 s2 pv2 sv2 pt2 g2 p11 p12 p9 p10 V2 hst2 hci2 hs2 hn2 hfp2 fr2
  have p11:Env.get e2 11=.int .i64 (-1):=by rw[p11];simp +contextual only[go_sem,↓reduceIte]
  have p12:Env.get e2 12=.nils:=by rw[p12];simp +contextual only[go_sem,↓reduceIte]
  have hd:decide ((-1:Int)>0)=false:=rfl
  obtain⟨v,h178⟩:=c178n s2
  simp (maxSteps:=2000000) +contextual only[go_sem,↓reduceIte]
  rw[goL_eq]
  simp (maxSteps:=2000000) +contextual only[go_sem,↓reduceIte,r114_l2,p11,p12,p9,hd,k178',h178]
  refine⟨_,rfl,pv2,.nils,g2,rfl,⟨V2.hp,.inl ⟨rfl,by unfold endS;rw[hnone]⟩,fun _=>hst2,hci2,fun j h1 h2=>by rw[hs2 j h1 h2,kS j h1],Nat.le_trans (by omega:s.next≤S.next) hn2,hfp2,fun j hj=>(V2.fp j hj).1,fr2⟩⟩
 case refine_9 =>
  intro k z hkz e2 s2 pv2 sv2 pt2 w g2 p9 p10 p11 p12 hw hw1 hw2 hw3 V2 hci2 hs2 hn2 hfp2 fr2
  obtain⟨_,_,⟨t,ht,_⟩,_⟩:=hV.stop k z hkz
  have hkl:=(List.getElem?_eq_some_iff.1 ht).1
  simp (maxSteps:=2000000) +contextual only[go_sem,↓reduceIte]
  refine l114c (Post:=fun (o:Option (AV×St))=>∃x,o=some x∧∃pv ev g',x.1=.tup [pv,ev]∧VisR a b y CI fp nxt g s pv ev x.2 g') hV.inv (by omega) (L:=[z]) (cap:=some 1) hkl (.inr rfl) (by simp;omega) p10 p11 p12 V2.hs hw hw2 fr2 ?_
  intro e3 s3 w3 cap3 p39 p312 hw3' hw31 hw32 hs3 hn3 fr3
  generalize hL:[z]++(sigT (yC (zQ a.fa b.fa) y).1 k k).reverse=L at *
  have hend:endS (yC (zQ a.fa b.fa) y)=L.reverse:=by
   unfold endS
   rw[hkz,←hL]
   simp
  have hLn:L≠[]:=by rw[←hL];simp
  have hLl:L.length≤2^30:=by
   have h1:(sigT (yC (zQ a.fa b.fa) y).1 k k).length≤k:=sigT_len _ k k
   rw[←hL]
   simp
   omega
  obtain⟨v,s5,h178,k51,k52,k53,k54⟩:=c178 (cap:=cap3) hLn hLl hw3' hw32 fr3
  have nf3:∀j,fp g2 j→j<s2.next∧j≠w:=fun j hj=>⟨Y.lt g2 s2 hci2 j hj,fun e=>hw3 (e ▸ hj)⟩
  have k5:∀j,j<s2.next→j≠w→s5.get j=s2.get j:=fun j h1 h2=>by rw[k52 j (by omega) (by omega),hs3 j h1 h2]
  have nB:∀j,isB2 pv2 j→j≠w:=fun j h1=>zP (V2.hp.ltB h1).2.2 hw (by decide)
  have hP5:PrI s5 s.next 186 (yC (zQ a.fa b.fa) y).1.length (pcs b.fa.n (zV (yC (zQ a.fa b.fa) y).1)) pv2:=V2.hp.keepB (by omega) fun j h1 h2=>k5 j h1 (nB j h2)
  have hci5:CI g2 s5:=Y.keep g2 s2 s5 hci2 (by omega) fun j h1 h2=>k5 j h1 (by
   rcases h2 with h2|h2
   ·exact (nf3 j h2).2
   ·omega)
  simp (maxSteps:=2000000) +contextual only[go_sem,↓reduceIte,p312,p39,p9,k178',h178]
  refine⟨_,rfl,pv2,_,g2,rfl,⟨hP5,.inr ⟨w3,cap3,by rw[hend,List.length_reverse],by rw[hend];exact k51,by omega,Nat.lt_of_lt_of_le hw32 k53,by rw[hend];exact fun h=>hLn (List.reverse_eq_nil_iff.1 h)⟩,fun h=>(by rw[hkz] at h;cases h),hci5,fun j h1 h2=>?_,Nat.le_trans (Nat.le_trans (Nat.le_trans (by omega:s.next≤S.next) hn2) hn3) k53,hfp2,fun j hj=>(V2.fp j hj).1,k54⟩⟩
  exact (k5 j (by omega) (by omega)).trans (by rw[hs2 j h1 h2,kS j h1])
 all_goals simp +contextual only[go_sem,↓reduceIte]
 all_goals rfl
theorem c177 (p q x:Int)(s:St):cal U 177 [.agg [.int .i64 p,.int .i64 q],.int .i64 x] s=some (.bool true,s.new (.cells [.int .i64 p,.int .i64 q] 186 false 0 0)):=by
 refine kept_go k177 (by kernel_rfl) ?_
 simp (maxSteps:=2000000) +contextual only[go_sem,↓reduceIte,r177]
theorem yld177 (k B0:Nat):Yld (.fn (.func 177) [] []) k B0 Unit (fun _ _=>True) (fun _ _=>False) (fun _ _=>True) (fun _ _=>true) (fun _ _ _ _=>True):=by
 refine⟨fun g c x s _ _ hf=>⟨(),s.new (.cells (yM k c) 186 false 0 0),?_,trivial,trivial,fun j hj=>hj.elim,fun j hj _=>by rw[get_new,if_neg (by omega)],by rw[next_new];omega,hf.new _⟩,fun _ _ _ _ _ _=>trivial,fun _ _ _ _ h=>h.elim⟩
 rw[calv_fn,←callK_eq]
 exact c177 _ _ _ s
theorem c115 {a:Auto}(ha:a.ok){s:St}{bx c x:Nat}(hc:c / a.fa.n<a.next.length)(hx:x<2^a.lines.toNat)(hb:bx<s.next)(hg:s.get bx=some (.cells [.int .i64 a.lines,encS a.nNl (a.next.map zG),encS a.fNl (a.fires.map zC)] 69 false 0 0)) :
  cal U 115 [.agg (yM a.fa.n c),.int .i64 (x:Int),.ptr bx 0] s=some (.bool (!a.fa.fr (c / a.fa.n) x),s.new (.cells (yM a.fa.n c) 186 false 0 0)):=by
 refine kept_go k115 (by kernel_rfl) ?_
 have hq':c / a.fa.n<a.fires.length:=by rw[ha.fl];exact hc
 have r2:=ixa_rowB (nl:=a.fNl) hq'
 have n2:=ha.frAt hc hx
 have f1:(s.next=bx)=False:=by simp;omega
 unfold yM
 simp (maxSteps:=2000000) +contextual only[go_sem,↓reduceIte,r115,hg,r2,n2,f1]
theorem yld115 {a:Auto}(ha:a.ok){bx B0:Nat}(hb:bx<B0):Yld (.fn (.func 115) [] [.ptr bx 0]) a.fa.n B0 Unit (fun _ s=>bx<s.next∧s.get bx=some (.cells [.int .i64 a.lines,encS a.nNl (a.next.map zG),encS a.fNl (a.fires.map zC)] 69 false 0 0)) (fun _ _=>False) (fun c x=>c / a.fa.n<a.next.length∧x<2^a.lines.toNat) (fun c x=>!a.fa.fr (c / a.fa.n) x) (fun _ _ _ _=>True):=by
 refine⟨fun g c x s hd hci hf=>⟨(),s.new (.cells (yM a.fa.n c) 186 false 0 0),?_,trivial,⟨by rw[next_new];omega,by rw[get_new,if_neg (by omega)];exact hci.2⟩,fun j hj=>hj.elim,fun j hj _=>by rw[get_new,if_neg (by omega)],by rw[next_new];omega,hf.new _⟩,fun g s s' hci hn hs=>⟨by omega,(hs bx hci.1 (.inr hb)).trans hci.2⟩,fun _ _ _ _ h=>h.elim⟩
 have:=c115 ha hd.1 hd.2 hci.1 hci.2
 rw[calv_fn,←callK_eq]
 exact this
end Go.Am
namespace Go.Am
open Go
variable [MaxLen]
theorem visAll_true {A:Fa}(hA:A.ok):(yC A fun _ _=>true).2=none:=by
 have h:=visAll_spec hA fun _ _=>true
 cases e:(yC A fun _ _=>true).2 with
 |none=>rfl
 |some z =>
  obtain⟨k,x⟩:=z
  obtain⟨_,_,⟨t,_,h2⟩,_⟩:=h.stop k x e
  cases h2
def prodT (a b:Auto):List Nat:=zV (yC (zQ a.fa b.fa) fun _ _=>true).1
def prodRow (a b:Auto)(c:Nat):List Nat:=(List.range (2^a.lines.toNat)).map fun x=>idxN (prodT a b) ((zQ a.fa b.fa).nx c x)
def prodFr (a b:Auto)(f:Bool→Bool→Bool)(c:Nat):List Bool:=(List.range (2^a.lines.toNat)).map fun x=>f (a.fa.fr (c / b.fa.n) x) (b.fa.fr (c%b.fa.n) x)
def prodA (a b:Auto)(f:Bool→Bool→Bool):Auto:=⟨a.lines,true,(prodT a b).map fun c=>(false,nIs (prodRow a b c)),true,(prodT a b).map fun c=>(false,prodFr a b f c)⟩
structure ProdI (a b:Auto)(T:List Nat):Prop where
 pos:0<T.length
 nd:T.Nodup
 lt:∀c∈T,c<(zQ a.fa b.fa).n
 cl:∀c∈T,∀x,x<2^a.lines.toNat→(zQ a.fa b.fa).nx c x∈T
 hd:T[0]? = some 0
theorem prodF_okA {a b:Auto}(ha:a.ok)(hb:b.ok)(hlb:a.lines=b.lines):(zQ a.fa b.fa).ok:=prodF_ok ha.faok hb.faok (by show 2^a.lines.toNat=2^b.lines.toNat;rw[hlb])
theorem visI_prodI {a b:Auto}(ha:a.ok)(hb:b.ok)(hlb:a.lines=b.lines){y:Nat→Nat→Bool}(hn:(yC (zQ a.fa b.fa) y).2=none):ProdI a b (zV (yC (zQ a.fa b.fa) y).1):=by
 have h:=visAll_spec (prodF_okA ha hb hlb) y
 refine⟨by rw[codes_len];exact h.inv.pos,h.inv.nd,fun c hc=>?_,fun c hc x hx=>?_,?_⟩
 ·obtain⟨t,ht,rfl⟩:=List.mem_map.1 hc
  exact h.inv.lt t ht
 ·obtain⟨t,ht,rfl⟩:=List.mem_map.1 hc
  obtain⟨k,hk,e⟩:=List.mem_iff_getElem.1 ht
  exact (h.go hn k t (Nat.zero_le _) (by rw[List.getElem?_eq_getElem hk,e]) x hx).2
 ·obtain⟨R,hR⟩:=h.pre
  rw[hR];rfl
theorem prodI {a b:Auto}(ha:a.ok)(hb:b.ok)(hlb:a.lines=b.lines):ProdI a b (prodT a b):=visI_prodI ha hb hlb (visAll_true (prodF_okA ha hb hlb))
theorem ProdI.len {a b:Auto}{T:List Nat}(h:ProdI a b T):T.length≤a.fa.n*b.fa.n:=nodup_few (κ:=id) (by rw[List.map_id];exact h.nd) h.lt
theorem prodA_ok {a b:Auto}(ha:a.ok)(hb:b.ok)(hlb:a.lines=b.lines)(hn:a.fa.n*b.fa.n≤256)(f:Bool→Bool→Bool):(prodA a b f).ok:=by
 have h:=prodI ha hb hlb
 have hl:=h.len
 refine⟨ha.lines,by simp only[prodA,List.length_map];exact h.pos,by simp only[prodA,List.length_map];omega,by simp only[prodA,List.length_map],fun i hi=>?_,fun i hi=>?_⟩
 ·have hi':i<(prodT a b).length:=by simpa only[prodA,List.length_map] using hi
  simp only[prodA,List.getElem_map,List.length_map]
  refine⟨by simp[nIs,prodRow],fun x hx=>?_⟩
  simp only[nIs,prodRow,List.map_map,List.mem_map,List.mem_range,Function.comp] at hx
  obtain⟨z,hz,rfl⟩:=hx
  have:=(idxN_lt _ _).2 (h.cl _ (List.getElem_mem hi') z hz)
  omega
 ·have hi':i<(prodT a b).length:=by simpa only[prodA,List.length_map] using hi
  simp[prodA,prodFr]
def mapT (φ:Nat→Nat)(T:List Trip):List Trip:=T.map fun t=>(φ t.1,t.2.1,t.2.2)
theorem visRow_map {nP nQ:Nat→Nat}{yP yQ:Nat→Bool}{φ:Nat→Nat}{n:Nat}(hinj:∀u v,u<n→v<n→φ u=φ v→u=v)(i:Nat):∀(r x:Nat) (T:List Trip),(∀t∈T,t.1<n)→(∀z,x≤z→z<x+r→nP z<n∧nQ z=φ (nP z)∧yQ z=yP z) →
  visRow nQ yQ i r x (mapT φ T)=(mapT φ (visRow nP yP i r x T).1,(visRow nP yP i r x T).2)
 |0,x,T,_,_=>rfl
 |r+1,x,T,hT,h=>by
  obtain⟨h1,h2,h3⟩:=h x (Nat.le_refl _) (by omega)
  have hiff:(nQ x∈(mapT φ T).map (·.1))↔nP x∈T.map (·.1):=by
   simp only[mapT,List.map_map,List.mem_map,Function.comp,h2]
   constructor
   ·rintro⟨t,ht,e⟩
    exact⟨t,ht,hinj _ _ (hT t ht) h1 e⟩
   ·rintro⟨t,ht,e⟩
    exact⟨t,ht,by rw[e]⟩
  have hdec:decide (nQ x∈(mapT φ T).map (·.1))=decide (nP x∈T.map (·.1)):=by simp only[hiff]
  rw[visRow,visRow,h3,hdec]
  cases yP x with
  |false=>rfl
  |true =>
   simp only[cond_true]
   have e:(bif decide (nP x∈T.map (·.1)) then mapT φ T else mapT φ T++[(nQ x,i,x)])=mapT φ (bif decide (nP x∈T.map (·.1)) then T else T++[(nP x,i,x)]):=by
    cases decide (nP x∈T.map (·.1)) with
    |true=>rfl
    |false=>simp[mapT,h2]
   rw[e]
   refine visRow_map hinj i r (x+1) _ (fun t ht=>?_) fun z hz1 hz2=>h z (by omega) (by omega)
   cases hd:decide (nP x∈T.map (·.1)) with
   |true=>rw[hd] at ht;exact hT t ht
   |false =>
    rw[hd,cond_false] at ht
    rcases List.mem_append.1 ht with ht|ht
    ·exact hT t ht
    ·rw[List.mem_singleton.1 ht];exact h1
theorem visT_map {A Q:Fa}(hA:A.ok){y yQ:Nat→Nat→Bool}{φ:Nat→Nat}(hinj:∀u v,u<A.n→v<A.n→φ u=φ v→u=v)(hm:Q.m=A.m)(h:∀s x,s<A.n→x<A.m→Q.nx (φ s) x=φ (A.nx s x)∧yQ (φ s) x=y s x) :
  ∀(f i:Nat) (T:List Trip),VisI A T→i≤T.length→visT Q yQ f i (mapT φ T)=(mapT φ (visT A y f i T).1,(visT A y f i T).2)
 |0,i,T,_,_=>rfl
 |f+1,i,T,hT,hi=>by
  rw[visT,visT]
  have e:(mapT φ T)[i]? = (T[i]?).map fun t=>(φ t.1,t.2.1,t.2.2):=by simp[mapT]
  rw[e]
  cases ht:T[i]? with
  |none=>rfl
  |some t =>
   simp only[Option.map_some]
   have hil:=(List.getElem?_eq_some_iff.1 ht).1
   have htn:=hT.lt t (List.mem_of_getElem? ht)
   rw[hm,visRow_map (n:=A.n) (φ:=φ) (nP:=A.nx t.1) (yP:=y t.1) hinj i A.m 0 T hT.lt fun z _ hz=>⟨hA.lt _ _ htn (by omega),(h _ _ htn (by omega)).1,(h _ _ htn (by omega)).2⟩]
   obtain⟨⟨i1,R,hR⟩,_,_⟩:=visRow_spec hA htn (y t.1) A.m 0 (T:=T) (i:=i) (by omega) hT hil
   generalize visRow (A.nx t.1) (y t.1) i A.m 0 T=v at *
   obtain⟨T1,o⟩:=v
   cases o with
   |some x=>rfl
   |none =>
    simp only at i1 hR
    exact visT_map hA hinj hm h f (i+1) T1 i1 (by rw[hR];simp;omega)
theorem visT_fuel {A:Fa}(hA:A.ok)(y:Nat→Nat→Bool):∀(f f' i:Nat) (T:List Trip),VisI A T→i≤T.length→A.n+1≤f+i→A.n+1≤f'+i→visT A y f i T=visT A y f' i T
 |0,f',i,T,hT,hi,hf,hf'=>by have:=hT.len;omega
 |f+1,0,i,T,hT,hi,hf,hf'=>by have:=hT.len;omega
 |f+1,f'+1,i,T,hT,hi,hf,hf'=>by
  rw[visT,visT]
  cases ht:T[i]? with
  |none=>rfl
  |some t =>
   simp only
   have hil:=(List.getElem?_eq_some_iff.1 ht).1
   have htn:=hT.lt t (List.mem_of_getElem? ht)
   obtain⟨⟨i1,R,hR⟩,_,_⟩:=visRow_spec hA htn (y t.1) A.m 0 (T:=T) (i:=i) (by omega) hT hil
   generalize visRow (A.nx t.1) (y t.1) i A.m 0 T=v at *
   obtain⟨T1,o⟩:=v
   cases o with
   |some x=>rfl
   |none =>
    simp only at i1 hR
    exact visT_fuel hA y f f' (i+1) T1 i1 (by rw[hR];simp;omega) (by omega) (by omega)
theorem sigT_map (φ:Nat→Nat)(T:List Trip):∀(f k:Nat),sigT (mapT φ T) f k=sigT T f k
 |0,k=>rfl
 |f+1,0=>rfl
 |f+1,k+1=>by
  rw[sigT,sigT]
  have e:(mapT φ T)[k+1]? = (T[k+1]?).map fun t=>(φ t.1,t.2.1,t.2.2):=by simp[mapT]
  rw[e]
  cases T[k+1]? with
  |none=>rfl
  |some t =>
   simp only[Option.map_some]
   rw[sigT_map φ T f t.2.1]
theorem visAll_map {A Q:Fa}(hA:A.ok){y yQ:Nat→Nat→Bool}{φ:Nat→Nat}(hinj:∀u v,u<A.n→v<A.n→φ u=φ v→u=v)(hm:Q.m=A.m)(hn:A.n≤Q.n)(h0:φ 0=0)(h:∀s x,s<A.n→x<A.m→Q.nx (φ s) x=φ (A.nx s x)∧yQ (φ s) x=y s x) :
  yC Q yQ=(mapT φ (yC A y).1,(yC A y).2):=by
 have e:=visT_map hA hinj hm h (Q.n+1) 0 [(0,0,0)] (visI0 hA) (by simp)
 rw[visT_fuel hA y (Q.n+1) (A.n+1) 0 _ (visI0 hA) (by simp) (by omega) (by omega)] at e
 rw[yC,yC,←e]
 simp[mapT,h0]
theorem endS_map {A Q:Fa}(hA:A.ok){y yQ:Nat→Nat→Bool}{φ:Nat→Nat}(hinj:∀u v,u<A.n→v<A.n→φ u=φ v→u=v)(hm:Q.m=A.m)(hn:A.n≤Q.n)(h0:φ 0=0)(h:∀s x,s<A.n→x<A.m→Q.nx (φ s) x=φ (A.nx s x)∧yQ (φ s) x=y s x) :
  endS (yC Q yQ)=endS (yC A y):=by
 rw[visAll_map hA hinj hm hn h0 h]
 unfold endS
 cases (yC A y).2 with
 |none=>rfl
 |some z=>simp only[sigT_map]
end Go.Am
namespace Go.Am
open Go
variable [MaxLen]
set_option maxRecDepth 100000
set_option maxHeartbeats 8000000
noncomputable def r111_l0:RC:=(.seq (.ops [o 38 (.bin .lss 3 false (.t 37) (.t 36))]) (.seq (.cond (.t 38) .skip (.exit 0)) (.seq (.block 1 (.seq (.ops [om 39 37,o 40 (.ixa 2 (.t 35) (.t 37)),o 41 (.ldn 2 (.t 40)),o 13 (.al [(.int .i64 0),(.int .i64 0)] 186),om 12 39,oS (.st 2 (.t 13) (.t 41))]) (.ops [om 42 11,o 43 (.ldn 2 (.t 13)),om 44 12,oS (.raw (.mapUpdate 259 (.tmp 42) (.tmp 43) (.tmp 44)))]))) (.ops [o 45 (.bin .add 3 true (.t 37) (.v (.int .i64 1))),om 37 45]))))
noncomputable def q111_0:Code:=rawAt 111 0
theorem d111_0:rcDrc U q111_0=some (31,[(om 80 17,none),
 (om 81 11,none),
 (o 82 (.ldn 2 (.t 20)),none),
 (o 83 (.raw (.lookup 259 (.tmp 81) (.tmp 82) false)),none),
 (⟨some 84,none,some 4,false,.bsl 3 1 1 [(.int .i64 0)] [(0,1,(.t 83))]⟩,none),
 (⟨some 85,none,none,true,.app 3 1 8 (.t 80) (.t 84)⟩,none),
 (om 86 18,none),
 (om 87 2,none),
 (o 88 (.fa 2 (.t 3)),none),
 (o 89 (.ld1 (.t 88)),some (0,1)),
 (o 90 (.ixp 2 1 (.t 16) (.v (.int .i64 0))),none),
 (o 91 (.ld1 (.t 90)),some (0,1)),
 (o 92 (.ixa 1 (.t 89) (.t 91)),none),
 (o 93 (.ld1 (.t 92)),some (0,1)),
 (om 94 19,none),
 (o 95 (.ixa 1 (.t 93) (.t 94)),none),
 (o 96 (.ld1 (.t 95)),some (0,1)),
 (o 97 (.fa 2 (.t 4)),none),
 (o 98 (.ld1 (.t 97)),some (0,1)),
 (o 99 (.ixp 2 1 (.t 16) (.v (.int .i64 1))),none),
 (o 100 (.ld1 (.t 99)),some (0,1)),
 (o 101 (.ixa 1 (.t 98) (.t 100)),none),
 (o 102 (.ld1 (.t 101)),some (0,1)),
 (om 103 19,none),
 (o 104 (.ixa 1 (.t 102) (.t 103)),none),
 (o 105 (.ld1 (.t 104)),some (0,1)),
 (⟨some 106,none,none,true,.callv (.t 87) [(.t 96),(.t 105)]⟩,none),
 (⟨some 107,none,some 27,false,.bsl 4 1 1 [(.bool false)] [(0,1,(.t 106))]⟩,none),
 (⟨some 108,none,none,true,.app 4 1 1 (.t 86) (.t 107)⟩,none),
 (om 17 85,none),
 (om 18 108,none)]):=by kernel_rfl
noncomputable def r111_l1:RC:=(.seq (.ops [o 59 (.bin .lss 3 false (.t 58) (.t 57))]) (.seq (.cond (.t 59) .skip (.exit 4)) (.seq (.block 5 (.seq (.ops [om 60 58,om 19 60]) (.seq (.drw 21 [o 61 (.fa 1 (.t 3)),o 62 (.ld1 (.t 61)),o 63 (.ixp 2 1 (.t 16) (.v (.int .i64 0))),o 64 (.ld1 (.t 63)),o 65 (.ixa 1 (.t 62) (.t 64)),o 66 (.ld1 (.t 65)),om 67 19,o 68 (.ixa 1 (.t 66) (.t 67)),o 69 (.ld1 (.t 68)),o 70 (.fa 1 (.t 4)),o 71 (.ld1 (.t 70)),o 72 (.ixp 2 1 (.t 16) (.v (.int .i64 1))),o 73 (.ld1 (.t 72)),o 74 (.ixa 1 (.t 71) (.t 73)),o 75 (.ld1 (.t 74)),om 76 19,o 77 (.ixa 1 (.t 75) (.t 76)),o 78 (.ld1 (.t 77)),o 79 (.bld [(.int .i64 0),(.int .i64 0)] [(0,1,(.t 69)),(1,1,(.t 78))]),
 ⟨some 20,none,some 19,false,.al [(.int .i64 0),(.int .i64 0)] 186⟩,
 ⟨none,none,none,true,.st 2 (.t 20) (.t 79)⟩]) (.raw q111_0)))) (.ops [o 109 (.bin .add 3 true (.t 58) (.v (.int .i64 1))),om 58 109]))))
noncomputable def q111_1:Code:=rawAt 111 1
theorem d111_1:rcDrc U q111_1=some (14,[(o 110 (.fa 1 (.t 14)),none),
 (o 111 (.ld1 (.t 110)),none),
 (om 112 17,none),
 (⟨some 113,none,some 3,false,.bsl 40 1 1 [.nils] [(0,1,(.t 112))]⟩,none),
 (⟨some 114,none,none,true,.app 40 1 24 (.t 111) (.t 113)⟩,none),
 (o 115 (.fa 2 (.t 14)),none),
 (o 116 (.ld1 (.t 115)),some (0,1)),
 (om 117 18,none),
 (⟨some 118,none,some 8,false,.bsl 43 1 1 [.nils] [(0,1,(.t 117))]⟩,none),
 (⟨some 119,none,none,true,.app 43 1 24 (.t 116) (.t 118)⟩,none),
 (o 120 (.fa 1 (.t 14)),none),
 (⟨none,none,none,true,.st 1 (.t 120) (.t 114)⟩,none),
 (o 121 (.fa 2 (.t 14)),none),
 (⟨none,none,none,true,.st 1 (.t 121) (.t 119)⟩,none)]):=by kernel_rfl
noncomputable def r111_l2:RC:=(.seq (.ops [o 52 (.bin .lss 3 false (.t 51) (.t 50))]) (.seq (.cond (.t 52) .skip (.exit 2)) (.seq (.block 3 (.seq (.ops [o 53 (.ixa 2 (.t 49) (.t 51)),o 54 (.ldn 2 (.t 53)),o 16 (.al [(.int .i64 0),(.int .i64 0)] 186),oS (.st 2 (.t 16) (.t 54))]) (.seq (.ops [o 17 (.mov (.v .nils))]) (.seq (.ops [o 18 (.mov (.v .nils))]) (.seq (.seq (.ops [o 55 (.fa 0 (.t 3)),o 56 (.ld1 (.t 55)),o 57 (.bin .shl 3 true (.v (.int .i64 1)) (.t 56)),o 58 (.mov (.v (.int .i64 0)))]) (.block 4 (.loop r111_l1))) (.raw q111_1)))))) (.ops [o 122 (.bin .add 3 true (.t 51) (.v (.int .i64 1))),om 51 122]))))
noncomputable def r111_t:RC:=(.seq (.ops [o 29 (.ldn 3 (.t 3)),o 30 (.ldn 3 (.t 4)),o 31 (.call 114 [(.t 29),(.t 30),(.v (.fn (.func 177) [] []))]),om 28 31,o 32 (.ext (.t 28) 0),o 33 (.ext (.t 28) 1),om 9 32,om 10 33]) (.seq (.ops [o 34 (.raw (.makeMap 259 none)),om 11 34]) (.seq (.seq (.ops [om 35 9,o 36 (.lenL (.t 35)),o 37 (.mov (.v (.int .i64 0)))]) (.block 0 (.loop r111_l0))) (.seq (.ops [o 46 (.fa 0 (.t 3)),o 47 (.ld1 (.t 46)),o 48 (.bld [(.int .i64 0),.nils,.nils] [(0,1,(.t 47))]),o 14 (.al [(.int .i64 0),.nils,.nils] 69),oS (.st 3 (.t 14) (.t 48))]) (.seq (.seq (.ops [om 49 9,o 50 (.lenL (.t 49)),o 51 (.mov (.v (.int .i64 0)))]) (.block 2 (.loop r111_l2))) (.seq (.ops [o 123 (.ldn 3 (.t 14)),o 124 (.call 104 [(.t 123)]),o 125 (.call 103 [(.t 124)]),o 126 (.ext (.t 125) 0),o 127 (.ext (.t 125) 1),oS (.st 3 (.t 6) (.t 126)),om 7 127]) .ret))))))
noncomputable def r111:RC:=(.seq (.ops [o 3 (.box 69 (.t 0)),o 4 (.box 69 (.t 1)),o 6 (.al [(.int .i64 0),.nils,.nils] 69),o 7 (.mov (.v (.int .i64 0)))]) (.seq (.seq (.ops [o 21 (.ldn 3 (.t 3)),o 22 (.ldn 3 (.t 4)),o 23 (.call 136 [(.t 21),(.t 22)]),om 8 23]) (.seq (.ops [om 24 8,o 25 (.bin .neq 26 true (.t 24) (.v (.int .i64 0)))]) (.cond (.t 25) (.seq (.ops [o 26 (.bld [(.int .i64 0),.nils,.nils] []),om 27 8,oS (.st 3 (.t 6) (.t 26)),om 7 27]) .ret) .skip))) r111_t))
theorem k111:fnRC 111=some ([.cell 6 69,.tmp 7],r111):=by kernel_rfl
noncomputable def q7_0:Code:=rawAt 7 0
theorem d7_0:rcDrc U q7_0=some (6,[(o 36 (.ldn 3 (.t 2)),none),
 (o 37 (.ldn 3 (.t 3)),some (0,1)),
 (⟨some 5,none,some 2,false,.al [(.int .i64 0),.nils,.nils] 69⟩,none),
 (⟨some 6,none,some 3,false,.al [(.int .i64 0),.nils,.nils] 69⟩,none),
 (⟨none,none,none,true,.st 3 (.t 5) (.t 36)⟩,none),
 (⟨none,none,none,true,.st 3 (.t 6) (.t 37)⟩,none)]):=by kernel_rfl
noncomputable def r7:RC:=(.seq (.ops [o 2 (.box 72 (.t 0)),o 3 (.box 72 (.t 1)),o 4 (.mov (.v (.bool false)))]) (.seq (.seq (.ops [o 23 (.call 16 []),o 24 (.un .not (.t 23)),om 25 24,oF 26 25 (.ldn 3 (.t 2)),oF 27 25 (.call 44 [(.t 26),(.v (.int .i64 7))]),oF 28 25 (.un .not (.t 27)),o 29 (.pick (.t 25) (.v (.bool true)) (.t 28)),om 30 29,oF 31 30 (.ldn 3 (.t 3)),oF 32 30 (.call 44 [(.t 31),(.v (.int .i64 7))]),oF 33 30 (.un .not (.t 32)),o 34 (.pick (.t 30) (.v (.bool true)) (.t 33))]) (.cond (.t 34) (.seq (.ops [o 35 (.call 16 []),om 4 35]) .ret) .skip)) (.seq (.raw q7_0) (.seq (.ops [o 39 (.ldn 3 (.t 5)),o 40 (.ldn 3 (.t 6)),o 41 (.call 45 [(.t 39),(.t 40)]),om 38 41,o 42 (.ext (.t 38) 0),o 43 (.ext (.t 38) 1),o 7 (.al [(.int .i64 0),.nils,.nils] 69),oS (.st 3 (.t 7) (.t 42)),om 8 43]) (.seq (.ops [o 45 (.ldn 3 (.t 5)),o 46 (.ldn 3 (.t 6)),o 47 (.call 46 [(.t 45),(.t 46)]),om 44 47,o 48 (.ext (.t 44) 0),o 49 (.ext (.t 44) 1),o 9 (.al [(.int .i64 0),.nils,.nils] 69),oS (.st 3 (.t 9) (.t 48)),om 10 49]) (.seq (.ops [o 51 (.ldn 3 (.t 5)),o 52 (.call 47 [(.t 51)]),om 50 52,o 53 (.ext (.t 50) 0),o 54 (.ext (.t 50) 1),om 11 53,om 12 54]) (.seq (.ops [o 56 (.ldn 3 (.t 5)),o 57 (.call 48 [(.t 56)]),om 55 57,o 58 (.ext (.t 55) 0),o 59 (.ext (.t 55) 1),om 13 58,om 14 59]) (.seq (.drw 7 [o 60 (.ldn 3 (.t 2)),o 61 (.ldn 3 (.t 3)),o 62 (.call 49 [(.t 60),(.t 61)]),o 63 (.ldn 3 (.t 2)),o 64 (.call 50 [(.t 63)]),om 15 62,om 16 64]) (.seq (.ops [o 17 (.al [(.int .i64 0),.nils,.nils] 72),o 18 (.al [(.int .i64 0),.nils,.nils] 72)]) (.seq (.ops [o 19 (.mov (.v .nils))]) (.seq (.ops [om 65 16,om 20 65,o 21 (.mov (.v (.int .i64 0)))]) (.seq (.seq (.ops [om 66 15,o 67 (.bin .eql 3 true (.t 66) (.v (.int .i64 0)))]) (.cond (.t 67) (.drw 10 [o 68 (.ldn 3 (.t 2)),o 69 (.ldn 3 (.t 3)),o 70 (.call 51 [(.t 68),(.t 69),(.v (.bool false))]),o 71 (.call 41 [(.t 70)]),o 72 (.ldn 3 (.t 2)),o 73 (.ldn 3 (.t 3)),o 74 (.call 51 [(.t 72),(.t 73),(.v (.bool true))]),o 75 (.call 41 [(.t 74)]),
 ⟨none,none,none,true,.st 3 (.t 17) (.t 71)⟩,
 ⟨none,none,none,true,.st 3 (.t 18) (.t 75)⟩]) .skip)) (.seq (.seq (.ops [om 76 16,o 77 (.bin .eql 3 true (.t 76) (.v (.int .i64 0)))]) (.cond (.t 77) (.seq (.ops [o 22 (.mov (.v (.bool false)))]) (.seq (.ops [o 79 (.ldn 3 (.t 2)),o 80 (.call 52 [(.t 79)]),om 78 80,o 81 (.ext (.t 78) 0),o 82 (.ext (.t 78) 1),om 19 81,om 22 82]) (.seq (.ops [om 83 22,o 84 (.un .not (.t 83)),o 85 (.call 37 [(.t 84),(.v (.int .i64 7))]),om 20 85]) (.seq (.ops [o 86 (.ldn 3 (.t 2)),o 87 (.call 53 [(.t 86)]),om 21 87]) (.ops [om 88 21,o 89 (.bin .eql 3 true (.t 88) (.v (.int .i64 0))),o 90 (.call 37 [(.t 89),(.v (.int .i64 7))]),om 16 90]))))) .skip)) (.seq (.ops [o 91 (.ldn 3 (.t 7)),om 92 8,om 93 15,o 94 (.ldn 3 (.t 17)),o 95 (.call 43 [(.t 91),(.t 92),(.t 93),(.t 94)]),om 96 95,oT 97 96 (.ldn 3 (.t 9)),oT 98 96 (.mov (.t 10)),oT 99 96 (.mov (.t 15)),oT 100 96 (.ldn 3 (.t 18)),oT 101 96 (.call 43 [(.t 97),(.t 98),(.t 99),(.t 100)]),o 102 (.pick (.t 96) (.t 101) (.v (.bool false))),om 103 102,oT 104 103 (.mov (.t 11)),oT 105 103 (.mov (.t 12)),oT 106 103 (.mov (.t 20)),oT 107 103 (.mov (.t 19)),oT 108 103 (.call 36 [(.t 104),(.t 105),(.t 106),(.t 107)]),o 109 (.pick (.t 103) (.t 108) (.v (.bool false))),om 110 109,oT 111 110 (.mov (.t 13)),oT 112 110 (.mov (.t 14)),oT 113 110 (.mov (.t 16)),oT 114 110 (.mov (.t 21)),oT 115 110 (.call 54 [(.t 111),(.t 112),(.t 113),(.t 114)]),o 116 (.pick (.t 110) (.t 115) (.v (.bool false))),om 4 116]) .ret))))))))))))))
theorem k7:fnRC 7=some ([.tmp 4],r7):=by kernel_rfl
theorem l111a {β:Type}{fin:Fl→β}{ks:List K}{Post:β→Prop}{k N mp:Nat}{L:List Nat}{pv:AV}(hnd:L.Nodup)(hLl:L.length≤2^20)
  {e:Env}{s:St}(g11:Env.get e 11=.map mp)(g35:Env.get e 35=pv)(g36:Env.get e 36=.int .i64 L.length)(g37:Env.get e 37=.int .i64 (0:Nat))
  (hp:PrI s N 186 L.length (pcs k L) pv)(gm:s.get mp=some (.map [] false))(nm:mp<s.next)(fr:Fr s)
  (hk:∀e' s',(∀t:Nat,t<12→Env.get e' t=Env.get e t)→s'.get mp=some (.map (entP k (fun i=>.int .i64 (i:Int)) L 0) false)→(∀j,j<s.next→j≠mp→s'.get j=s.get j)→s.next≤s'.next→Fr s'→Post (goN U fin ks e' s')) :
  Post (goL U fin (.bk 0::ks) r111_l0 e s):=by
 obtain⟨bp,cap,hpv,hp2,hp3,hp4,hp5,hp6⟩:=hp
 rw[hpv] at g35
 have hmb:bp≠mp:=by rintro rfl;rw[gm] at hp3;cases hp3
 refine yE (σ:=Nat) (fun i=>L.length-i) (fun i e' s'=>i≤L.length∧(∀t:Nat,t<12∨t=35∨t=36→Env.get e' t=Env.get e t)∧Env.get e' 37=.int .i64 (i:Nat)∧s'.get mp=some (.map (entP k (fun i=>.int .i64 (i:Int)) (L.take i) 0) false)∧(∀j,j<s.next→j≠mp→s'.get j=s.get j)∧s.next≤s'.next∧Fr s') 0 ?_
  ⟨Nat.zero_le _,fun _ _=>rfl,g37,gm,fun _ _ _=>rfl,Nat.le_refl _,fr⟩
 rintro Lp i e' s' ⟨hi,hold,q37,qm,hs,hnx,fr'⟩ IH
 have q11:=(hold 11 (by omega)).trans g11
 have q35:=(hold 35 (by omega)).trans g35
 have q36:=(hold 36 (by omega)).trans g36
 by_cases hd:i<L.length
 ·have hwr:=zR hd (by omega)
  have gr:=pcs_grab k L i hd
  have hb:=(hs bp hp6 hmb).trans hp3
  have hin:L[i]∉L.take i:=fun h=>by
   obtain⟨j,hj,e⟩:=List.mem_iff_getElem.1 h
   rw[List.length_take] at hj
   rw[List.getElem_take] at e
   have:=(List.getElem_inj hnd).1 e
   omega
  have htk:L.take (i+1)=L.take i++[L[i]]:=List.take_succ_eq_append_getElem hd
  have hl:(L.take i).length=i:=by rw[List.length_take];omega
  have up:=fun (S:St) (h:S.get mp=some (.map (entP k (fun i=>.int .i64 (i:Int)) (L.take i) 0) false))=>update259 h hin
  rw[hl] at up
  rw[←htk] at up
  generalize L[i]=c at *
  unfold yM at gr up
  have f1:(s'.next=mp)=False:=by simp;omega
  have f2:(mp=s'.next)=False:=by simp;omega
  simp (maxSteps:=2000000) +contextual only[go_sem,↓reduceIte,r111_l0,q11,q35,q36,q37,zA,hd,hb,gr,grabK_some,hwr,up,f1,f2,qm,Nat.zero_add]
  refine IH (i+1) _ _ (by omega) ⟨by omega,fun t ht=>?_,?_,?_,fun j h1 h2=>?_,?_,?_⟩
  ·have hne:∀k:Nat,37≤k→(k=t)=False:=fun k hk=>by simp;omega
   have h12:(12=t)=False:=by simp;omega
   have h13:(13=t)=False:=by simp;omega
   simp +contextual only[go_sem,↓reduceIte,hne,h12,h13]
   exact hold t ht
  ·simp +contextual only[go_sem,↓reduceIte]
  ·rw[get_put,if_pos rfl]
  ·rw[get_put,if_neg h2.symm,get_put,if_neg (by omega),get_new,if_neg (by omega)];exact hs j h1 h2
  ·simp only[next_put,next_new];omega
  ·repeat first|exact fr'|apply Fr.new|apply Fr.put|apply Fr.upto
   all_goals try simp only[next_put,next_new,zB]
   all_goals omega
 ·have hie:i=L.length:=by omega
  subst hie
  rw[List.take_length] at qm
  simp (maxSteps:=2000000) +contextual only[go_sem,↓reduceIte,r111_l0,q36,q37,zA,Nat.lt_irrefl]
  refine hk _ _ (fun t ht=>?_) qm hs hnx fr'
  have hne:∀k:Nat,12≤k→(k=t)=False:=fun k hk=>by simp;omega
  simp +contextual only[go_sem,↓reduceIte,hne]
  exact hold t (.inl ht)
theorem l111q {β:Type}{fin:Fl→β}{ks:List K}{Post:β→Prop}{a b:Auto}(ha:a.ok)(hb:b.ok)(hlb:a.lines=b.lines){f:Bool→Bool→Bool}{fn:AV}(hfn:∀(p q:Bool) (s:St),calv U fn [.bool p,.bool q] s=some (.bool (f p q),s)){N A0 B0 mp pt p2 x c:Nat}{T:List Nat}{cR cF:List AV}{rv lv:AV}
  (hc:c<(zQ a.fa b.fa).n)(hx:x<2^a.lines.toNat)(hT:(zQ a.fa b.fa).nx c x∈T)
  {e:Env}{s:St}(g2:Env.get e 2=fn)(g3:Env.get e 3=.ptr A0 0)(g4:Env.get e 4=.ptr B0 0)(g11:Env.get e 11=.map mp)(g16:Env.get e 16=.ptr pt 0)(g17:Env.get e 17=rv)(g18:Env.get e 18=lv)(g19:Env.get e 19=.int .i64 (x:Nat))(g20:Env.get e 20=.ptr p2 0)
  (gA:s.get A0=some (.cells [.int .i64 a.lines,encS a.nNl (a.next.map zG),encS a.fNl (a.fires.map zC)] 69 false 0 0))(gB:s.get B0=some (.cells [.int .i64 b.lines,encS b.nNl (b.next.map zG),encS b.fNl (b.fires.map zC)] 69 false 0 0))(gm:s.get mp=some (.map (entP b.fa.n (fun i=>.int .i64 (i:Int)) T 0) false))(gpt:s.get pt=some (.cells (yM b.fa.n c) 186 false 0 0))(gp2:s.get p2=some (.cells (yM b.fa.n ((zQ a.fa b.fa).nx c x)) 186 false 0 0))
  (hlt:A0<s.next∧B0<s.next∧mp<s.next∧pt<s.next∧p2<s.next∧N≤s.next)(hr:RowI s N 3 1 x cR rv)(hl:RowI s N 4 1 x cF lv)(fr:Fr s)
  (hk:∀e' s' rv' lv',(∀t:Nat,t<17∨20<t∧t<80→Env.get e' t=Env.get e t)→Env.get e' 17=rv'→Env.get e' 18=lv'→RowI s' N 3 1 (x+1) (cR++[.int .i64 ((idxN T ((zQ a.fa b.fa).nx c x):Nat):Int)]) rv'→RowI s' N 4 1 (x+1) (cF++[.bool (f (a.fa.fr (c / b.fa.n) x) (b.fa.fr (c%b.fa.n) x))]) lv' →
   (∀j,j<s.next→¬isB rv j→¬isB lv j→s'.get j=s.get j)→s.next≤s'.next→Fr s'→Post (goN U fin ks e' s')) :
  Post (go U fin ks (.raw q111_0) e s):=by
 have hc1:c / b.fa.n<a.next.length:=Nat.div_lt_of_lt_mul (by rw[Nat.mul_comm];exact hc)
 have hc2:c%b.fa.n<b.next.length:=Nat.mod_lt _ hb.pos
 have hxb:x<2^b.lines.toNat:=by rw[←hlb];exact hx
 have hm16:=ha.m16
 have lk:=lookup259 gm ((idxN_lt _ _).2 hT)
 have hpn:=pcell_nx hb hlb hc hx
 have lk:=fun (S:St) (h:S.get mp=some (.map (entP b.fa.n (fun i=>.int .i64 (i:Int)) T 0) false))=>lookup259 h ((idxN_lt _ _).2 hT)
 rw[hpn] at gp2 lk
 generalize hv:idxN T ((zQ a.fa b.fa).nx c x)=v at *
 unfold yM at gpt
 have n1:=ha.frAt hc1 hx
 have n2:=hb.frAt hc2 hxb
 have r1:=ixa_rowB (nl:=a.fNl) (l:=a.fires) (i:=c / b.fa.n) (by rw[ha.fl];exact hc1)
 have r2:=ixa_rowB (nl:=b.fNl) (l:=b.fires) (i:=c%b.fa.n) (by rw[hb.fl];exact hc2)
 generalize a.fa.fr (c / b.fa.n) x=fp at *
 generalize b.fa.fr (c%b.fa.n) x=fq at *
 rw[go_drcU d111_0]
 have hfk:=fr.at
 have hnt:∀t:Nat,t<17∨20<t∧t<80→((17=t)=False∧(18=t)=False∧∀k:Nat,80≤k→(k=t)=False):=fun t ht=>⟨by simp;omega,by simp;omega,fun k hk=>by simp;omega⟩
 have hN1:∀j q,j<s.next→(j=s.next+q)=False:=fun j q hj=>by simp;omega
 have hN2:∀j q,j<s.next→(s.next+q=j)=False:=fun j q hj=>by simp;omega
 have hN3:∀q,q≠0→(s.next+q=s.next)=False:=fun q hq=>by simp;omega
 have hN4:∀q,q≠0→(s.next=s.next+q)=False:=fun q hq=>by simp;omega
 obtain⟨l1,l2,l3,l4,l5,l6⟩:=hlt
 have hb1:(x+1)*8≤1099511627776:=by omega
 have hb2:x+1≤1099511627776:=by omega
 have hb3:(x+1)*1≤1099511627776:=by omega
 have key:∀(E:Env) (S:St),(∀t:Nat,t<17∨20<t∧t<80→Env.get E t=Env.get e t)→Env.get E 17=.sl (s.next+31) 0 (x+1) none 1→Env.get E 18=.sl (s.next+32) 0 (x+1) none 1 →
   S.get (s.next+31)=some (.cells (cR++[.int .i64 (v:Int)]) 3 false 0 0)→S.get (s.next+32)=some (.cells (cF++[.bool (f fp fq)]) 4 false 0 0) →
   (∀j,j<s.next→¬isB rv j→¬isB lv j→S.get j=s.get j)→s.next+32<S.next→Fr S→cR.length=x→cF.length=x→Post (goN U fin ks E S):=by
  intro E S k1 k2 k3 k4 k5 k6 k7 k8 k9 k10
  exact hk E S (.sl (s.next+31) 0 (x+1) none 1) (.sl (s.next+32) 0 (x+1) none 1) k1 k2 k3 (.inr ⟨by omega,by simp[k9],s.next+31,by omega,by omega,rfl,k4⟩) (.inr ⟨by omega,by simp[k10],s.next+32,by omega,by omega,rfl,k5⟩) k6 (by omega) k8
 rcases hr with⟨i0,rfl,rfl⟩|⟨i0,hcR,bv,v1,v2,rfl,v4⟩
 ·rcases hl with⟨_,rfl,rfl⟩|⟨i1,_⟩
  ·subst i0
   simp (maxSteps:=2000000) +contextual only[go_sem,↓reduceIte,g2,g3,g4,g11,g16,g17,g18,g19,g20,gA,gB,gm,gpt,gp2,lk,n1,n2,r1,r2,hfn,appD_nils,zW,Nat.mul_one,Nat.one_mul,Nat.reducePow,Nat.zero_add,Nat.add_assoc,hfk,l1,l2,l3,l4,l5,hN1,hN2,hN3,hN4,hb1,hb2,hb3]
   refine key _ _ (fun t ht=>?_) ?_ ?_ ?_ ?_ (fun j h1 h3 h4=>?_) ?_ ?_ rfl rfl
   ·obtain⟨n17,n18,hne⟩:=hnt t ht
    simp +contextual only[go_sem,↓reduceIte,n17,n18,hne]
   ·simp +contextual only[go_sem,↓reduceIte,Nat.zero_add]
   ·simp +contextual only[go_sem,↓reduceIte,Nat.zero_add]
   ·simp +contextual [go_sem,↓reduceIte,hN1,hN2,Nat.add_assoc]
   ·simp +contextual [go_sem,↓reduceIte,hN1,hN2,Nat.add_assoc]
   ·have e0:∀q,(s.next+q=j)=False:=fun q=>by simp;omega
    simp +contextual only[get_put,get_new,next_put,next_new,zB,zJ,Nat.add_assoc,Nat.reduceAdd,e0,if_false]
   ·simp only[next_put,next_new,zB];omega
   ·repeat first|exact fr|apply Fr.new|apply Fr.put|apply Fr.upto
    all_goals try simp only[next_put,next_new,zB]
    all_goals omega
  ·omega
 ·rcases hl with⟨i1,_⟩|⟨_,hcF,bw,w1,w2,rfl,w4⟩
  ·omega
  ·rw[Nat.mul_one] at hcR hcF
   have z1:∀j c' t',s.get j=some (.cells c' t' false 0 0)→t'≠3→(bv=j)=False:=fun j c' t' h h'=>eq_false (zP v4 h fun e=>h' e.symm)
   have z2:∀j c' t',s.get j=some (.cells c' t' false 0 0)→t'≠4→(bw=j)=False:=fun j c' t' h h'=>eq_false (zP w4 h fun e=>h' e.symm)
   have y1:=z1 A0 _ _ gA (by decide)
   have y2:=z1 B0 _ _ gB (by decide)
   have y3:=z1 pt _ _ gpt (by decide)
   have y4:=z1 p2 _ _ gp2 (by decide)
   have y5:=z1 bw _ _ w4 (by decide)
   have y6:=z2 A0 _ _ gA (by decide)
   have y7:=z2 B0 _ _ gB (by decide)
   have y8:=z2 pt _ _ gpt (by decide)
   have y9:=z2 p2 _ _ gp2 (by decide)
   have y10:(bv=mp)=False:=by simp;rintro rfl;rw[gm] at v4;cases v4
   have y11:(bw=mp)=False:=by simp;rintro rfl;rw[gm] at w4;cases w4
   have y12:=z2 bv _ _ v4 (by decide)
   have a1:=fun (S:St) (h:S.get bv=some (.cells cR 3 false 0 0))=>appX1 hcR h (.int .i64 (v:Int)) rfl
   have a2:=fun (S:St) (h:S.get bw=some (.cells cF 4 false 0 0))=>appX1 hcF h (.bool (f fp fq)) rfl
   simp (maxSteps:=2000000) +contextual only[go_sem,↓reduceIte,g2,g3,g4,g11,g16,g17,g18,g19,g20,gA,gB,gm,gpt,gp2,lk,n1,n2,r1,r2,hfn,zW,Nat.mul_one,Nat.one_mul,Nat.reducePow,Nat.zero_add,Nat.add_assoc,hfk,l1,l2,l3,l4,l5,hN1,hN2,hN3,hN4,hb1,hb2,hb3,v2,w2,v4,w4,y1,y2,y3,y4,y5,y6,y7,y8,y9,y10,y11,y12,a1,a2]
   refine key _ _ (fun t ht=>?_) ?_ ?_ ?_ ?_ (fun j h1 h3 h4=>?_) ?_ ?_ hcR hcF
   ·obtain⟨n17,n18,hne⟩:=hnt t ht
    simp +contextual only[go_sem,↓reduceIte,n17,n18,hne]
   ·simp +contextual only[go_sem,↓reduceIte,Nat.zero_add]
   ·simp +contextual only[go_sem,↓reduceIte,Nat.zero_add]
   ·simp +contextual [go_sem,↓reduceIte,hN1,hN2,Nat.add_assoc,v2,w2]
   ·simp +contextual [go_sem,↓reduceIte,hN1,hN2,Nat.add_assoc,v2,w2]
   ·have e0:∀q,(s.next+q=j)=False:=fun q=>by simp;omega
    rw[isB_sl] at h3 h4
    simp +contextual only[get_put,get_new,next_put,next_new,zB,zJ,Nat.add_assoc,Nat.reduceAdd,e0,eq_false h3,eq_false h4,if_false]
   ·simp only[next_put,next_new,zB];omega
   ·repeat first|exact fr|apply Fr.new|apply Fr.put|apply Fr.upto
    all_goals try simp only[next_put,next_new,zB]
    all_goals omega
def rowT (a b:Auto)(T:List Nat)(c:Nat):Nat→List Nat:=fun x=>(List.range x).map fun z=>idxN T ((zQ a.fa b.fa).nx c z)
def rowB (a b:Auto)(f:Bool→Bool→Bool)(c:Nat):Nat→List Bool:=fun x=>(List.range x).map fun z=>f (a.fa.fr (c / b.fa.n) z) (b.fa.fr (c%b.fa.n) z)
theorem rowT_succ (a b:Auto)(T:List Nat)(c x:Nat):nats (rowT a b T c x)++[.int .i64 ((idxN T ((zQ a.fa b.fa).nx c x):Nat):Int)]=nats (rowT a b T c (x+1)):=by
 unfold rowT
 rw[List.range_succ,List.map_append]
 simp[nats,nIs,ints]
theorem rowB_succ (a b:Auto)(f:Bool→Bool→Bool)(c x:Nat):zM (rowB a b f c x)++[.bool (f (a.fa.fr (c / b.fa.n) x) (b.fa.fr (c%b.fa.n) x))]=zM (rowB a b f c (x+1)):=by
 unfold rowB
 rw[List.range_succ,List.map_append]
 simp[zM]
theorem l111b {β:Type}{fin:Fl→β}{ks:List K}{Post:β→Prop}{a b:Auto}(ha:a.ok)(hb:b.ok)(hlb:a.lines=b.lines){f:Bool→Bool→Bool}{fn:AV}(hfn:∀(p q:Bool) (s:St),calv U fn [.bool p,.bool q] s=some (.bool (f p q),s)){A0 B0 mp pt c:Nat}{T:List Nat}
  (hc:c<(zQ a.fa b.fa).n)(hT:∀x,x<2^a.lines.toNat→(zQ a.fa b.fa).nx c x∈T)
  {e:Env}{s:St}(g2:Env.get e 2=fn)(g3:Env.get e 3=.ptr A0 0)(g4:Env.get e 4=.ptr B0 0)(g11:Env.get e 11=.map mp)(g16:Env.get e 16=.ptr pt 0)(g17:Env.get e 17=.nils)(g18:Env.get e 18=.nils)(g57:Env.get e 57=.int .i64 ((2^a.lines.toNat:Nat):Int))(g58:Env.get e 58=.int .i64 (0:Nat))
  (gA:s.get A0=some (.cells [.int .i64 a.lines,encS a.nNl (a.next.map zG),encS a.fNl (a.fires.map zC)] 69 false 0 0))(gB:s.get B0=some (.cells [.int .i64 b.lines,encS b.nNl (b.next.map zG),encS b.fNl (b.fires.map zC)] 69 false 0 0))(gm:s.get mp=some (.map (entP b.fa.n (fun i=>.int .i64 (i:Int)) T 0) false))(gpt:s.get pt=some (.cells (yM b.fa.n c) 186 false 0 0))
  (hlt:A0<s.next∧B0<s.next∧mp<s.next∧pt<s.next)(fr:Fr s)
  (hk:∀e' s' rv lv,(∀t:Nat,t<17→Env.get e' t=Env.get e t)→(∀t:Nat,20<t→t<57→Env.get e' t=Env.get e t)→Env.get e' 17=rv→Env.get e' 18=lv→RowI s' s.next 3 1 (2^a.lines.toNat) (nats (rowT a b T c (2^a.lines.toNat))) rv→RowI s' s.next 4 1 (2^a.lines.toNat) (zM (rowB a b f c (2^a.lines.toNat))) lv →
   (∀j,j<s.next→s'.get j=s.get j)→s.next≤s'.next→Fr s'→Post (goN U fin ks e' s')) :
  Post (goL U fin (.bk 4::ks) r111_l1 e s):=by
 have hm16:=ha.m16
 have hc1:c / b.fa.n<a.next.length:=Nat.div_lt_of_lt_mul (by rw[Nat.mul_comm];exact hc)
 have hc2:c%b.fa.n<b.next.length:=Nat.mod_lt _ hb.pos
 refine yE (σ:=Nat) (fun x=>2^a.lines.toNat-x) (fun x e' s'=>x≤2^a.lines.toNat∧(∀t:Nat,t<17∨20<t∧t<58→Env.get e' t=Env.get e t)∧Env.get e' 58=.int .i64 (x:Nat)∧(∀j,j<s.next→s'.get j=s.get j)∧s.next≤s'.next∧Fr s' ∧
   ∃rv lv,Env.get e' 17=rv∧Env.get e' 18=lv∧RowI s' s.next 3 1 x (nats (rowT a b T c x)) rv∧RowI s' s.next 4 1 x (zM (rowB a b f c x)) lv) 0 ?_
  ⟨Nat.zero_le _,fun _ _=>rfl,g58,fun _ _=>rfl,Nat.le_refl _,fr,.nils,.nils,g17,g18,RowI.nil _ _ _ _,RowI.nil _ _ _ _⟩
 rintro Lp x e' s' ⟨hx0,hold,q58,hs,hnx,fr',rv,lv,q17,q18,hr,hl⟩ IH
 have q2:=(hold 2 (by omega)).trans g2
 have q3:=(hold 3 (by omega)).trans g3
 have q4:=(hold 4 (by omega)).trans g4
 have q11:=(hold 11 (by omega)).trans g11
 have q16:=(hold 16 (by omega)).trans g16
 have q57:=(hold 57 (by omega)).trans g57
 obtain⟨l1,l2,l3,l4⟩:=hlt
 by_cases hd:x<2^a.lines.toNat
 ·have hw:=zR hd (by omega)
  have hpn:=pcell_nx hb hlb hc hd
  have n1:=ha.nxAt hc1 hd
  have n2:=hb.nxAt hc2 (by rw[←hlb];exact hd)
  have r1:=ixa_rowI (nl:=a.nNl) hc1
  have r2:=ixa_rowI (nl:=b.nNl) hc2
  have uA:=(hs _ l1).trans gA
  have uB:=(hs _ l2).trans gB
  have um:=(hs _ l3).trans gm
  have up:=(hs _ l4).trans gpt
  have up':=up
  unfold yM at up'
  have hfk:=fr'.at
  have f1:∀q,(s'.next+q=A0)=False:=fun q=>by simp;omega
  have f2:∀q,(s'.next+q=B0)=False:=fun q=>by simp;omega
  have f4:∀q,(s'.next+q=pt)=False:=fun q=>by simp;omega
  simp (maxSteps:=2000000) +contextual only[go_sem,↓reduceIte,r111_l1,q3,q4,q16,q57,q58,uA,uB,up',zA,hd,r1,r2,n1,n2,f1,f2,f4,hfk,Nat.add_assoc]
  obtain⟨S,hS⟩:∃S,S=((s'.upto (s'.next+21)).put (s'.next+19) (.cells [.int .i64 0,.int .i64 0] 186 false 0 0)).put (s'.next+19) (.cells [.int .i64 ((a.fa.nx (c / b.fa.n) x:Nat):Int),.int .i64 ((b.fa.nx (c%b.fa.n) x:Nat):Int)] 186 false 0 0):=⟨_,rfl⟩
  rw[←hS]
  have hSn:S.next=s'.next+21:=by rw[hS];simp only[next_put,zB]
  have kS:∀j,j<s'.next→S.get j=s'.get j:=fun j h1=>by rw[hS,get_put,if_neg (by omega),get_put,if_neg (by omega),zJ]
  have frS:Fr S:=by
   rw[hS]
   repeat first|exact fr'|apply Fr.new|apply Fr.put|apply Fr.upto
   all_goals try simp only[next_put,next_new,zB]
   all_goals omega
  have up2:S.get (s'.next+19)=some (.cells (yM b.fa.n ((zQ a.fa b.fa).nx c x)) 186 false 0 0):=by rw[hS,get_put,if_pos rfl,hpn]
  have hr2:RowI S s.next 3 1 x (nats (rowT a b T c x)) rv:=hr.keepT (by omega) fun j c' h1 h2 h3=>by rw[kS j h2];exact h1
  have hl2:RowI S s.next 4 1 x (zM (rowB a b f c x)) lv:=hl.keepT (by omega) fun j c' h1 h2 h3=>by rw[kS j h2];exact h1
  have hne16:∀t:Nat,t<17∨20<t∧t<58→(19=t)=False∧(20=t)=False∧∀k:Nat,58≤k→(k=t)=False:=fun t ht=>⟨by simp;omega,by simp;omega,fun k hk=>by simp;omega⟩
  refine l111q (Post:=Post) ha hb hlb hfn (N:=s.next) (A0:=A0) (B0:=B0) (mp:=mp) (pt:=pt) (p2:=s'.next+19) (T:=T) hc hd (hT x hd) ?_ ?_ ?_ ?_ ?_ ?_ ?_ ?_ ?_ ((kS _ (by omega)).trans uA) ((kS _ (by omega)).trans uB) ((kS _ (by omega)).trans um) ((kS _ (by omega)).trans up) up2 (by omega) hr2 hl2 frS ?_
  case refine_10 =>
   intro e2 s2 rv2 lv2 h2a p17 p18 hr3 hl3 hs2 hn2 fr2
   have E2:∀t:Nat,t<17∨20<t∧t<58→Env.get e2 t=Env.get e t:=fun t ht=>by
    rw[h2a t (by omega)]
    obtain⟨n19,n20,hne⟩:=hne16 t ht
    simp +contextual only[go_sem,↓reduceIte,n19,n20,hne]
    exact hold t ht
   have p58:Env.get e2 58=.int .i64 (x:Nat):=by
    rw[h2a 58 (by omega)]
    simp +contextual only[go_sem,↓reduceIte,q58]
   simp (maxSteps:=2000000) +contextual only[go_sem,↓reduceIte,p58,hw]
   have nB:∀j,j<s.next→¬isB rv j∧¬isB lv j:=fun j hj=>⟨fun h=>by have:=(hr.isB_t h).1;omega,fun h=>by have:=(hl.isB_t h).1;omega⟩
   refine IH (x+1) _ _ (by omega) ⟨by omega,fun t ht=>?_,?_,fun j h1=>?_,by omega,fr2,rv2,lv2,?_,?_,?_,?_⟩
   ·obtain⟨n19,n20,hne⟩:=hne16 t ht
    simp +contextual only[go_sem,↓reduceIte,n19,n20,hne]
    exact E2 t ht
   ·simp +contextual only[go_sem,↓reduceIte]
   ·rw[hs2 j (by omega) (nB j h1).1 (nB j h1).2,kS j (by omega),hs j h1]
   ·simp +contextual only[go_sem,↓reduceIte,p17]
   ·simp +contextual only[go_sem,↓reduceIte,p18]
   ·rw[←rowT_succ];exact hr3
   ·rw[←rowB_succ];exact hl3
  all_goals simp +contextual only[go_sem,↓reduceIte,q2,q3,q4,q11,q16,q17,q18]
 ·have hxe:x=2^a.lines.toNat:=by omega
  subst hxe
  simp (maxSteps:=2000000) +contextual only[go_sem,↓reduceIte,r111_l1,q57,q58,zA,Nat.lt_irrefl]
  refine hk _ _ rv lv (fun t h1=>?_) (fun t h1 h2=>?_) ?_ ?_ hr hl hs hnx fr'
  ·have hne:∀k:Nat,58≤k→(k=t)=False:=fun k hk=>by simp;omega
   simp +contextual only[go_sem,↓reduceIte,hne]
   exact hold t (.inl h1)
  ·have hne:∀k:Nat,58≤k→(k=t)=False:=fun k hk=>by simp;omega
   simp +contextual only[go_sem,↓reduceIte,hne]
   exact hold t (.inr ⟨h1,by omega⟩)
  ·simp +contextual only[go_sem,↓reduceIte,q17]
  ·simp +contextual only[go_sem,↓reduceIte,q18]
theorem l111r {β:Type}{fin:Fl→β}{ks:List K}{Post:β→Prop}{i ob N:Nat}{ln:Int}{cN cF:List AV}{v w:AV}{jr jc m:Nat}(hi9:i≤2^20)
  {e:Env}{s:St}(g14:Env.get e 14=.ptr ob 0)(g17:Env.get e 17=.sl jr 0 m none 1)(g18:Env.get e 18=.sl jc 0 m none 1)(gout:s.get ob=some (.cells [.int .i64 ln,v,w] 69 false 0 0))(hob:ob<s.next)(hN:N≤s.next)(hv:RowI s N 40 1 i cN v)(hw:RowI s N 43 1 i cF w)(fr:Fr s)
  (hk:∀e' s' v' w',(∀t:Nat,t<110→Env.get e' t=Env.get e t)→s'.get ob=some (.cells [.int .i64 ln,v',w'] 69 false 0 0)→RowI s' N 40 1 (i+1) (cN++[.sl jr 0 m none 1]) v'→RowI s' N 43 1 (i+1) (cF++[.sl jc 0 m none 1]) w' →
   (∀j,j<s.next→j≠ob→¬isB v j→¬isB w j→s'.get j=s.get j)→s.next≤s'.next→Fr s'→Post (goN U fin ks e' s')) :
  Post (go U fin ks (.raw q111_1) e s):=by
 rw[go_drcU d111_1]
 have hfk:=fr.at
 have hnt:∀t:Nat,t<110→(∀k:Nat,110≤k→(k=t)=False):=fun t ht=>fun k hk=>by simp;omega
 have hN1:∀j q,j<s.next→(j=s.next+q)=False:=fun j q hj=>by simp;omega
 have hN2:∀j q,j<s.next→(s.next+q=j)=False:=fun j q hj=>by simp;omega
 have hN3:∀q,q≠0→(s.next+q=s.next)=False:=fun q hq=>by simp;omega
 have hN4:∀q,q≠0→(s.next=s.next+q)=False:=fun q hq=>by simp;omega
 have hb1:(i+1)*24≤1099511627776:=by omega
 have hb2:i+1≤1099511627776:=by omega
 have key:∀(E:Env) (S:St),(∀t:Nat,t<110→Env.get E t=Env.get e t) →
   S.get ob=some (.cells [.int .i64 ln,.sl (s.next+14) 0 (i+1) none 1,.sl (s.next+15) 0 (i+1) none 1] 69 false 0 0) →
   S.get (s.next+14)=some (.cells (cN++[.sl jr 0 m none 1]) 40 false 0 0)→S.get (s.next+15)=some (.cells (cF++[.sl jc 0 m none 1]) 43 false 0 0) →
   (∀j,j<s.next→j≠ob→¬isB v j→¬isB w j→S.get j=s.get j)→s.next+15<S.next→Fr S→cN.length=i→cF.length=i→Post (goN U fin ks E S):=by
  intro E S k1 k2 k3 k4 k6 k7 k8 k9 k10
  exact hk E S (.sl (s.next+14) 0 (i+1) none 1) (.sl (s.next+15) 0 (i+1) none 1) k1 k2 (.inr ⟨by omega,by simp[k9],s.next+14,by omega,by omega,rfl,k3⟩) (.inr ⟨by omega,by simp[k10],s.next+15,by omega,by omega,rfl,k4⟩) k6 (by omega) k8
 rcases hv with⟨i0,rfl,rfl⟩|⟨i0,hcN,bv,v1,v2,rfl,v4⟩
 ·rcases hw with⟨_,rfl,rfl⟩|⟨i1,_⟩
  ·subst i0
   simp (maxSteps:=2000000) +contextual only[go_sem,↓reduceIte,g14,g17,g18,gout,appD_nils,zW,Nat.mul_one,Nat.one_mul,Nat.reducePow,Nat.zero_add,Nat.add_assoc,hfk,hob,hN1,hN2,hN3,hN4,hb1,hb2]
   refine key _ _ (fun t ht=>?_) ?_ ?_ ?_ (fun j h1 h2 _ _=>?_) ?_ ?_ rfl rfl
   ·have hne:=hnt t ht
    simp +contextual only[go_sem,↓reduceIte,hne]
   ·simp +contextual only[go_sem,↓reduceIte,Nat.zero_add]
   ·simp +contextual [go_sem,↓reduceIte,hN1,hN2,hob,Nat.add_assoc]
   ·simp +contextual [go_sem,↓reduceIte,hN1,hN2,hob,Nat.add_assoc]
   ·have e0:∀q,(s.next+q=j)=False:=fun q=>by simp;omega
    simp +contextual only[get_put,get_new,next_put,next_new,zB,zJ,Nat.add_assoc,Nat.reduceAdd,e0,eq_false h2.symm,if_false]
   ·simp only[next_put,next_new,zB];omega
   ·repeat first|exact fr|apply Fr.new|apply Fr.put|apply Fr.upto
    all_goals try simp only[next_put,next_new,zB]
    all_goals omega
  ·omega
 ·rcases hw with⟨i1,_⟩|⟨_,hcF,bw,w1,w2,rfl,w4⟩
  ·omega
  ·rw[Nat.mul_one] at hcN hcF
   have n1:=zP v4 w4 (by decide)
   have n2:=zP v4 gout (by decide)
   have n3:=zP w4 gout (by decide)
   have y1:(bv=bw)=False:=eq_false n1
   have y2:(bv=ob)=False:=eq_false n2
   have y3:(bw=ob)=False:=eq_false n3
   have y8:(ob=bv)=False:=eq_false n2.symm
   have y9:(ob=bw)=False:=eq_false n3.symm
   have y10:(bw=bv)=False:=eq_false n1.symm
   have a1:=fun (S:St) (h:S.get bv=some (.cells cN 40 false 0 0))=>appX1 hcN h (.sl jr 0 m none 1) rfl
   have a2:=fun (S:St) (h:S.get bw=some (.cells cF 43 false 0 0))=>appX1 hcF h (.sl jc 0 m none 1) rfl
   simp (maxSteps:=2000000) +contextual only[go_sem,↓reduceIte,g14,g17,g18,gout,zW,Nat.mul_one,Nat.one_mul,Nat.reducePow,Nat.zero_add,Nat.add_assoc,hfk,hob,hN1,hN2,hN3,hN4,hb1,hb2,v2,v4,w2,w4,y1,y2,y3,y8,y9,y10,a1,a2]
   refine key _ _ (fun t ht=>?_) ?_ ?_ ?_ (fun j h1 h2 h3 h4=>?_) ?_ ?_ hcN hcF
   ·have hne:=hnt t ht
    simp +contextual only[go_sem,↓reduceIte,hne]
   ·simp +contextual only[go_sem,↓reduceIte]
   ·simp +contextual [go_sem,↓reduceIte,hN1,hN2,hob,v2,w2,Nat.add_assoc]
   ·simp +contextual [go_sem,↓reduceIte,hN1,hN2,hob,v2,w2,Nat.add_assoc]
   ·have e0:∀q,(s.next+q=j)=False:=fun q=>by simp;omega
    rw[isB_sl] at h3 h4
    simp +contextual only[get_put,get_new,next_put,next_new,zB,zJ,Nat.add_assoc,Nat.reduceAdd,e0,eq_false h2.symm,eq_false h3,eq_false h4,if_false]
   ·simp only[next_put,next_new,zB];omega
   ·repeat first|exact fr|apply Fr.new|apply Fr.put|apply Fr.upto
    all_goals try simp only[next_put,next_new,zB]
    all_goals omega
theorem l111c {a b:Auto}(ha:a.ok)(hb:b.ok)(hlb:a.lines=b.lines){f:Bool→Bool→Bool}{fn:AV}(hfn:∀(p q:Bool) (s:St),calv U fn [.bool p,.bool q] s=some (.bool (f p q),s)){A0 B0 mp ob N:Nat}{T:List Nat}{pv:AV}{β:Type}{fin:Fl→β}{ks:List K}{Post:β→Prop}
  (hTl:T.length≤65536)(hTn:∀c∈T,c<(zQ a.fa b.fa).n)(hT:∀c∈T,∀x,x<2^a.lines.toNat→(zQ a.fa b.fa).nx c x∈T)
  {e:Env}{s:St}(g2:Env.get e 2=fn)(g3:Env.get e 3=.ptr A0 0)(g4:Env.get e 4=.ptr B0 0)(g11:Env.get e 11=.map mp)(g14:Env.get e 14=.ptr ob 0)(g49:Env.get e 49=pv)(g50:Env.get e 50=.int .i64 T.length)(g51:Env.get e 51=.int .i64 (0:Nat))
  (gA:s.get A0=some (.cells [.int .i64 a.lines,encS a.nNl (a.next.map zG),encS a.fNl (a.fires.map zC)] 69 false 0 0))(gB:s.get B0=some (.cells [.int .i64 b.lines,encS b.nNl (b.next.map zG),encS b.fNl (b.fires.map zC)] 69 false 0 0))(gm:s.get mp=some (.map (entP b.fa.n (fun i=>.int .i64 (i:Int)) T 0) false))(gout:s.get ob=some (.cells [.int .i64 a.lines,.nils,.nils] 69 false 0 0))
  (hp:PrI s N 186 T.length (pcs b.fa.n T) pv)(hlt:A0<s.next∧B0<s.next∧mp<s.next∧ob<s.next∧13≤s.next)(hne:A0≠ob∧B0≠ob)(fr:Fr s)
  (hk:∀e' s' v w,(∀t:Nat,t<12∨t=14→Env.get e' t=Env.get e t)→s'.get ob=some (.cells [.int .i64 a.lines,v,w] 69 false 0 0)→noAgg v=true→noAgg w=true→(0<T.length→∃b n,v=.sl b 0 n none 1) →
   (∀d,frz U s' (d+3) v=some (encS true (T.map fun c=>AV.fz (nats (rowT a b T c (2^a.lines.toNat))))))→(∀d,frz U s' (d+3) w=some (encS true (T.map fun c=>AV.fz (zM (rowB a b f c (2^a.lines.toNat)))))) →
   (∀j,j<s.next→j≠ob→s'.get j=s.get j)→s.next≤s'.next→Fr s'→Post (goN U fin ks e' s')) :
  Post (goL U fin (.bk 2::ks) r111_l2 e s):=by
 have hm16:=ha.m16
 have hmp:0<2^a.lines.toNat:=Nat.two_pow_pos _
 have hsh:=bin_shl1 U 3 true .i64 (n:=a.lines) (by have:=ha.lines;omega)
 have hpw:((2:Int)^a.lines.toNat)=((2^a.lines.toNat:Nat):Int):=by simp
 rw[hpw] at hsh
 obtain⟨bp,cap,hpv,hp2,hp3,hp4,hp5,hp6⟩:=hp
 rw[hpv] at g49
 have hbo:bp≠ob:=zP hp3 gout (by decide)
 have hmo:mp≠ob:=by rintro rfl;rw[gm] at gout;cases gout
 obtain⟨l1,l2,l3,l4,l13⟩:=hlt
 refine yE (σ:=Nat) (fun i=>T.length-i) (fun i e' s'=>i≤T.length∧(∀t:Nat,t<12∨t=14∨t=49∨t=50→Env.get e' t=Env.get e t)∧Env.get e' 51=.int .i64 (i:Nat)∧(∀j,j<s.next→j≠ob→s'.get j=s.get j)∧s.next≤s'.next∧Fr s' ∧
   ∃(v w:AV) (cN cF:List AV),s'.get ob=some (.cells [.int .i64 a.lines,v,w] 69 false 0 0)∧RowI s' s.next 40 1 i cN v∧RowI s' s.next 43 1 i cF w∧cN.length=i∧cF.length=i ∧
    (∀j (h:j<T.length) (h':j<cN.length),BlkJ s' ob 3 cN[j] (nats (rowT a b T T[j] (2^a.lines.toNat))))∧(∀j (h:j<T.length) (h':j<cF.length),BlkJ s' ob 4 cF[j] (zM (rowB a b f T[j] (2^a.lines.toNat))))) 0 ?_
  ⟨Nat.zero_le _,fun _ _=>rfl,g51,fun _ _ _=>rfl,Nat.le_refl _,fr,.nils,.nils,[],[],gout,RowI.nil _ _ _ _,RowI.nil _ _ _ _,rfl,rfl,fun j _ h=>by simp at h,fun j _ h=>by simp at h⟩
 rintro Lp i e' s' ⟨hi,hold,q51,hs,hnx,fr',v,w,cN,cF,qout,hv,hw,hcN,hcF,hBN,hBF⟩ IH
 have q2:=(hold 2 (by omega)).trans g2
 have q3:=(hold 3 (by omega)).trans g3
 have q4:=(hold 4 (by omega)).trans g4
 have q11:=(hold 11 (by omega)).trans g11
 have q14:=(hold 14 (by omega)).trans g14
 have q49:=(hold 49 (by omega)).trans g49
 have q50:=(hold 50 (by omega)).trans g50
 by_cases hd:i<T.length
 ·have hwr:=zR hd (by omega)
  have gr:=pcs_grab b.fa.n T i hd
  have hcT:=List.getElem_mem hd
  have hcn:=hTn _ hcT
  have hcl:=hT _ hcT
  have uA:=(hs _ l1 hne.1).trans gA
  have uB:=(hs _ l2 hne.2).trans gB
  have um:=(hs _ l3 hmo).trans gm
  have ub:=(hs _ hp6 hbo).trans hp3
  generalize hcd:T[i]=c at *
  have gr':=gr
  unfold yM at gr'
  have f1:(s'.next=A0)=False:=by simp;omega
  simp (maxSteps:=2000000) +contextual only[go_sem,↓reduceIte,r111_l2,q3,q49,q50,q51,zA,hd,ub,gr',grabK_some,uA,hsh,f1,Nat.zero_add]
  obtain⟨S,hS⟩:∃S,S=(s'.new (.cells [.int .i64 0,.int .i64 0] 186 false 0 0)).put s'.next (.cells [.int .i64 ((c / b.fa.n:Nat):Int),.int .i64 ((c%b.fa.n:Nat):Int)] 186 false 0 0):=⟨_,rfl⟩
  rw[←hS]
  have hSn:S.next=s'.next+1:=by rw[hS,next_put,next_new]
  have kS:∀j,j<s'.next→S.get j=s'.get j:=fun j h1=>by rw[hS,get_put,if_neg (by omega),get_new,if_neg (by omega)]
  have hpt:S.get s'.next=some (.cells (yM b.fa.n c) 186 false 0 0):=by rw[hS,get_put,if_pos rfl];rfl
  have frS:Fr S:=by rw[hS];exact (fr'.new _).put (by rw[next_new];omega) _
  refine l111b (Post:=Post) ha hb hlb hfn (A0:=A0) (B0:=B0) (mp:=mp) (pt:=s'.next) (T:=T) (c:=c) hcn hcl ?_ ?_ ?_ ?_ ?_ ?_ ?_ ?_ ?_ ((kS _ (by omega)).trans uA) ((kS _ (by omega)).trans uB) ((kS _ (by omega)).trans um) hpt (by omega) frS ?_
  case refine_10 =>
   intro e2 s2 rv lv h2a h2b p17 p18 hr hl hs2 hn2 fr2
   obtain⟨jr,rfl,hjr,jr1,jr2⟩:∃jr,rv=.sl jr 0 (2^a.lines.toNat) none 1∧s2.get jr=some (.cells (nats (rowT a b T c (2^a.lines.toNat))) 3 false 0 0)∧S.next≤jr∧jr<s2.next:=by
    rcases hr with⟨h,_⟩|⟨_,_,j,h1,h2,h3,h4⟩
    ·omega
    ·exact⟨j,h3,h4,h1,h2⟩
   obtain⟨jc,rfl,hjc,jc1,jc2⟩:∃jc,lv=.sl jc 0 (2^a.lines.toNat) none 1∧s2.get jc=some (.cells (zM (rowB a b f c (2^a.lines.toNat))) 4 false 0 0)∧S.next≤jc∧jc<s2.next:=by
    rcases hl with⟨h,_⟩|⟨_,_,j,h1,h2,h3,h4⟩
    ·omega
    ·exact⟨j,h3,h4,h1,h2⟩
   have E2:∀t:Nat,t<12∨t=14∨t=49∨t=50∨t=51→Env.get e2 t=Env.get e' t:=fun t ht=>by
    have hne52:∀k:Nat,52≤k→(k=t)=False:=fun k hk=>by simp;omega
    have h16:(16=t)=False:=by simp;omega
    have h17:(17=t)=False:=by simp;omega
    have h18:(18=t)=False:=by simp;omega
    rcases (by omega:t<17∨20<t∧t<57) with h|h
    ·rw[h2a t h]
     simp +contextual only[go_sem,↓reduceIte,hne52,h16,h17,h18]
    ·rw[h2b t h.1 h.2]
     simp +contextual only[go_sem,↓reduceIte,hne52,h16,h17,h18]
   have k2:∀j,j<s'.next→s2.get j=s'.get j:=fun j h1=>by rw[hs2 j (by omega),kS j h1]
   have hv2:RowI s2 s.next 40 1 i cN v:=hv.keepT (by omega) fun j c' h1 h2 h3=>by rw[k2 j h2];exact h1
   have hw2:RowI s2 s.next 43 1 i cF w:=hw.keepT (by omega) fun j c' h1 h2 h3=>by rw[k2 j h2];exact h1
   have p14:=(E2 14 (by omega)).trans q14
   have uo:=(k2 ob (by omega)).trans qout
   simp (maxSteps:=2000000) +contextual only[go_sem,↓reduceIte]
   refine l111r (Post:=Post) (i:=i) (ob:=ob) (N:=s.next) (by omega) p14 p17 p18 uo (by omega) (by omega) hv2 hw2 fr2 ?_
   intro e3 s3 v' w' h3a uo3 hv3 hw3 hs3 hn3 fr3
   have E3:∀t:Nat,t<12∨t=14∨t=49∨t=50∨t=51→Env.get e3 t=Env.get e' t:=fun t ht=>(h3a t (by omega)).trans (E2 t ht)
   have p51:=(E3 51 (by omega)).trans q51
   simp (maxSteps:=2000000) +contextual only[go_sem,↓reduceIte,p51,hwr]
   have nv:∀j c t,s2.get j=some (.cells c t false 0 0)→t≠40→¬isB v j:=fun j c t h1 h2 h3=>zP h1 (hv2.isB_t h3).2.2 h2 rfl
   have nw:∀j c t,s2.get j=some (.cells c t false 0 0)→t≠43→¬isB w j:=fun j c t h1 h2 h3=>zP h1 (hw2.isB_t h3).2.2 h2 rfl
   have pr:∀j c t,j<s2.next→j≠ob→s2.get j=some (.cells c t false 0 0)→t≠40→t≠43→s3.get j=some (.cells c t false 0 0):=fun j c t h1 h2 h3 h4 h5=>by
    rw[hs3 j h1 h2 (nv j c t h3 h4) (nw j c t h3 h5)];exact h3
   have bj3:∀c l,BlkJ s2 ob 3 c l→BlkJ s3 ob 3 c l:=fun c l h=>h.mono hn3 fun k h1 h2 h3 h4=>⟨h2,pr k _ _ h1 h2 h4 (by decide) (by decide)⟩
   have bj4:∀c l,BlkJ s2 ob 4 c l→BlkJ s3 ob 4 c l:=fun c l h=>h.mono hn3 fun k h1 h2 h3 h4=>⟨h2,pr k _ _ h1 h2 h4 (by decide) (by decide)⟩
   have bm3:∀c l t,BlkJ s' ob t c l→BlkJ s2 ob t c l:=fun c l t h=>h.mono (by omega) fun k h1 h2 h3 h4=>⟨h2,by rw[k2 k h1];exact h4⟩
   refine IH (i+1) _ _ (by omega) ⟨by omega,fun t ht=>?_,?_,fun j h1 h2=>?_,by omega,fr3,v',w',cN++[.sl jr 0 (2^a.lines.toNat) none 1],cF++[.sl jc 0 (2^a.lines.toNat) none 1],uo3,hv3,hw3,by simp[hcN],by simp[hcF],fun j h h'=>?_,fun j h h'=>?_⟩
   ·have hne52:∀k:Nat,51≤k→(k=t)=False:=fun k hk=>by simp;omega
    simp +contextual only[go_sem,↓reduceIte,hne52]
    exact (E3 t (by omega)).trans (hold t ht)
   ·simp +contextual only[go_sem,↓reduceIte]
   ·rw[hs3 j (by omega) h2 (fun h=>by have:=(hv2.isB_t h).1;omega) fun h=>by have:=(hw2.isB_t h).1;omega,k2 j (by omega),hs j h1 h2]
   ·by_cases hj:j<cN.length
    ·rw[List.getElem_append_left hj]
     exact bj3 _ _ (bm3 _ _ _ (hBN j h hj))
    ·have hj:j=cN.length:=by rw[List.length_append,List.length_singleton] at h';omega
     subst hj
     rw[List.getElem_append_right (by omega)]
     simp only[List.getElem_singleton]
     have e1:T[cN.length]=c:=by rw[←hcd];congr
     rw[e1]
     exact bj3 _ _ ⟨jr,none,by simp[nats_len,rowT],jr2,by omega,by omega,hjr⟩
   ·by_cases hj:j<cF.length
    ·rw[List.getElem_append_left hj]
     exact bj4 _ _ (bm3 _ _ _ (hBF j h hj))
    ·have hj:j=cF.length:=by rw[List.length_append,List.length_singleton] at h';omega
     subst hj
     rw[List.getElem_append_right (by omega)]
     simp only[List.getElem_singleton]
     have e1:T[cF.length]=c:=by rw[←hcd];congr
     rw[e1]
     exact bj4 _ _ ⟨jc,none,by simp[bools_len,rowB],jc2,by omega,by omega,hjc⟩
  all_goals simp +contextual only[go_sem,↓reduceIte,q2,q3,q4,q11]
  all_goals rfl
 ·have hie:i=T.length:=by omega
  have hle:decide ((i:Int)<(T.length:Int))=false:=by rw[zA];simp;omega
  simp (maxSteps:=2000000) +contextual only[go_sem,↓reduceIte,r111_l2,q50,q51,hle]
  refine hk _ _ v w (fun t ht=>?_) qout hv.noAgg hw.noAgg (fun h=>?_) (fun d=>?_) (fun d=>?_) hs hnx fr'
  ·have hne52:∀k:Nat,52≤k→(k=t)=False:=fun k hk=>by simp;omega
   simp +contextual only[go_sem,↓reduceIte,hne52]
   exact hold t (by omega)
  ·rcases hv with⟨h0,_⟩|⟨_,_,b,_,_,h3,_⟩
   ·omega
   ·exact⟨b,i,h3⟩
  ·have k1:RowI s' s.next 40 1 cN.length cN v:=by rw[hcN];exact hv
   have hna:cN.all noAgg=true:=by
    rw[List.all_eq_true]
    intro x hx
    obtain⟨j,hj,rfl⟩:=List.mem_iff_getElem.1 hx
    obtain⟨_,_,e,_⟩:=hBN j (by omega) hj
    rw[e];rfl
   exact k1.frz_one U ag_40 sz_40 hna (d:=d+2) (mapO_idx (by omega) fun j h h'=>(hBN j h' h).frz ag_3 sz_3 (noAgg_ints _) (frz_ints _ _ _))
  ·have k2:RowI s' s.next 43 1 cF.length cF w:=by rw[hcF];exact hw
   have hna:cF.all noAgg=true:=by
    rw[List.all_eq_true]
    intro x hx
    obtain⟨j,hj,rfl⟩:=List.mem_iff_getElem.1 hx
    obtain⟨_,_,e,_⟩:=hBF j (by omega) hj
    rw[e];rfl
   exact k2.frz_one U ag_43 sz_43 hna (d:=d+2) (mapO_idx (by omega) fun j h h'=>(hBF j h' h).frz ag_4 sz_4 (noAgg_bools _) (frz_bools _ _ _))
theorem frzN_slR {s:St}{b d n:Nat}{cap:Option Nat}{t:TypeId}{l r:List AV}(hn:n=l.length)(hg:s.get b=some (.cells l t false 0 0))(hag:isAggT U t=some false)(hsz:size U t=some 1)(hna:l.all noAgg=true)(hf:mapO (frzN U s d) l=some r) :
  frzN U s (d+1) (.sl b 0 n cap 1)=some (.fz r):=by
 subst hn
 simp only[frzN,hg,Nat.mul_one,grab_all,hag,hsz]
 rw[if_pos ⟨trivial,by omega,fun _=>⟨trivial,hna⟩⟩,chunks_all,hf]
theorem frzN_intsV (s:St)(d:Nat)(l:List Int):mapO (frzN U s (d+1)) (ints l)=some (ints l):=mapO_self fun x hx=>by
 obtain⟨b,_,rfl⟩:=List.mem_map.1 hx;rfl
theorem frzN_boolsV (s:St)(d:Nat)(l:List Bool):mapO (frzN U s (d+1)) (zM l)=some (zM l):=mapO_self fun x hx=>by
 obtain⟨b,_,rfl⟩:=List.mem_map.1 hx;rfl
theorem BlkJ.frzN {s:St}{b d:Nat}{c:AV}{l:List AV}{t:TypeId}(h:BlkJ s b t c l)(hag:isAggT U t=some false)(hsz:size U t=some 1)(hna:l.all noAgg=true)(hf:mapO (Go.Am.frzN U s d) l=some l):Go.Am.frzN U s (d+1) c=some (.fz l):=by
 obtain⟨j,cap,rfl,_,_,_,h5⟩:=h
 exact frzN_slR rfl h5 hag hsz hna hf
theorem RowI.frzN_one {s:St}{B:Nat}{t:TypeId}{l:List AV}{v:AV}(h:RowI s B t 1 l.length l v)(hag:isAggT U t=some false)(hsz:size U t=some 1)(hna:l.all Go.Am.noAgg=true)
  {d:Nat}{r:List AV}(hf:mapO (Go.Am.frzN U s d) l=some r):Go.Am.frzN U s (d+1) v=some (encS true r):=by
 rcases h with⟨h0,rfl,_⟩|⟨h0,h1,b,_,_,rfl,hg⟩
 ·have:l=[]:=List.length_eq_zero_iff.1 h0
  subst this
  cases hf
  rfl
 ·rw[frzN_slR rfl hg hag hsz hna hf]
  cases r with
  |nil =>
   cases l with
   |nil=>simp at h0
   |cons x l =>
    rw[mapO] at hf
    cases h1:Go.Am.frzN U s d x with
    |none=>rw[h1] at hf;cases hf
    |some y =>
     rw[h1] at hf
     cases h2:mapO (Go.Am.frzN U s d) l with
     |none=>rw[h2] at hf;cases hf
     |some z=>rw[h2] at hf;cases hf
  |cons x r=>rfl
theorem MinRows.frzN {s:St}{b:Nat}{a:Auto}{cN cF:List AV}{v w:AV}(h:MinRows s b a cN cF v w)(d:Nat):Go.Am.frzN U s (d+3) v=some (encS true ((minP a.fa (kapS a)).map fun x=>AV.fz (nats x.2)))∧Go.Am.frzN U s (d+3) w=some (encS true ((minP a.fa (kapS a)).map fun x=>AV.fz (zM (frow a.fa x.1)))) :=
 ⟨h.v.frzN_one ag_40 sz_40 h.na.1 (d:=d+2) (mapO_idx h.ln fun j h1 h'=>(h.bn j h' h1).frzN ag_3 sz_3 (noAgg_ints _) (frzN_intsV _ _ _)),h.w.frzN_one ag_43 sz_43 h.na.2 (d:=d+2) (mapO_idx h.lf fun j h1 h'=>(h.bf j h' h1).frzN ag_4 sz_4 (noAgg_bools _) (frzN_boolsV _ _ _))⟩
theorem frzN_agg3 {s:St}{d:Nat}{a b c a' b' c':AV}(h1:frzN U s d a=some a')(h2:frzN U s d b=some b')(h3:frzN U s d c=some c'):frzN U s (d+1) (.agg [a,b,c])=some (.agg [a',b',c']):=by
 have e:mapO (frzN U s d) [a,b,c]=some [a',b',c']:=by
  rw[mapO,h1,mapO,h2,mapO,h3,mapO]
 rw[frzN,e]
theorem encA_minAutR (a:Auto):encA (minAutR a)=.agg [.int .i64 a.lines,encS true ((minR a.fa).map fun x=>AV.fz (nats x.2)),encS true ((minR a.fa).map fun x=>AV.fz (zM (frow a.fa x.1)))]:=by
 rw[zU,encN,encFs,minAutR]
 simp only[List.map_map]
 have e1:∀x:Nat×List Nat,(zG∘fun x:Nat×List Nat=>(false,nIs x.2)) x=AV.fz (nats x.2):=fun x=>by simp only[Function.comp,zG,encS_fz];rfl
 have e2:∀x:Nat×List Nat,(zC∘fun x:Nat×List Nat=>(false,frow a.fa x.1)) x=AV.fz (zM (frow a.fa x.1)):=fun x=>by simp only[Function.comp,zC,encS_fz]
 rw[List.map_congr_left (fun x _=>e1 x),List.map_congr_left (fun x _=>e2 x)]
theorem g104 {a:Auto}(ha:a.ok):∃v w s' b cN cF,go U (finB U [.cell 2 69]) [] r104 (yG 0 [encA a] .nil) (ownSt U)=some (.agg [.int .i64 a.lines,v,w],s')∧MinRows s' b a cN cF v w∧0<cN.length:=by
 have h172:=c172 ha
 rw[zU] at h172 ⊢
 have nn:=zH a.nNl (a.next.map zG)
 have nf:=zH a.fNl (a.fires.map zC)
 have cn:=zD a.nNl (a.next.map zG)
 have cf:=zD a.fNl (a.fires.map zC)
 have hA:=ha.faok
 have o1:=ixa_natsF (l:=setsA a) (i:=0) (by rw[setsA_len ha];exact ha.pos)
 have o1:ixRA 1 (.fz (nats (setsA a))) (.int .i64 0)=some (.fp [.int .i64 ((kapS a 0:Nat):Int)] 0):=o1
 have up:=fun (S:St) (h:S.get 10=some (.map [] false))=>update249 (m:=10) (ks:=[]) h (k:=kapS a 0) (by simp)
 have up:∀S:St,S.get 10=some (.map [] false)→updateA U 249 (.map 10) (.int .i64 ((kapS a 0:Nat):Int)) (.int .i64 0) S=some (S.put 10 (.map (entN [kapS a 0] 0) false)):=up
 unfold encN encFs at h172 ⊢
 simp (maxSteps:=2000000) +contextual only[go_sem,↓reduceIte,r104,nn,nf,cn,cf,h172,o1,up]
 refine l104b (Post:=fun (o:Option (AV×St))=>∃v w s' b cN cF,o=some (.agg [.int .i64 a.lines,v,w],s')∧MinRows s' b a cN cF v w∧0<cN.length) ha ?_ ?_ ?_ ?_ ?_ ?_ ?_ ?_ ?_ ?_ ?_ ?_ ?_ ?_ ?_
 case refine_15 =>
  intro e' s' v w b cN cF p6 p2 u12 u9 MR
  have nav:=MR.v.noAgg
  have naw:=MR.w.noAgg
  have cv:=MR.v.cells
  have cw:=MR.w.cells
  have MK:=fun x=>MR.keep (S:=s'.put 9 x) (by rw[next_put]) fun j hj=>by rw[get_put,if_neg (fun e=>hj e.symm)]
  have hpos:0<cN.length:=by
   rw[MR.ln,minP,bfsN]
   simp
  simp (maxSteps:=2000000) +contextual only[go_sem,↓reduceIte,p6,p2,u12,u9,nav,naw,cv,cw]
  exact⟨v,w,_,b,cN,cF,rfl,MK _,hpos⟩
 case refine_14 =>
  repeat first|exact Fr.own|apply Fr.new|apply Fr.put|apply Fr.upto
  all_goals simp +contextual only[go_sem,↓reduceIte]
 all_goals simp +contextual only[go_sem,↓reduceIte]
 all_goals rfl
theorem cz104 {a:Auto}(ha:a.ok)(s:St):calZ U 104 (some [encA a]) s=some (encA (minAutR a),s):=by
 refine calZ_some U s ?_
 obtain⟨v,w,s',b,cN,cF,h1,MR,hpos⟩:=g104 ha
 obtain⟨fn,c,f1,f2,f3,f4⟩:=fnRC_some k104
 have hB:=callB_go U f1 f2 f3 f4 h1
 unfold callQ
 rw[hB]
 have hfl:flat (.agg [.int .i64 a.lines,v,w])=false:=by
  rcases MR.v with⟨h0,_⟩|⟨_,_,j,_,_,h3,_⟩
  ·omega
  ·rw[h3];rfl
 obtain⟨m1,m2⟩:=minP_R ha
 obtain⟨f1,f2⟩:=MR.frzN 36
 rw[m1] at f1
 rw[m2] at f2
 have e0:frzN U s' 39 (.int .i64 a.lines)=some (.int .i64 a.lines):=rfl
 have e3:=frzN_agg3 e0 f1 f2
 rw[encA_minAutR]
 have hd:frzDepth=39+1:=rfl
 simp only[Bool.false_eq_true,if_false,hfl]
 rw[hd]
 exact e3
theorem z104 {args:List AV}{s:St}(h:zS args=false):callK U (calV U 104 args) 104 args s=calZ U 104 (mapO (frz U s 40) args) s:=z_of (by kernel_rfl) s h
theorem encA_prodA (a b:Auto)(f:Bool→Bool→Bool):encA (prodA a b f)=.agg [.int .i64 a.lines,encS true ((prodT a b).map fun c=>AV.fz (nats (rowT a b (prodT a b) c (2^a.lines.toNat)))),encS true ((prodT a b).map fun c=>AV.fz (zM (rowB a b f c (2^a.lines.toNat))))]:=by
 rw[zU,encN,encFs,prodA]
 simp only[List.map_map]
 have e1:∀c:Nat,(zG∘fun c:Nat=>(false,nIs (prodRow a b c))) c=AV.fz (nats (rowT a b (prodT a b) c (2^a.lines.toNat))):=fun x=>by simp only[Function.comp,zG,encS_fz];rfl
 have e2:∀c:Nat,(zC∘fun c:Nat=>(false,prodFr a b f c)) c=AV.fz (zM (rowB a b f c (2^a.lines.toNat))):=fun x=>by simp only[Function.comp,zC,encS_fz];rfl
 rw[List.map_congr_left (fun x _=>e1 x),List.map_congr_left (fun x _=>e2 x)]
theorem minA_few {a:Auto}(h:a.next.length≤255):(minAutR a).next.length≤256:=by
 have:=(minR_len a.fa).1
 have hn:a.fa.n=a.next.length:=rfl
 simp only[minAutR,List.length_map]
 omega
theorem g111 {a b:Auto}(ha:a.ok)(hb:b.ok)(hlb:a.lines=b.lines)(hn:a.fa.n*b.fa.n≤255){f:Bool→Bool→Bool}{fn:AV}(hfn:∀(p q:Bool) (s:St),calv U fn [.bool p,.bool q] s=some (.bool (f p q),s))
  {e:Env}{s:St}(g2:Env.get e 2=fn)(g3:Env.get e 3=.ptr 8 0)(g4:Env.get e 4=.ptr 9 0)(g6:Env.get e 6=.ptr 10 0)
  (gA:s.get 8=some (.cells [.int .i64 a.lines,encS a.nNl (a.next.map zG),encS a.fNl (a.fires.map zC)] 69 false 0 0))(gB:s.get 9=some (.cells [.int .i64 b.lines,encS b.nNl (b.next.map zG),encS b.fNl (b.fires.map zC)] 69 false 0 0))(gC:s.get 10=some (.cells [.int .i64 0,.nils,.nils] 69 false 0 0))(hnx:s.next=11)(fr:Fr s) :
  go U (finP U [.cell 6 69,.tmp 7]) [] r111_t e s=some (.tup [encA (minAutR (prodA a b f)),.int .i64 0]):=by
 have hP:=prodA_ok ha hb hlb (by omega) f
 have hI:=prodI ha hb hlb
 have hIl:=hI.len
 have hT:zV (yC (zQ a.fa b.fa) fun _ _=>true).1=prodT a b:=rfl
 obtain⟨pv,ev,s1,g',h114,VR⟩:=c114 ha hb hlb (s:=s) (yld177 b.fa.n s.next) (fun _ _ _ _=>trivial) (g:=()) trivial fr
 have hTl:(yC (zQ a.fa b.fa) fun _ _=>true).1.length=(prodT a b).length:=by rw[←hT,codes_len]
 have hp:=VR.pairs
 rw[hTl,hT] at hp
 have hpl:=hp.lenA
 obtain⟨bp,cap,hpv,hp2,hp3,hp4,hp5,hp6⟩:=hp
 have hs1:=VR.same
 have hn1:=VR.next
 have fr1:=VR.fr
 have u8:=(hs1 8 (by omega) (fun h=>h)).trans gA
 have u9:=(hs1 9 (by omega) (fun h=>h)).trans gB
 have u10:=(hs1 10 (by omega) (fun h=>h)).trans gC
 have hlen:lenRL pv=some (.int .i64 ((prodT a b).length:Nat)):=by rw[hpv];rfl
 rw[zU a,zU b] at h114
 unfold encN encFs at h114
 simp (maxSteps:=2000000) +contextual only[go_sem,↓reduceIte,r111_t,g2,g3,g4,g6,gA,gB,k114',h114,hlen]
 have frM:Fr (s1.new (.map [] false)):=fr1.new _
 have kM:∀j,j<s1.next→(s1.new (.map [] false)).get j=s1.get j:=fun j h1=>by rw[get_new,if_neg (by omega)]
 refine l111a (Post:=fun (o:Option AV)=>o=some (.tup [encA (minAutR (prodA a b f)),.int .i64 0])) (k:=b.fa.n) (N:=s.next) (mp:=s1.next) (L:=prodT a b) (pv:=pv) hI.nd (by omega) ?_ ?_ ?_ ?_ ⟨bp,cap,hpv,hp2,by rw[kM bp hp6];exact hp3,hp4,hp5,by rw[next_new];omega⟩ (by rw[get_new,if_pos rfl]) (by rw[next_new];omega) frM ?_
 case refine_5 =>
  intro e2 s2 h2a um hs2 hn2 fr2
  rw[next_new] at hs2 hn2
  have E2:∀t:Nat,t<9→Env.get e2 t=Env.get e t:=fun t ht=>by
   rw[h2a t (by omega)]
   have hne:∀k:Nat,9≤k→(k=t)=False:=fun k hk=>by simp;omega
   simp +contextual only[go_sem,↓reduceIte,hne]
  have p2:=(E2 2 (by omega)).trans g2
  have p3:=(E2 3 (by omega)).trans g3
  have p4:=(E2 4 (by omega)).trans g4
  have p6:=(E2 6 (by omega)).trans g6
  have p9:Env.get e2 9=pv:=by rw[h2a 9 (by omega)];simp +contextual only[go_sem,↓reduceIte]
  have p11:Env.get e2 11=.map s1.next:=by rw[h2a 11 (by omega)];simp +contextual only[go_sem,↓reduceIte]
  have k2:∀j,j<s1.next→s2.get j=s1.get j:=fun j h1=>by rw[hs2 j (by omega) (by omega),kM j h1]
  have v8:=(k2 8 (by omega)).trans u8
  have v9:=(k2 9 (by omega)).trans u9
  have v10:=(k2 10 (by omega)).trans u10
  have f1:(s2.next=8)=False:=by simp;omega
  simp (maxSteps:=2000000) +contextual only[go_sem,↓reduceIte,p3,p9,v8,hlen,f1]
  obtain⟨S,hS⟩:∃S,S=(s2.new (.cells [.int .i64 0,.nils,.nils] 69 false 0 0)).put s2.next (.cells [.int .i64 a.lines,.nils,.nils] 69 false 0 0):=⟨_,rfl⟩
  rw[←hS]
  have hSn:S.next=s2.next+1:=by rw[hS,next_put,next_new]
  have kS:∀j,j<s2.next→S.get j=s2.get j:=fun j h1=>by rw[hS,get_put,if_neg (by omega),get_new,if_neg (by omega)]
  have hob:S.get s2.next=some (.cells [.int .i64 a.lines,.nils,.nils] 69 false 0 0):=by rw[hS,get_put,if_pos rfl]
  have frS:Fr S:=by rw[hS];exact (fr2.new _).put (by rw[next_new];omega) _
  refine l111c (Post:=fun (o:Option AV)=>o=some (.tup [encA (minAutR (prodA a b f)),.int .i64 0])) ha hb hlb hfn (A0:=8) (B0:=9) (mp:=s1.next) (ob:=s2.next) (N:=s.next) (T:=prodT a b) (pv:=pv) (by omega) hI.lt hI.cl ?_ ?_ ?_ ?_ ?_ ?_ ?_ ?_ ((kS 8 (by omega)).trans v8) ((kS 9 (by omega)).trans v9) ((kS _ (by omega)).trans um) hob ⟨bp,cap,hpv,hp2,by rw[kS bp (by omega),k2 bp hp6];exact hp3,hp4,hp5,by omega⟩ (by omega) (by omega) frS ?_
  case refine_9 =>
   intro e3 s3 v w h3a uo nav naw hsl fv fw hs3 hn3 fr3
   have p36:Env.get e3 6=.ptr 10 0:=by rw[h3a 6 (by omega)];simp +contextual only[go_sem,↓reduceIte,p6]
   have p314:Env.get e3 14=.ptr s2.next 0:=by rw[h3a 14 (by omega)];simp +contextual only[go_sem,↓reduceIte]
   have w10:s3.get 10=some (.cells [.int .i64 0,.nils,.nils] 69 false 0 0):=(hs3 10 (by omega) (by omega)).trans ((kS 10 (by omega)).trans v10)
   have hst:zS [AV.agg [AV.int .i64 a.lines,v,w]]=false:=by
    obtain⟨b',n',rfl⟩:=hsl hI.pos
    rfl
   have fv':=fv 36
   have fw':=fw 36
   have hfr:mapO (frz U s3 40) [AV.agg [AV.int .i64 a.lines,v,w]]=some [encA (prodA a b f)]:=by
    rw[encA_prodA]
    simp +contextual only[go_sem,↓reduceIte,fv',fw',frz_agg,mapO]
   have c1:=cz104 hP s3
   have hMf:(minAutR (prodA a b f)).next.length≤256:=minA_few (by simp only[prodA,List.length_map];omega)
   have c3:=c103 _ hMf
   generalize minAutR (prodA a b f)=M at *
   have nn':=zH M.nNl (M.next.map zG)
   have nf':=zH M.fNl (M.fires.map zC)
   have cn':=zD M.nNl (M.next.map zG)
   have cf':=zD M.fNl (M.fires.map zC)
   rw[zU M] at c1 c3 ⊢
   unfold encN encFs at c1 c3 ⊢
   simp (maxSteps:=2000000) +contextual only[go_sem,↓reduceIte,p314,p36,uo,w10,z104 hst,hfr,c1,c3,nn',nf',cn',cf',frz_encS]
  all_goals simp +contextual only[go_sem,↓reduceIte,p2,p3,p4,p9,p11]
  all_goals rfl
 all_goals simp +contextual only[go_sem,↓reduceIte]
 all_goals rfl
def twoA (a b:Auto)(f:Bool→Bool→Bool):AV:=bif chkTwo a b != 0 then .tup [encA ⟨0,true,[],true,[]⟩,.int .i64 (chkTwo a b)] else .tup [encA (minAutR (prodA a b f)),.int .i64 0]
theorem chkTwo_ok {a b:Auto}(h:chkTwo a b=0):a.ok∧b.ok∧a.lines=b.lines:=by
 have e:∀l:List Int,firstOf l=0→∀x∈l,x=0:=by
  intro l
  induction l with
  |nil=>intro _ x hx;cases hx
  |cons y l ih =>
   intro h x hx
   rw[firstOf] at h
   by_cases hy:y=0
   ·subst hy
    rcases List.mem_cons.1 hx with rfl|hx
    ·rfl
    ·exact ih (by simpa[br] using h) x hx
   ·have:(y != 0)=true:=by simpa using hy
    rw[this] at h
    simp[br] at h
    exact absurd h hy
 have h':=e _ h
 refine⟨Auto.ok_of (h' _ (by simp)),Auto.ok_of (h' _ (by simp)),?_⟩
 have:=h' (br (a.lines != b.lines) 2 0) (by simp)
 by_cases hl:a.lines=b.lines
 ·exact hl
 ·have hb:(a.lines != b.lines)=true:=by simpa using hl
  rw[hb] at this
  simp[br] at this
theorem c111 (a b:Auto){f:Bool→Bool→Bool}{F:FuncId}(hF:F=112∨F=113)(hf:∀p q,calV U F [.bool p,.bool q]=some (.bool (f p q)))(ha:a.next.length≤2^40)(hra:∀r∈a.next,r.2.length≤2^40)(hb:b.next.length≤2^40)(hrb:∀r∈b.next,r.2.length≤2^40)(hn:chkTwo a b=0→a.fa.n*b.fa.n≤255) :
  calV U 111 [encA a,encA b,.fn (.func F) [] []]=some (twoA a b f):=by
 have hst:zS [encA a,encA b,.fn (.func F) [] []]=true:=by
  simp only[zS,yH]
  rcases hF with rfl|rfl <;> rfl
 refine yB k111 (by kernel_rfl) hst ?_
 have h136:=c136 a b ha hra hb hrb
 unfold twoA
 have nn:=zH a.nNl (a.next.map zG)
 have nf:=zH a.fNl (a.fires.map zC)
 have cn:=zD a.nNl (a.next.map zG)
 have cf:=zD a.fNl (a.fires.map zC)
 have nn':=zH b.nNl (b.next.map zG)
 have nf':=zH b.fNl (b.fires.map zC)
 have cn':=zD b.nNl (b.next.map zG)
 have cf':=zD b.fNl (b.fires.map zC)
 cases hc:chkTwo a b != 0 with
 |true =>
  rw[zU a,zU b] at h136 ⊢
  unfold encN encFs at h136 ⊢
  rw[show encA ⟨0,true,[],true,[]⟩=.agg [.int .i64 0,.nils,.nils] from rfl]
  simp (maxSteps:=2000000) +contextual only[go_sem,↓reduceIte,r111,nn,nf,cn,cf,nn',nf',cn',cf',h136,hc,cond_true]
 |false =>
  have h0:chkTwo a b=0:=by simpa using hc
  obtain⟨oa,ob,hlb⟩:=chkTwo_ok h0
  rw[h0] at h136
  rw[zU a,zU b] at h136 ⊢
  unfold encN encFs at h136 ⊢
  simp (maxSteps:=2000000) +contextual only[go_sem,↓reduceIte,r111,nn,nf,cn,cf,nn',nf',cn',cf',h136,cond_false]
  have hfn:∀(p q:Bool) (s:St),calv U (.fn (.func F) [] []) [.bool p,.bool q] s=some (.bool (f p q),s):=fun p q s=>by
   rw[calv_fn]
   simp only[List.nil_append,List.append_nil,hf]
   rfl
  refine g111 oa ob hlb (hn h0) hfn ?_ ?_ ?_ ?_ ?_ ?_ ?_ ?_ ?_
  case refine_9 =>
   repeat first|exact Fr.own|apply Fr.new|apply Fr.put|apply Fr.upto
  all_goals simp +contextual only[go_sem,↓reduceIte]
theorem c45 (a b:Auto)(ha:a.next.length≤2^40)(hra:∀r∈a.next,r.2.length≤2^40)(hb:b.next.length≤2^40)(hrb:∀r∈b.next,r.2.length≤2^40)(hn:chkTwo a b=0→a.fa.n*b.fa.n≤255) :
  calV U 45 [encA a,encA b]=some (twoA a b fun p q=>p||q):=by
 refine yB k45 (by kernel_rfl) (by simp[zS,yH]) ?_
 have h:=c111 a b (.inl rfl) c112 ha hra hb hrb hn
 unfold twoA at h ⊢
 have nn:=zH a.nNl (a.next.map zG)
 have nf:=zH a.fNl (a.fires.map zC)
 have cn:=zD a.nNl (a.next.map zG)
 have cf:=zD a.fNl (a.fires.map zC)
 have nn':=zH b.nNl (b.next.map zG)
 have nf':=zH b.fNl (b.fires.map zC)
 have cn':=zD b.nNl (b.next.map zG)
 have cf':=zD b.fNl (b.fires.map zC)
 cases hc:chkTwo a b != 0 with
 |true =>
  rw[hc,cond_true,show encA ⟨0,true,[],true,[]⟩=.agg [.int .i64 0,.nils,.nils] from rfl] at h
  rw[show encA ⟨0,true,[],true,[]⟩=.agg [.int .i64 0,.nils,.nils] from rfl]
  rw[zU a,zU b] at h ⊢
  unfold encN encFs at h ⊢
  simp (maxSteps:=2000000) +contextual only[go_sem,↓reduceIte,r45,nn,nf,cn,cf,nn',nf',cn',cf',h,cond_true]
 |false =>
  rw[hc,cond_false] at h
  generalize minAutR (prodA a b fun p q=>p||q)=M at *
  have nM:=zH M.nNl (M.next.map zG)
  have nM':=zH M.fNl (M.fires.map zC)
  have cM:=zD M.nNl (M.next.map zG)
  have cM':=zD M.fNl (M.fires.map zC)
  rw[zU a,zU b,zU M] at h ⊢
  unfold encN encFs at h ⊢
  simp (maxSteps:=2000000) +contextual only[go_sem,↓reduceIte,r45,nn,nf,cn,cf,nn',nf',cn',cf',nM,nM',cM,cM',h,cond_false,frz_encS]
theorem c46 (a b:Auto)(ha:a.next.length≤2^40)(hra:∀r∈a.next,r.2.length≤2^40)(hb:b.next.length≤2^40)(hrb:∀r∈b.next,r.2.length≤2^40)(hn:chkTwo a b=0→a.fa.n*b.fa.n≤255) :
  calV U 46 [encA a,encA b]=some (twoA a b fun p q=>p&&q):=by
 refine yB k46 (by kernel_rfl) (by simp[zS,yH]) ?_
 have h:=c111 a b (.inr rfl) c113 ha hra hb hrb hn
 unfold twoA at h ⊢
 have nn:=zH a.nNl (a.next.map zG)
 have nf:=zH a.fNl (a.fires.map zC)
 have cn:=zD a.nNl (a.next.map zG)
 have cf:=zD a.fNl (a.fires.map zC)
 have nn':=zH b.nNl (b.next.map zG)
 have nf':=zH b.fNl (b.fires.map zC)
 have cn':=zD b.nNl (b.next.map zG)
 have cf':=zD b.fNl (b.fires.map zC)
 cases hc:chkTwo a b != 0 with
 |true =>
  rw[hc,cond_true,show encA ⟨0,true,[],true,[]⟩=.agg [.int .i64 0,.nils,.nils] from rfl] at h
  rw[show encA ⟨0,true,[],true,[]⟩=.agg [.int .i64 0,.nils,.nils] from rfl]
  rw[zU a,zU b] at h ⊢
  unfold encN encFs at h ⊢
  simp (maxSteps:=2000000) +contextual only[go_sem,↓reduceIte,r46,nn,nf,cn,cf,nn',nf',cn',cf',h,cond_true]
 |false =>
  rw[hc,cond_false] at h
  generalize minAutR (prodA a b fun p q=>p&&q)=M at *
  have nM:=zH M.nNl (M.next.map zG)
  have nM':=zH M.fNl (M.fires.map zC)
  have cM:=zD M.nNl (M.next.map zG)
  have cM':=zD M.fNl (M.fires.map zC)
  rw[zU a,zU b,zU M] at h ⊢
  unfold encN encFs at h ⊢
  simp (maxSteps:=2000000) +contextual only[go_sem,↓reduceIte,r46,nn,nf,cn,cf,nn',nf',cn',cf',nM,nM',cM,cM',h,cond_false,frz_encS]
theorem EndI.frz {s:St}{N:Nat}{L:List Nat}{v:AV}(h:EndI s N L v)(d:Nat):Go.Am.frz U s (d+2) v=some (encS true (nats L)):=by
 rcases h with⟨rfl,rfl⟩|⟨w,cap,rfl,h2,h3,h4,h5⟩
 ·rfl
 ·rw[frz_sl,h2,frzS_cells,Nat.mul_one,←nats_len L,grab_all,ag_3,sz_3,frzT_one]
  unfold nats
  rw[if_pos (noAgg_ints _),chunks_all,frz_ints s d (nIs L),fzK_some]
  cases L with
  |nil=>exact absurd rfl h5
  |cons x l=>rfl
theorem EndI.len {s:St}{N:Nat}{L:List Nat}{v:AV}(h:EndI s N L v):lenRL v=some (.int .i64 (L.length:Nat)):=by
 rcases h with⟨rfl,rfl⟩|⟨w,cap,rfl,_⟩ <;> rfl
theorem EndI.na {s:St}{N:Nat}{L:List Nat}{v:AV}(h:EndI s N L v):noAgg v=true:=by
 rcases h with⟨rfl,rfl⟩|⟨w,cap,rfl,_⟩ <;> rfl
def shP (a:Auto):List Nat:=endS (yC a.fa fun s x=>!a.fa.fr s x)
theorem diag_eq {a:Auto}(ha:a.ok):endS (yC (zQ a.fa a.fa) fun c x=>!a.fa.fr (c / a.fa.n) x)=shP a:=by
 have hA:=ha.faok
 refine endS_map (φ:=fun s=>s*a.fa.n+s) hA (fun u v hu hv h=>?_) rfl ?_ (by simp) fun s x hs hx=>?_
 ·have h1:=pair_div (a:=u) (b:=u) hu
  have h2:=pair_div (a:=v) (b:=v) hv
  rw[h] at h1
  omega
 ·exact Nat.le_mul_of_pos_right _ hA.pos
 ·have h1:=pair_div (a:=s) (b:=s) hs
  have h2:=pair_mod (a:=s) (b:=s) hs
  refine⟨?_,?_⟩
  ·show a.fa.nx ((s*a.fa.n+s) / a.fa.n) x*a.fa.n+a.fa.nx ((s*a.fa.n+s)%a.fa.n) x=_
   rw[h1,h2]
  ·simp only[h1]
def shortP (a:Auto):AV:=bif ckA a != 0 then .tup [.nils,.int .i64 (ckA a)] else .tup [encS true (nats (shP a)),.int .i64 (br ((shP a).length==0) 7 0)]
theorem c47 (a:Auto)(hn:a.next.length≤2^40)(hr:∀r∈a.next,r.2.length≤2^40):calV U 47 [encA a]=some (shortP a):=by
 refine yB k47 (by kernel_rfl) (by simp[zS,yH]) ?_
 have h58:=c58 a hn hr
 unfold shortP
 have nn:=zH a.nNl (a.next.map zG)
 have nf:=zH a.fNl (a.fires.map zC)
 have cn:=zD a.nNl (a.next.map zG)
 have cf:=zD a.fNl (a.fires.map zC)
 cases hc:ckA a != 0 with
 |true =>
  rw[zU a] at h58 ⊢
  unfold encN encFs at h58 ⊢
  simp (maxSteps:=2000000) +contextual only[go_sem,↓reduceIte,r47,nn,nf,cn,cf,h58,hc,cond_true]
 |false =>
  have h0:ckA a=0:=by simpa using hc
  have ha:=Auto.ok_of h0
  rw[h0] at h58
  obtain⟨S,hS⟩:∃S,S=(ownSt U).new (.cells [.int .i64 a.lines,encS a.nNl (a.next.map zG),encS a.fNl (a.fires.map zC)] 69 false 0 0):=⟨_,rfl⟩
  have hSn:S.next=9:=by rw[hS];simp +contextual only[go_sem,↓reduceIte]
  have gS:S.get 8=some (.cells [.int .i64 a.lines,encS a.nNl (a.next.map zG),encS a.fNl (a.fires.map zC)] 69 false 0 0):=by rw[hS];simp +contextual only[go_sem,↓reduceIte]
  have frS:Fr S:=by rw[hS];exact Fr.own.new _
  obtain⟨pv,ev,s1,g',h114,VR⟩:=c114 ha ha rfl (s:=S) (yld115 ha (bx:=8) (B0:=S.next) (by omega)) (fun c x hc hx=>⟨Nat.div_lt_of_lt_mul (by rw[Nat.mul_comm];exact hc),hx⟩) (g:=()) ⟨by omega,gS⟩ frS
  have hE:=VR.ends
  rw[diag_eq ha] at hE
  have hEl:=hE.len
  have hEf:=hE.frz
  have hEn:=hE.na
  have c6:=c116 ((shP a).length==0) 7
  have hq:(((shP a).length:Int)==0)=((shP a).length==0):=by rw[Bool.eq_iff_iff];simp
  rw[zU a] at h58 h114 ⊢
  unfold encN encFs at h58 h114 ⊢
  rw[hS] at h114
  simp (maxSteps:=2000000) +contextual only[go_sem,↓reduceIte,r47,nn,nf,cn,cf,h58,cond_false,k114',h114,hEl,hq,c6,hEn,hEf,frz_tup]
end Go.Am
namespace Go.Am
open Go
def sx (l:List Bool)(t:Nat):Prop:=l.getD t false=true
theorem sx_set {l:List Bool}{q t:Nat}(hq:q<l.length):sx (l.set q true) t↔sx l t∨t=q:=by
 unfold sx
 rw[List.getD_eq_getElem?_getD,List.getD_eq_getElem?_getD,List.getElem?_set]
 by_cases h:q=t
 ·subst h;simp[hq]
 ·simp[h];intro e;exact absurd e.symm h
def putL (z:List Bool×List Nat)(q:Nat):List Bool×List Nat:=bif z.1.getD q false then z else (z.1.set q true,z.2++[q])
def prow (A:Fa)(q:Nat):Nat→Nat→List Bool×List Nat→Option (List Bool×List Nat)
 |0,_,z=>some z
 |r+1,x,z=>bif A.fr q x then none else prow A q r (x+1) (putL z (A.nx q x))
def pround (A:Fa):List Nat→List Bool×List Nat→Option (List Bool×List Nat)
 |[],z=>some z
 |q::l,z=>match prow A q A.m 0 z with
  |none=>none
  |some z=>pround A l z
def ploop (A:Fa):Nat→Nat→List Bool×List Nat→Nat
 |0,_,_=>0
 |f+1,d,z=>match z.2 with
  |[]=>0
  |q::l=>match pround A (q::l) (z.1,[]) with
   |none=>d
   |some z=>ploop A f (d+1) z
def rrow (A:Fa)(q:Nat):Nat→Nat→List Bool→Option (List Bool)
 |0,_,z=>some z
 |r+1,x,z=>bif A.fr q x then none else rrow A q r (x+1) (z.set (A.nx q x) true)
def rround (A:Fa)(now:List Bool):Nat→Nat→List Bool×List Bool→Option (List Bool×List Bool)
 |0,_,z=>some z
 |r+1,s,z=>bif (!now.getD s false)||z.1.getD s false then rround A now r (s+1) z else match rrow A s A.m 0 z.2 with
  |none=>none
  |some nx=>rround A now r (s+1) (z.1.set s true,nx)
def rloop (A:Fa):Nat→Nat→List Bool×List Bool→Nat
 |0,_,_=>0
 |r+1,d,z=>match rround A z.2 A.n 0 (z.1,List.replicate A.n false) with
  |none=>d
  |some z=>rloop A r (d+1) z
theorem sx_rep (n t:Nat):¬sx (List.replicate n false) t:=by
 unfold sx
 rw[List.getD_eq_getElem?_getD,List.getElem?_replicate]
 by_cases h:t<n <;> simp[h]
structure PutS (n:Nat)(z z':List Bool×List Nat)(P:Nat→Prop):Prop where
 len:z'.1.length=n
 seen:∀t,sx z'.1 t↔sx z.1 t∨P t
 lay:∀t,t∈z'.2↔t∈z.2∨(P t∧¬sx z.1 t)
theorem PutS.trans {n:Nat}{z z1 z2:List Bool×List Nat}{P Q:Nat→Prop}(h:PutS n z z1 P)(h':PutS n z1 z2 Q):PutS n z z2 fun t=>P t∨Q t:=by
 refine⟨h'.len,fun t=>?_,fun t=>?_⟩
 ·rw[h'.seen,h.seen,or_assoc]
 ·rw[h'.lay,h.lay,h.seen]
  by_cases h1:P t <;> by_cases h2:Q t <;> by_cases h3:sx z.1 t <;> simp[h1,h2,h3]
theorem PutS.congr {n:Nat}{z z':List Bool×List Nat}{P Q:Nat→Prop}(h:PutS n z z' P)(e:∀t,P t↔Q t):PutS n z z' Q:=by
 have:P=Q:=funext fun t=>propext (e t)
 rw[←this];exact h
theorem putL_spec {n q:Nat}{z:List Bool×List Nat}(hl:z.1.length=n)(hq:q<n):PutS n z (putL z q) fun t=>t=q:=by
 unfold putL
 cases h:z.1.getD q false with
 |true =>
  rw[cond_true]
  refine⟨hl,fun t=>⟨.inl,?_⟩,fun t=>⟨.inl,?_⟩⟩
  ·rintro (h1|rfl)
   ·exact h1
   ·exact h
  ·rintro (h1|⟨rfl,h1⟩)
   ·exact h1
   ·exact absurd h h1
 |false =>
  rw[cond_false]
  refine⟨by rw[List.length_set];exact hl,fun t=>sx_set (by omega),fun t=>?_⟩
  rw[List.mem_append,List.mem_singleton]
  constructor
  ·rintro (h1|rfl)
   ·exact .inl h1
   ·exact .inr ⟨rfl,by unfold sx;rw[h];simp⟩
  ·rintro (h1|⟨h1,_⟩)
   ·exact .inl h1
   ·exact .inr h1
theorem prow_spec {A:Fa}(hA:A.ok){q:Nat}(hq:q<A.n):∀(r x:Nat) (z:List Bool×List Nat),z.1.length=A.n→x+r≤A.m→(prow A q r x z=none∧∃w,x≤w∧w<x+r∧A.fr q w=true)∨((∀w,x≤w→w<x+r→A.fr q w=false)∧∃z',prow A q r x z=some z'∧PutS A.n z z' fun t=>∃w,x≤w∧w<x+r∧A.nx q w=t)
 |0,x,z,hl,_=>.inr ⟨fun w h1 h2=>by omega,z,rfl,hl,fun t=>⟨.inl,fun h=>by rcases h with h|⟨w,h1,h2,_⟩;exact h;omega⟩,fun t=>⟨.inl,fun h=>by rcases h with h|⟨⟨w,h1,h2,_⟩,_⟩;exact h;omega⟩⟩
 |r+1,x,z,hl,hx=>by
  rw[prow]
  cases hf:A.fr q x with
  |true=>exact .inl ⟨rfl,x,Nat.le_refl _,by omega,hf⟩
  |false =>
   rw[cond_false]
   have h1:=putL_spec (z:=z) hl (hA.lt q x hq (by omega))
   rcases prow_spec hA hq r (x+1) _ h1.len (by omega) with⟨h2,w,h3,h4,h5⟩|⟨h2,z',h3,h4⟩
   ·exact .inl ⟨h2,w,by omega,by omega,h5⟩
   ·refine .inr ⟨fun w w1 w2=>?_,z',h3,(h1.trans h4).congr fun t=>?_⟩
    ·by_cases e:w=x
     ·rw[e];exact hf
     ·exact h2 w (by omega) (by omega)
    ·constructor
     ·rintro (rfl|⟨w,w1,w2,w3⟩)
      ·exact⟨x,Nat.le_refl _,by omega,rfl⟩
      ·exact⟨w,by omega,by omega,w3⟩
     ·rintro⟨w,w1,w2,w3⟩
      by_cases e:w=x
      ·subst e;exact .inl w3.symm
      ·exact .inr ⟨w,by omega,by omega,w3⟩
theorem pround_spec {A:Fa}(hA:A.ok):∀(l:List Nat) (z:List Bool×List Nat),(∀q∈l,q<A.n)→z.1.length=A.n→(pround A l z=none∧∃q∈l,∃w,w<A.m∧A.fr q w=true)∨((∀q∈l,∀w,w<A.m→A.fr q w=false)∧∃z',pround A l z=some z'∧PutS A.n z z' fun t=>∃q∈l,∃w,w<A.m∧A.nx q w=t)
 |[],z,_,hl=>.inr ⟨fun q hq=>by simp at hq,z,rfl,hl,fun t=>by simp,fun t=>by simp⟩
 |q::l,z,hln,hl=>by
  rw[pround]
  have hq:=hln q (List.mem_cons_self ..)
  rcases prow_spec hA hq A.m 0 z hl (by omega) with⟨h2,w,h3,h4,h5⟩|⟨h2,z1,h3,h4⟩
  ·rw[h2]
   exact .inl ⟨rfl,q,List.mem_cons_self ..,w,by omega,h5⟩
  ·rw[h3]
   simp only
   rcases pround_spec hA l z1 (fun a ha=>hln a (List.mem_cons_of_mem _ ha)) h4.len with⟨k2,p,k3,w,k4,k5⟩|⟨k2,z',k3,k4⟩
   ·exact .inl ⟨k2,p,List.mem_cons_of_mem _ k3,w,k4,k5⟩
   ·refine .inr ⟨fun p hp w hw=>?_,z',k3,(h4.trans k4).congr fun t=>?_⟩
    ·rcases List.mem_cons.1 hp with rfl|hp
     ·exact h2 w (Nat.zero_le _) (by omega)
     ·exact k2 p hp w hw
    ·constructor
     ·rintro (⟨w,_,w2,w3⟩|⟨p,hp,w,w2,w3⟩)
      ·exact⟨q,List.mem_cons_self ..,w,by omega,w3⟩
      ·exact⟨p,List.mem_cons_of_mem _ hp,w,w2,w3⟩
     ·rintro⟨p,hp,w,w2,w3⟩
      rcases List.mem_cons.1 hp with rfl|hp
      ·exact .inl ⟨w,Nat.zero_le _,by omega,w3⟩
      ·exact .inr ⟨p,hp,w,w2,w3⟩
theorem rrow_spec {A:Fa}(hA:A.ok){q:Nat}(hq:q<A.n):∀(r x:Nat) (z:List Bool),z.length=A.n→x+r≤A.m→(rrow A q r x z=none∧∃w,x≤w∧w<x+r∧A.fr q w=true)∨((∀w,x≤w→w<x+r→A.fr q w=false)∧∃z',rrow A q r x z=some z'∧z'.length=A.n∧∀t,sx z' t↔sx z t∨∃w,x≤w∧w<x+r∧A.nx q w=t)
 |0,x,z,hl,_=>.inr ⟨fun w h1 h2=>by omega,z,rfl,hl,fun t=>⟨.inl,fun h=>by rcases h with h|⟨w,h1,h2,_⟩;exact h;omega⟩⟩
 |r+1,x,z,hl,hx=>by
  rw[rrow]
  cases hf:A.fr q x with
  |true=>exact .inl ⟨rfl,x,Nat.le_refl _,by omega,hf⟩
  |false =>
   rw[cond_false]
   have hlt:=hA.lt q x hq (by omega)
   rcases rrow_spec hA hq r (x+1) (z.set (A.nx q x) true) (by rw[List.length_set];exact hl) (by omega) with⟨h2,w,h3,h4,h5⟩|⟨h2,z',h3,h4,h6⟩
   ·exact .inl ⟨h2,w,by omega,by omega,h5⟩
   ·refine .inr ⟨fun w w1 w2=>?_,z',h3,h4,fun t=>?_⟩
    ·by_cases e:w=x
     ·rw[e];exact hf
     ·exact h2 w (by omega) (by omega)
    ·rw[h6,sx_set (by omega)]
     constructor
     ·rintro ((h|rfl)|⟨w,w1,w2,w3⟩)
      ·exact .inl h
      ·exact .inr ⟨x,Nat.le_refl _,by omega,rfl⟩
      ·exact .inr ⟨w,by omega,by omega,w3⟩
     ·rintro (h|⟨w,w1,w2,w3⟩)
      ·exact .inl (.inl h)
      ·by_cases e:w=x
       ·subst e;exact .inl (.inr w3.symm)
       ·exact .inr ⟨w,by omega,by omega,w3⟩
theorem rround_spec {A:Fa}(hA:A.ok)(now:List Bool):∀(r s:Nat) (z:List Bool×List Bool),z.1.length=A.n→z.2.length=A.n→s+r≤A.n →
  (rround A now r s z=none∧∃q,s≤q∧q<s+r∧sx now q∧¬sx z.1 q∧∃w,w<A.m∧A.fr q w=true)∨((∀q,s≤q→q<s+r→sx now q→¬sx z.1 q→∀w,w<A.m→A.fr q w=false)∧∃z',rround A now r s z=some z'∧z'.1.length=A.n∧z'.2.length=A.n ∧
   (∀t,sx z'.1 t↔sx z.1 t∨(s≤t∧t<s+r∧sx now t))∧∀t,sx z'.2 t↔sx z.2 t∨∃q,s≤q∧q<s+r∧sx now q∧¬sx z.1 q∧∃w,w<A.m∧A.nx q w=t)
 |0,s,z,h1,h2,_=>.inr ⟨fun q a1 a2=>by omega,z,rfl,h1,h2,fun t=>⟨.inl,fun h=>by rcases h with h|h;exact h;omega⟩,fun t=>⟨.inl,fun h=>by rcases h with h|⟨q,a1,a2,_⟩;exact h;omega⟩⟩
 |r+1,s,z,h1,h2,hs=>by
  rw[rround]
  cases hg:(!now.getD s false)||z.1.getD s false with
  |true =>
   rw[cond_true]
   have hno:¬(sx now s∧¬sx z.1 s):=by
    rintro⟨a1,a2⟩
    unfold sx at a1 a2
    rw[a1] at hg
    simp at hg a2
    rw[a2] at hg;cases hg
   rcases rround_spec hA now r (s+1) z h1 h2 (by omega) with⟨k1,q,k2,k3,k4⟩|⟨k1,z',k2,k3,k4,k5,k6⟩
   ·exact .inl ⟨k1,q,by omega,by omega,k4⟩
   ·refine .inr ⟨fun q a1 a2 a3 a4=>?_,z',k2,k3,k4,fun t=>?_,fun t=>?_⟩
    ·by_cases e:q=s
     ·subst e;exact absurd ⟨a3,a4⟩ hno
     ·exact k1 q (by omega) (by omega) a3 a4
    ·rw[k5]
     constructor
     ·rintro (h|⟨a1,a2,a3⟩)
      ·exact .inl h
      ·exact .inr ⟨by omega,by omega,a3⟩
     ·rintro (h|⟨a1,a2,a3⟩)
      ·exact .inl h
      ·by_cases e:t=s
       ·subst e
        exact .inl (Classical.byContradiction fun h=>hno ⟨a3,h⟩)
       ·exact .inr ⟨by omega,by omega,a3⟩
    ·rw[k6]
     constructor
     ·rintro (h|⟨q,a1,a2,a3⟩)
      ·exact .inl h
      ·exact .inr ⟨q,by omega,by omega,a3⟩
     ·rintro (h|⟨q,a1,a2,a3,a4,a5⟩)
      ·exact .inl h
      ·by_cases e:q=s
       ·subst e;exact absurd ⟨a3,a4⟩ hno
       ·exact .inr ⟨q,by omega,by omega,a3,a4,a5⟩
  |false =>
   rw[cond_false]
   have hyes:sx now s∧¬sx z.1 s:=by
    unfold sx
    rw[Bool.or_eq_false_iff,Bool.not_eq_false'] at hg
    exact⟨hg.1,by rw[hg.2];simp⟩
   rcases rrow_spec hA (q:=s) (by omega) A.m 0 z.2 h2 (by omega) with⟨k1,w,k2,k3,k4⟩|⟨k1,nx,k2,k3,k4⟩
   ·rw[k1]
    exact .inl ⟨rfl,s,Nat.le_refl _,by omega,hyes.1,hyes.2,w,by omega,k4⟩
   ·rw[k2]
    simp only
    have hset:∀t,sx (z.1.set s true) t↔sx z.1 t∨t=s:=fun t=>sx_set (by omega)
    rcases rround_spec hA now r (s+1) (z.1.set s true,nx) (by simp only[List.length_set];exact h1) k3 (by omega) with⟨l1,q,l2,l3,l4,l5,l6⟩|⟨l1,z',l2,l3,l4,l5,l6⟩
    ·refine .inl ⟨l1,q,by omega,by omega,l4,fun h=>l5 ((hset q).2 (.inl h)),l6⟩
    ·simp only[hset] at l1 l5 l6
     refine .inr ⟨fun q a1 a2 a3 a4=>?_,z',l2,l3,l4,fun t=>?_,fun t=>?_⟩
     ·by_cases e:q=s
      ·subst e;exact fun w hw=>k1 w (Nat.zero_le _) (by omega)
      ·exact l1 q (by omega) (by omega) a3 (fun h=>by rcases h with h|h;exact a4 h;exact e h)
     ·rw[l5]
      constructor
      ·rintro ((h|rfl)|⟨a1,a2,a3⟩)
       ·exact .inl h
       ·exact .inr ⟨Nat.le_refl _,by omega,hyes.1⟩
       ·exact .inr ⟨by omega,by omega,a3⟩
      ·rintro (h|⟨a1,a2,a3⟩)
       ·exact .inl (.inl h)
       ·by_cases e:t=s
        ·exact .inl (.inr e)
        ·exact .inr ⟨by omega,by omega,a3⟩
     ·rw[l6,k4]
      constructor
      ·rintro ((h|⟨w,a1,a2,a3⟩)|⟨q,a1,a2,a3,a4,a5⟩)
       ·exact .inl h
       ·exact .inr ⟨s,Nat.le_refl _,by omega,hyes.1,hyes.2,w,by omega,a3⟩
       ·exact .inr ⟨q,by omega,by omega,a3,fun h=>a4 (.inl h),a5⟩
      ·rintro (h|⟨q,a1,a2,a3,a4,w,a5,a6⟩)
       ·exact .inl (.inl h)
       ·by_cases e:q=s
        ·subst e;exact .inl (.inr ⟨w,Nat.zero_le _,by omega,a6⟩)
        ·exact .inr ⟨q,by omega,by omega,a3,fun h=>(by rcases h with h|h;exact a4 h;exact e h),w,a5,a6⟩
theorem rloop_none {A:Fa}(hA:A.ok):∀(r d:Nat) (z:List Bool×List Bool),z.1.length=A.n→(∀t,sx z.2 t→sx z.1 t)→rloop A r d z=0
 |0,d,z,_,_=>rfl
 |r+1,d,z,h1,h=>by
  rw[rloop]
  rcases rround_spec hA z.2 A.n 0 (z.1,List.replicate A.n false) h1 (by simp) (by omega) with⟨_,q,_,_,k4,k5,_⟩|⟨_,z',k2,k3,k4,k5,k6⟩
  ·exact absurd (h q k4) k5
  ·rw[k2]
   refine rloop_none hA r (d+1) z' k3 fun t ht=>?_
   rcases (k6 t).1 ht with h'|⟨q,_,_,a3,a4,_⟩
   ·exact absurd h' (sx_rep _ _)
   ·exact absurd (h q a3) a4
theorem loops_eq {A:Fa}(hA:A.ok):∀(r d f:Nat) (p:List Bool×List Nat) (z:List Bool×List Bool),d+r=A.n+1→r<f→p.1.length=A.n→z.1.length=A.n→(∀t∈p.2,t<A.n)→(∀t,sx z.2 t→t<A.n) →
  (∀t,t∈p.2↔sx z.2 t∧¬sx z.1 t)→(∀t,sx p.1 t↔sx z.1 t∨t∈p.2)→(∃C:List Nat,C.Nodup∧C.length+1=d∧∀c∈C,c<A.n∧sx z.1 c)→ploop A f d p=rloop A r d z
 |r,d,0,p,z,_,hf,_,_,_,_,_,_,_=>by omega
 |r,d,f+1,p,z,hd,hf,hp,hz,hpn,hzn,h1,h2,hC=>by
  rw[ploop]
  cases hp2:p.2 with
  |nil =>
   simp only
   refine (rloop_none hA r d z hz fun t ht=>Classical.byContradiction fun h=>?_).symm
   have:=(h1 t).2 ⟨ht,h⟩
   rw[hp2] at this;simp at this
  |cons q l =>
   simp only
   rw[←hp2]
   obtain⟨C,c1,c2,c3⟩:=hC
   have hq:q∈p.2:=by rw[hp2];exact List.mem_cons_self ..
   have hqn:=hpn q hq
   obtain⟨q1,q2⟩:=(h1 q).1 hq
   have hnd:(q::C).Nodup:=List.nodup_cons.2 ⟨fun h=>q2 (c3 q h).2,c1⟩
   have hlen:=nodup_few (κ:=id) (st:=q::C) (by rw[List.map_id];exact hnd) (n:=A.n) fun c hc=>by
    rcases List.mem_cons.1 hc with rfl|hc
    ·exact hqn
    ·exact (c3 c hc).1
   rw[List.length_cons] at hlen
   cases r with
   |zero=>omega
   |succ r =>
    rw[rloop]
    have hiff:∀t,(0≤t∧t<0+A.n∧sx z.2 t∧¬sx z.1 t)↔t∈p.2:=fun t=>by
     rw[h1]
     exact⟨fun h=>h.2.2,fun h=>⟨Nat.zero_le _,by have:=hzn t h.1;omega,h⟩⟩
    rcases rround_spec hA z.2 A.n 0 (z.1,List.replicate A.n false) hz (by simp) (by omega) with⟨k1,q',a1,a2,k4,k5,w,k6,k7⟩|⟨k1,z',k2,k3,k4,k5,k6⟩
    ·rw[k1]
     rcases pround_spec hA p.2 (p.1,[]) hpn hp with⟨m1,_⟩|⟨m1,_⟩
     ·rw[m1]
     ·have:=m1 q' ((hiff q').1 ⟨a1,a2,k4,k5⟩) w k6
      rw[k7] at this;cases this
    ·rw[k2]
     rcases pround_spec hA p.2 (p.1,[]) hpn hp with⟨m1,q',m2,w,m3,m4⟩|⟨m1,p',m2,m3⟩
     ·obtain⟨a1,a2,a3,a4⟩:=(hiff q').2 m2
      have:=k1 q' a1 a2 a3 a4 w m3
      rw[m4] at this;cases this
     ·rw[m2]
      simp only
      have e1:∀t,sx z'.1 t↔sx p.1 t:=fun t=>by
       rw[k5,h2,h1]
       constructor
       ·rintro (h|⟨_,_,h⟩)
        ·exact .inl h
        ·by_cases hh:sx z.1 t
         ·exact .inl hh
         ·exact .inr ⟨h,hh⟩
       ·rintro (h|⟨h,_⟩)
        ·exact .inl h
        ·exact .inr ⟨Nat.zero_le _,by have:=hzn t h;omega,h⟩
      have e2:∀t,sx z'.2 t↔∃q∈p.2,∃w,w<A.m∧A.nx q w=t:=fun t=>by
       rw[k6]
       constructor
       ·rintro (h|⟨q,a1,a2,a3,a4,a5⟩)
        ·exact absurd h (sx_rep _ _)
        ·exact⟨q,(hiff q).1 ⟨a1,a2,a3,a4⟩,a5⟩
       ·rintro⟨q,a1,a5⟩
        obtain⟨b1,b2,b3,b4⟩:=(hiff q).2 a1
        exact .inr ⟨q,b1,b2,b3,b4,a5⟩
      have e3:∀t,sx z'.2 t→t<A.n:=fun t ht=>by
       obtain⟨q,a1,w,a2,rfl⟩:=(e2 t).1 ht
       exact hA.lt q w (hpn q a1) a2
      have e4:∀t,t∈p'.2↔sx z'.2 t∧¬sx z'.1 t:=fun t=>by
       rw[m3.lay,e2,e1]
       simp
      refine loops_eq hA r (d+1) f p' z' (by omega) (by omega) m3.len k3 (fun t ht=>e3 t ((e4 t).1 ht).1) e3 e4 (fun t=>?_) ⟨q::C,hnd,by rw[List.length_cons];omega,fun c hc=>?_⟩
      ·rw[m3.seen,e1,m3.lay]
       constructor
       ·rintro (h|h)
        ·exact .inl h
        ·by_cases hh:sx p.1 t
         ·exact .inl hh
         ·exact .inr (.inr ⟨h,hh⟩)
       ·rintro (h|h|⟨h,_⟩)
        ·exact .inl h
        ·simp at h
        ·exact .inr h
      ·rcases List.mem_cons.1 hc with rfl|hc
       ·exact⟨hqn,(e1 _).2 ((h2 _).2 (.inr hq))⟩
       ·exact⟨(c3 c hc).1,(e1 _).2 ((h2 _).2 (.inl (c3 c hc).2))⟩
end Go.Am
namespace Go.Am
open Go
variable [MaxLen]
def spN (A:Fa)(c x:Nat)(g:List Bool×List Nat):List Bool×List Nat:=bif A.fr (c / A.n) x then putL g (A.nx (c / A.n) x) else g
theorem stps_put {A:Fa}(hA:A.ok){g g':List Bool×List Nat}{l:List (Nat×Nat)}(h:Stps (fun g c x g'=>g'=spN A c x g) g l g')(hg:g.1.length=A.n)(hl:∀p∈l,p.1 / A.n<A.n∧p.2<A.m) :
  PutS A.n g g' fun t=>∃p∈l,A.fr (p.1 / A.n) p.2=true∧A.nx (p.1 / A.n) p.2=t:=by
 induction h with
 |nil=>exact⟨hg,fun t=>by simp,fun t=>by simp⟩
 |@snoc g1 g2 l c x h1 h2 ih =>
  have ih:=ih fun p hp=>hl p (List.mem_append_left _ hp)
  obtain⟨k1,k2⟩:=hl (c,x) (List.mem_append_right _ (List.mem_singleton.2 rfl))
  have hP:PutS A.n g1 g2 fun t=>A.fr (c / A.n) x=true∧A.nx (c / A.n) x=t:=by
   rw[h2]
   unfold spN
   cases hf:A.fr (c / A.n) x with
   |true =>
    rw[cond_true]
    exact (putL_spec ih.len (hA.lt _ _ k1 k2)).congr fun t=>⟨fun e=>⟨rfl,e.symm⟩,fun e=>e.2.symm⟩
   |false =>
    rw[cond_false]
    exact⟨ih.len,fun t=>by simp,fun t=>by simp⟩
  refine (ih.trans hP).congr fun t=>?_
  constructor
  ·rintro (⟨p,hp,e⟩|e)
   ·exact⟨p,List.mem_append_left _ hp,e⟩
   ·exact⟨(c,x),List.mem_append_right _ (List.mem_singleton.2 rfl),e⟩
  ·rintro⟨p,hp,e⟩
   rcases List.mem_append.1 hp with hp|hp
   ·exact .inl ⟨p,hp,e⟩
   ·rw[List.mem_singleton.1 hp] at e
    exact .inr e
def rnowR (A:Fa)(q:Nat):Nat→Nat→List Bool→List Bool
 |0,_,z=>z
 |r+1,x,z=>rnowR A q r (x+1) (bif A.fr q x then z.set (A.nx q x) true else z)
def rnow (A:Fa):List Nat→List Bool→List Bool
 |[],z=>z
 |c::l,z=>rnow A l (rnowR A (c / A.n) A.m 0 z)
theorem rnowR_spec {A:Fa}(hA:A.ok){q:Nat}(hq:q<A.n):∀(r x:Nat) (z:List Bool),z.length=A.n→x+r≤A.m→(rnowR A q r x z).length=A.n∧∀t,sx (rnowR A q r x z) t↔sx z t∨∃w,x≤w∧w<x+r∧A.fr q w=true∧A.nx q w=t
 |0,x,z,hl,_=>⟨hl,fun t=>⟨.inl,fun h=>by rcases h with h|⟨w,h1,h2,_⟩;exact h;omega⟩⟩
 |r+1,x,z,hl,hx=>by
  rw[rnowR]
  have hlt:=hA.lt q x hq (by omega)
  have h1:(bif A.fr q x then z.set (A.nx q x) true else z).length=A.n:=by cases A.fr q x <;> simp[hl]
  have h2:∀t,sx (bif A.fr q x then z.set (A.nx q x) true else z) t↔sx z t∨(A.fr q x=true∧A.nx q x=t):=fun t=>by
   cases hf:A.fr q x with
   |true =>
    rw[cond_true,sx_set (by omega)]
    exact⟨fun h=>h.imp id fun e=>⟨rfl,e.symm⟩,fun h=>h.imp id fun e=>e.2.symm⟩
   |false=>simp
  obtain⟨k1,k2⟩:=rnowR_spec hA hq r (x+1) _ h1 (by omega)
  refine⟨k1,fun t=>?_⟩
  rw[k2,h2]
  constructor
  ·rintro ((h|⟨a1,a2⟩)|⟨w,w1,w2,w3⟩)
   ·exact .inl h
   ·exact .inr ⟨x,Nat.le_refl _,by omega,a1,a2⟩
   ·exact .inr ⟨w,by omega,by omega,w3⟩
  ·rintro (h|⟨w,w1,w2,w3⟩)
   ·exact .inl (.inl h)
   ·by_cases e:w=x
    ·subst e;exact .inl (.inr w3)
    ·exact .inr ⟨w,by omega,by omega,w3⟩
theorem rnow_spec {A:Fa}(hA:A.ok):∀(l:List Nat) (z:List Bool),(∀c∈l,c / A.n<A.n)→z.length=A.n→(rnow A l z).length=A.n∧∀t,sx (rnow A l z) t↔sx z t∨∃c∈l,∃w,w<A.m∧A.fr (c / A.n) w=true∧A.nx (c / A.n) w=t
 |[],z,_,hl=>⟨hl,fun t=>by simp[rnow]⟩
 |c::l,z,hc,hl=>by
  obtain⟨k1,k2⟩:=rnowR_spec hA (hc c (List.mem_cons_self ..)) A.m 0 z hl (by omega)
  obtain⟨k3,k4⟩:=rnow_spec hA l _ (fun a ha=>hc a (List.mem_cons_of_mem _ ha)) k1
  refine⟨k3,fun t=>?_⟩
  rw[rnow,k4,k2]
  constructor
  ·rintro ((h|⟨w,_,w2,w3⟩)|⟨d,hd,w⟩)
   ·exact .inl h
   ·exact .inr ⟨c,List.mem_cons_self ..,w,by omega,w3⟩
   ·exact .inr ⟨d,List.mem_cons_of_mem _ hd,w⟩
  ·rintro (h|⟨d,hd,w,w2,w3⟩)
   ·exact .inl (.inl h)
   ·rcases List.mem_cons.1 hd with rfl|hd
    ·exact .inl (.inr ⟨w,Nat.zero_le _,by omega,w3⟩)
    ·exact .inr ⟨d,hd,w,w2,w3⟩
theorem spacing_eq {A:Fa}(hA:A.ok){T:List Nat}{m:Nat}(hm:m=A.m)(hT:∀c∈T,c / A.n<A.n){g:List Bool×List Nat}(h:Stps (fun g c x g'=>g'=spN A c x g) (List.replicate A.n false,[]) (T.flatMap fun c=>rowC c m) g) :
  ploop A (A.n+1) 1 g=rloop A A.n 1 (List.replicate A.n false,rnow A T (List.replicate A.n false)):=by
 subst hm
 have hmem:∀p:Nat×Nat,p∈(T.flatMap fun c=>rowC c A.m)↔p.1∈T∧p.2<A.m:=fun p=>by
  simp only[rowC,List.mem_flatMap,List.mem_map,List.mem_range]
  constructor
  ·rintro⟨c,hc,z,hz,rfl⟩
   exact⟨hc,hz⟩
  ·rintro⟨h1,h2⟩
   exact⟨p.1,h1,p.2,h2,rfl⟩
 have hp:=stps_put hA h (by simp) fun p hp=>⟨hT _ ((hmem p).1 hp).1,((hmem p).1 hp).2⟩
 obtain⟨r1,r2⟩:=rnow_spec hA T (List.replicate A.n false) hT (by simp)
 have e:∀t,t∈g.2↔sx (rnow A T (List.replicate A.n false)) t:=fun t=>by
  rw[hp.lay,r2]
  constructor
  ·rintro (h|⟨⟨p,h1,h2,h3⟩,_⟩)
   ·simp at h
   ·exact .inr ⟨p.1,((hmem p).1 h1).1,p.2,((hmem p).1 h1).2,h2,h3⟩
  ·rintro (h|⟨c,hc,w,w1,w2,w3⟩)
   ·exact absurd h (sx_rep _ _)
   ·exact .inr ⟨⟨(c,w),(hmem (c,w)).2 ⟨hc,w1⟩,w2,w3⟩,sx_rep _ _⟩
 have hlt:∀t,sx (rnow A T (List.replicate A.n false)) t→t<A.n:=fun t ht=>by
  rcases (r2 t).1 ht with h|⟨c,hc,w,w1,_,rfl⟩
  ·exact absurd h (sx_rep _ _)
  ·exact hA.lt _ _ (hT c hc) w1
 refine loops_eq hA A.n 1 (A.n+1) g (List.replicate A.n false,rnow A T (List.replicate A.n false)) (by omega) (by omega) hp.len (by simp) (fun t ht=>hlt t ((e t).1 ht)) hlt (fun t=>?_) (fun t=>?_) ⟨[],by simp,rfl,fun c hc=>by simp at hc⟩
 ·rw[e]
  exact⟨fun h=>⟨h,sx_rep _ _⟩,fun h=>h.1⟩
 ·rw[hp.seen,hp.lay]
  constructor
  ·rintro (h|h)
   ·exact absurd h (sx_rep _ _)
   ·exact .inr (.inr ⟨h,sx_rep _ _⟩)
  ·rintro (h|h|h)
   ·exact absurd h (sx_rep _ _)
   ·simp at h
   ·exact .inr h.1
end Go.Am
namespace Go.Am
open Go
variable [MaxLen]
set_option maxRecDepth 100000
set_option maxHeartbeats 8000000
theorem k117' (args:List AV)(s:St):callK U (calV U 117 args) 117 args s=cal U 117 args s:=(callK_eq U 117 args s).symm
theorem SlI.isB_t {s:St}{N:Nat}{L:List Nat}{v:AV}(h:SlI s N L v){j:Nat}(hj:isB v j):j<s.next∧s.get j=some (.cells (nats L) 3 false 0 0):=by
 rcases h with⟨rfl,_⟩|⟨b,rfl,h2,h3,h4⟩
 ·exact absurd hj (isB_nils j)
 ·rw[isB_sl] at hj;subst hj;exact⟨h4,h2⟩
structure SpI (s:St)(b5 b6 sb n:Nat)(z:List Bool×List Nat)(lv:AV):Prop where
 g5:s.get b5=some (.cells [.sl sb 0 n (some n) 1] 43 false 0 0)
 gs:s.get sb=some (.cells (zM z.1) 4 false 0 0)
 g6:s.get b6=some (.cells [lv] 40 false 0 0)
 gl:SlI s 0 z.2 lv
 lt:b5<s.next∧b6<s.next∧sb<s.next
 len:z.1.length=n
 cnt:z.2.length+z.1.count false≤n
theorem bools_getD {l:List Bool}{i:Nat}(h:i<l.length):(zM l)[i]? = some (.bool (l.getD i false)):=by
 rw[zM,List.getElem?_map,List.getElem?_eq_getElem h,List.getD_eq_getElem?_getD,List.getElem?_eq_getElem h]
 rfl
theorem count_set {l:List Bool}{q:Nat}(hq:q<l.length)(h:l.getD q false=false):(l.set q true).count false+1=l.count false:=by
 rw[List.getD_eq_getElem?_getD,List.getElem?_eq_getElem hq] at h
 simp only[Option.getD_some] at h
 rw[List.count_set hq,h]
 have:0<l.count false:=List.count_pos_iff.2 (h ▸ List.getElem_mem hq)
 simp
 omega
theorem c117 {s:St}{b5 b6 sb n q:Nat}{z:List Bool×List Nat}{lv:AV}(h:SpI s b5 b6 sb n z lv)(hq:q<n)(hn:n≤2^20)(fr:Fr s) :
  ∃v s' lv',cal U 117 [.int .i64 (q:Int),.ptr b5 0,.ptr b6 0] s=some (v,s')∧SpI s' b5 b6 sb n (putL z q) lv'∧(∀j,j<s.next→j≠sb→j≠b6→¬isB lv j→s'.get j=s.get j)∧s.next≤s'.next∧(∀j,isB lv' j→isB lv j∨s.next≤j)∧Fr s':=by
 suffices hgo:∃x lv',go U (finB U []) [] r117 (yG 0 [.int .i64 (q:Int),.ptr b5 0,.ptr b6 0] .nil) s=some x∧SpI x.2 b5 b6 sb n (putL z q) lv'∧(∀j,j<s.next→j≠sb→j≠b6→¬isB lv j→x.2.get j=s.get j)∧s.next≤x.2.next∧(∀j,isB lv' j→isB lv j∨s.next≤j)∧Fr x.2 by
  obtain⟨x,lv',h1,h2⟩:=hgo
  exact⟨x.1,x.2,lv',kept_go k117 (by kernel_rfl) h1,h2⟩
 have h0:=h
 obtain⟨g5,gs,g6,gl,⟨l1,l2,l3⟩,len,cnt⟩:=h
 have hql:q<z.1.length:=by omega
 have o1:=bools_getD hql
 unfold putL
 cases hb:z.1.getD q false with
 |true =>
  rw[hb] at o1
  simp (maxSteps:=2000000) +contextual only[go_sem,↓reduceIte,r117,g5,gs,o1,hq,Nat.mul_one,Nat.zero_add,cond_true]
  exact⟨_,lv,rfl,h0,fun j _ _ _ _=>rfl,Nat.le_refl _,fun j hj=>.inl hj,fr⟩
 |false =>
  rw[hb] at o1
  have y1:=bools_lay (l:=z.1) (i:=q) true hql
  have n1:(sb=b5)=False:=eq_false (zP gs g5 (by decide))
  have n2:(sb=b6)=False:=eq_false (zP gs g6 (by decide))
  have n3:(b6=b5)=False:=eq_false (zP g6 g5 (by decide))
  have n4:(b6=sb)=False:=eq_false (zP g6 gs (by decide))
  have n5:(b5=b6)=False:=eq_false (zP g5 g6 (by decide))
  have f1:∀q,(s.next+q=b6)=False:=fun q=>by simp;omega
  have f2:∀q,(s.next=b6)=False:=fun q=>by simp;omega
  have hlA:=gl.lenA
  have hcs:=count_set hql hb
  have hzl:z.2.length<n:=by omega
  have hb1:(z.2.length+1)*8≤1099511627776:=by omega
  have hb2:z.2.length+1≤1099511627776:=by omega
  simp (maxSteps:=2000000) +contextual only[go_sem,↓reduceIte,r117,g5,gs,g6,o1,hq,y1,n1,n2,n3,n4,n5,f2,Nat.mul_one,Nat.one_mul,Nat.zero_add,cond_false,zW,Nat.reducePow,hlA,hb1,hb2]
  obtain⟨S,hS⟩:∃S,S=(s.put sb (.cells (zM (z.1.set q true)) 4 false 0 0)).new (.cells [.int .i64 (q:Int)] 3 false 0 0):=⟨_,rfl⟩
  rw[←hS]
  have hSn:S.next=s.next+1:=by rw[hS,next_new,next_put]
  have kS:∀j,j<s.next→j≠sb→S.get j=s.get j:=fun j h1 h2=>by rw[hS,get_new,next_put,if_neg (by omega),get_put,if_neg h2.symm]
  have kSb:S.get sb=some (.cells (zM (z.1.set q true)) 4 false 0 0):=by rw[hS,get_new,next_put,if_neg (by omega),get_put,if_pos rfl]
  have frS:Fr S:=by rw[hS];exact (fr.put l3 _).new _
  have nl:∀j,isB lv j→j≠sb∧j≠b6∧j≠b5:=fun j hj=>by
   have h3:=gl.isB_t hj
   exact⟨zP h3.2 gs (by decide),zP h3.2 g6 (by decide),zP h3.2 g5 (by decide)⟩
  have gl2:SlI S 0 z.2 lv:=gl.keep (by omega) fun j h1 _ h3=>kS j h1 (nl j h3).1
  obtain⟨s4,d1,d2,d3,d4,d5⟩:=gl2.app (by omega) q
  rw[d1]
  have u6:s4.get b6=some (.cells [lv] 40 false 0 0):=(d4 b6 (by omega) fun h=>(nl _ h).2.1 rfl).trans ((kS b6 l2 (zP g6 gs (by decide))).trans g6)
  simp (maxSteps:=2000000) +contextual only[go_sem,↓reduceIte,u6]
  have e6:s4.next≠b6:=by omega
  refine⟨_,.sl S.next 0 (z.2.length+1) none 1,rfl,⟨?_,?_,?_,d3.keep (by simp only[next_put];omega) fun j h1 _ h3=>?_,by simp only[next_put];omega,by simp only[List.length_set];exact len,by simp only[List.length_append,List.length_singleton];omega⟩,fun j h1 h2 h3 h4=>?_,by simp only[next_put];omega,fun j hj=>?_,?_⟩
  ·rw[get_put,if_neg (zP g6 g5 (by decide)),d4 b5 (by omega) fun h=>(nl _ h).2.2 rfl,kS b5 l1 (zP g5 gs (by decide))];exact g5
  ·rw[get_put,if_neg (zP g6 gs (by decide)),d4 sb (by omega) fun h=>(nl _ h).1 rfl];exact kSb
  ·rw[get_put,if_pos rfl]
  ·rw[isB_sl] at h3;subst h3
   rw[get_put,if_neg (by omega)]
  ·rw[get_put,if_neg (fun e=>h3 e.symm),d4 j (by omega) h4,kS j h1 h2]
  ·rw[isB_sl] at hj;right;omega
  ·exact (d5 frS).put (by omega) _
theorem SpI.keep {s s':St}{b5 b6 sb n:Nat}{z:List Bool×List Nat}{lv:AV}(h:SpI s b5 b6 sb n z lv)(hn:s.next≤s'.next)(hg:∀j,j<s.next→j=b5∨j=b6∨j=sb∨isB lv j→s'.get j=s.get j):SpI s' b5 b6 sb n z lv:=by
 obtain⟨g5,gs,g6,gl,⟨l1,l2,l3⟩,len,cnt⟩:=h
 exact⟨(hg _ l1 (by simp)).trans g5,(hg _ l3 (by simp)).trans gs,(hg _ l2 (by simp)).trans g6,gl.keep hn fun j h1 _ h3=>hg j h1 (by simp[h3]),by omega,len,cnt⟩
theorem c118 {a:Auto}(ha:a.ok){s:St}{bA b7 b5 b6 sb c x:Nat}{z:List Bool×List Nat}{lv:AV}(h:SpI s b5 b6 sb a.fa.n z lv)(hc:c / a.fa.n<a.next.length)(hx:x<2^a.lines.toNat)(hA:bA<s.next)(h7:b7<s.next)
  (gA:s.get bA=some (.cells [.int .i64 a.lines,encS a.nNl (a.next.map zG),encS a.fNl (a.fires.map zC)] 69 false 0 0))(g7:s.get b7=some (.cells [.fn (.func 117) [] [.ptr b5 0,.ptr b6 0]] 189 false 0 0))(fr:Fr s) :
  ∃s' lv',cal U 118 [.agg (yM a.fa.n c),.int .i64 (x:Int),.ptr bA 0,.ptr b7 0] s=some (.bool true,s')∧SpI s' b5 b6 sb a.fa.n (spN a.fa c x z) lv'∧(∀j,j<s.next→j≠sb→j≠b6→¬isB lv j→s'.get j=s.get j)∧s.next≤s'.next∧(∀j,isB lv' j→isB lv j∨s.next≤j)∧Fr s':=by
 suffices hgo:∃s' lv',go U (finB U [.tmp 6]) [] r118 (yG 0 [.agg (yM a.fa.n c),.int .i64 (x:Int),.ptr bA 0,.ptr b7 0] .nil) s=some (.bool true,s')∧SpI s' b5 b6 sb a.fa.n (spN a.fa c x z) lv'∧(∀j,j<s.next→j≠sb→j≠b6→¬isB lv j→s'.get j=s.get j)∧s.next≤s'.next∧(∀j,isB lv' j→isB lv j∨s.next≤j)∧Fr s' by
  obtain⟨s',lv',h1,h2⟩:=hgo
  exact⟨s',lv',kept_go k118 (by kernel_rfl) h1,h2⟩
 have hq':c / a.fa.n<a.fires.length:=by rw[ha.fl];exact hc
 have r2:=ixa_rowB (nl:=a.fNl) hq'
 have n2:=ha.frAt hc hx
 have r1:=ixa_rowI (nl:=a.nNl) hc
 have n1:=ha.nxAt hc hx
 have hlt:=ha.faok.lt _ _ hc hx
 have hfew:=ha.few
 have f1:(s.next=bA)=False:=by simp;omega
 have f7:(s.next=b7)=False:=by simp;omega
 have hfk:=fr.at
 have hnn:a.fa.n=a.next.length:=rfl
 unfold spN
 cases hf:a.fa.fr (c / a.fa.n) x with
 |false =>
  rw[hf] at n2
  unfold yM
  simp (maxSteps:=2000000) +contextual only[go_sem,↓reduceIte,r118,gA,r2,n2,f1,cond_false]
  refine⟨_,lv,rfl,h.keep (by rw[next_new];omega) fun j h1 _=>by rw[get_new,if_neg (by omega)],fun j h1 _ _ _=>by rw[get_new,if_neg (by omega)],by rw[next_new];omega,fun j hj=>.inl hj,fr.new _⟩
 |true =>
  rw[hf] at n2
  obtain⟨S,hS⟩:∃S,S=(s.new (.cells [.int .i64 ((c / a.fa.n:Nat):Int),.int .i64 ((c%a.fa.n:Nat):Int)] 186 false 0 0)).upto (s.next+12):=⟨_,rfl⟩
  have hSn:S.next=s.next+12:=by rw[hS,zB]
  have kS:∀j,j<s.next→S.get j=s.get j:=fun j h1=>by rw[hS,zJ,get_new,if_neg (by omega)]
  have frS:Fr S:=by
   rw[hS]
   repeat first|exact fr|apply Fr.new|apply Fr.put|apply Fr.upto
   all_goals try simp only[next_put,next_new,zB]
   all_goals omega
  have hI:SpI S b5 b6 sb a.fa.n z lv:=h.keep (by omega) fun j h1 _=>kS j h1
  obtain⟨v,s4,lv4,h117,hI4,hs4,hn4,hB4,fr4⟩:=c117 hI (q:=a.fa.nx (c / a.fa.n) x) hlt (by omega) frS
  rw[hS] at h117
  unfold yM
  simp (maxSteps:=2000000) +contextual only[go_sem,↓reduceIte,r118,gA,g7,r1,r2,n1,n2,f1,f7,cond_true,hfk,Nat.add_assoc,k117',h117]
  refine⟨_,lv4,rfl,hI4,fun j h1 h2 h3 h4=>by rw[hs4 j (by omega) h2 h3 h4,kS j h1],by omega,fun j hj=>?_,fr4⟩
  rcases hB4 j hj with h|h
  ·exact .inl h
  ·right;omega
theorem yld118 {a:Auto}(ha:a.ok){bA b7 b5 b6 sb B0:Nat}(hA:bA<B0)(h7:b7<B0)(h5:b5<B0) :
  Yld (.fn (.func 118) [] [.ptr bA 0,.ptr b7 0]) a.fa.n B0 ((List Bool×List Nat)×AV) (fun g s=>SpI s b5 b6 sb a.fa.n g.1 g.2∧(bA<s.next∧s.get bA=some (.cells [.int .i64 a.lines,encS a.nNl (a.next.map zG),encS a.fNl (a.fires.map zC)] 69 false 0 0))∧(b7<s.next∧s.get b7=some (.cells [.fn (.func 117) [] [.ptr b5 0,.ptr b6 0]] 189 false 0 0)))
   (fun g j=>j=sb∨j=b6∨isB g.2 j) (fun c x=>c / a.fa.n<a.next.length∧x<2^a.lines.toNat) (fun _ _=>true) (fun g c x g'=>g'.1=spN a.fa c x g.1):=by
 refine⟨fun g c x s hd hci hf=>?_,fun g s s' hci hn hs=>?_,fun g s hci j hj=>?_⟩
 ·obtain⟨hI,⟨l1,gA⟩,l2,g7⟩:=hci
  obtain⟨s',lv',h1,h2,h3,h4,h5,h6⟩:=c118 ha hI hd.1 hd.2 l1 l2 gA g7 hf
  refine⟨(spN a.fa c x g.1,lv'),s',?_,rfl,⟨h2,⟨by omega,(h3 bA l1 (zP gA hI.gs (by decide)) (zP gA hI.g6 (by decide)) fun h=>zP gA (hI.gl.isB_t h).2 (by decide) rfl).trans gA⟩,by omega,(h3 b7 l2 (zP g7 hI.gs (by decide)) (zP g7 hI.g6 (by decide)) fun h=>zP g7 (hI.gl.isB_t h).2 (by decide) rfl).trans g7⟩,fun j hj=>?_,fun j hj hn=>h3 j hj (fun e=>hn (.inl e)) (fun e=>hn (.inr (.inl e))) fun e=>hn (.inr (.inr e)),h4,h6⟩
  ·rw[calv_fn,←callK_eq]
   exact h1
  ·rcases hj with hj|hj|hj
   ·exact .inl (.inl hj)
   ·exact .inl (.inr (.inl hj))
   ·rcases h5 j hj with h|h
    ·exact .inl (.inr (.inr h))
    ·exact .inr h
 ·obtain⟨hI,⟨l1,gA⟩,l2,g7⟩:=hci
  refine⟨hI.keep hn fun j h1 h2=>hs j h1 ?_,⟨by omega,(hs bA l1 (.inr hA)).trans gA⟩,by omega,(hs b7 l2 (.inr h7)).trans g7⟩
  rcases h2 with h|h|h|h
  ·exact .inr (by omega)
  ·exact .inl (.inr (.inl h))
  ·exact .inl (.inl h)
  ·exact .inl (.inr (.inr h))
 ·obtain⟨hI,_⟩:=hci
  obtain⟨l1,l2,l3⟩:=hI.lt
  rcases hj with h|h|h
  ·omega
  ·omega
  ·exact (hI.gl.isB_t h).1
theorem l48a {ks:List K}{Post:Option AV→Prop}{a:Auto}(ha:a.ok){bA b7 b5 b6 sb q d:Nat}{z:List Bool×List Nat}{lv:AV}(hq:q<a.next.length)
  {e:Env}{s:St}(g1:Env.get e 1=.ptr bA 0)(g7:Env.get e 7=.ptr b7 0)(g8:Env.get e 8=.int .i64 (d:Nat))(g11:Env.get e 11=.int .i64 (q:Nat))(g44:Env.get e 44=encS (a.fires[q]'(by rw[ha.fl];exact hq)).1 (zM (a.fires[q]'(by rw[ha.fl];exact hq)).2))(g45:Env.get e 45=.int .i64 ((2^a.lines.toNat:Nat):Int))(g46:Env.get e 46=.int .i64 (0:Nat))
  (hI:SpI s b5 b6 sb a.fa.n z lv)(uA:s.get bA=some (.cells [.int .i64 a.lines,encS a.nNl (a.next.map zG),encS a.fNl (a.fires.map zC)] 69 false 0 0))(u7:s.get b7=some (.cells [.fn (.func 117) [] [.ptr b5 0,.ptr b6 0]] 189 false 0 0))(lA:bA<s.next)(l7:b7<s.next)(fr:Fr s)
  (hret:prow a.fa q (2^a.lines.toNat) 0 z=none→Post (some (.tup [.int .i64 (d:Nat),.int .i64 0])))
  (hk:∀z',prow a.fa q (2^a.lines.toNat) 0 z=some z'→∀e' s' lv',(∀t:Nat,t<12∨13<t∧t<46→Env.get e' t=Env.get e t)→SpI s' b5 b6 sb a.fa.n z' lv'→(∀j,j<s.next→j≠sb→j≠b6→¬isB lv j→s'.get j=s.get j)→s.next≤s'.next→(∀j,isB lv' j→isB lv j∨s.next≤j)→Fr s'→Post (goN U (finP U [.tmp 2,.tmp 3]) ks e' s')) :
  Post (goL U (finP U [.tmp 2,.tmp 3]) (.bk 4::ks) r48_l0 e s):=by
 have hm16:=ha.m16
 have hfew:=ha.few
 have hnn:a.fa.n=a.next.length:=rfl
 generalize hR:prow a.fa q (2^a.lines.toNat) 0 z=R at *
 refine yE (σ:=Nat) (fun x=>2^a.lines.toNat-x) (fun x e' s'=>x≤2^a.lines.toNat∧(∀t:Nat,t<12∨13<t∧t<46→Env.get e' t=Env.get e t)∧Env.get e' 46=.int .i64 (x:Nat)∧(∀j,j<s.next→j≠sb→j≠b6→¬isB lv j→s'.get j=s.get j)∧s.next≤s'.next∧Fr s' ∧
   ∃z' lv',SpI s' b5 b6 sb a.fa.n z' lv'∧prow a.fa q (2^a.lines.toNat-x) x z'=R∧(∀j,isB lv' j→isB lv j∨s.next≤j)) 0 ?_
  ⟨Nat.zero_le _,fun _ _=>rfl,g46,fun _ _ _ _ _=>rfl,Nat.le_refl _,fr,z,lv,hI,hR,fun j hj=>.inl hj⟩
 rintro Lp x e' s' ⟨hx0,hold,q46,hs,hnx,fr',z',lv',hI',hrun,hB⟩ IH
 have q1:=(hold 1 (by omega)).trans g1
 have q7:=(hold 7 (by omega)).trans g7
 have q8:=(hold 8 (by omega)).trans g8
 have q11:=(hold 11 (by omega)).trans g11
 have q44:=(hold 44 (by omega)).trans g44
 have q45:=(hold 45 (by omega)).trans g45
 have kA:=(hs bA lA (zP uA hI.gs (by decide)) (zP uA hI.g6 (by decide)) fun h=>zP uA (hI.gl.isB_t h).2 (by decide) rfl).trans uA
 have k7:=(hs b7 l7 (zP u7 hI.gs (by decide)) (zP u7 hI.g6 (by decide)) fun h=>zP u7 (hI.gl.isB_t h).2 (by decide) rfl).trans u7
 by_cases hd:x<2^a.lines.toNat
 ·have hw:=zR hd (by omega)
  have n2:=ha.frAt hq hd
  have r1:=ixa_rowI (nl:=a.nNl) hq
  have n1:=ha.nxAt hq hd
  rw[show 2^a.lines.toNat-x=(2^a.lines.toNat-(x+1))+1 by omega,prow] at hrun
  cases hf:a.fa.fr q x with
  |true =>
   rw[hf] at n2
   rw[hf,cond_true] at hrun
   simp (maxSteps:=2000000) +contextual only[go_sem,↓reduceIte,r48_l0,q8,q44,q45,q46,zA,hd,n2]
   exact hret hrun.symm
  |false =>
   rw[hf] at n2
   rw[hf,cond_false] at hrun
   have hfk:=fr'.at
   obtain⟨S,hS⟩:∃S,S=s'.upto (s'.next+10):=⟨_,rfl⟩
   have hSn:S.next=s'.next+10:=by rw[hS,zB]
   have kS:∀j,S.get j=s'.get j:=fun j=>by rw[hS,zJ]
   have frS:Fr S:=by rw[hS];exact fr'.upto (by omega)
   have hlt:=ha.faok.lt q x hq hd
   obtain⟨v,s4,lv4,h117,hI4,hs4,hn4,hB4,fr4⟩:=c117 (hI'.keep (s':=S) (by omega) fun j _ _=>kS j) (q:=a.fa.nx q x) hlt (by omega) frS
   rw[hS] at h117
   simp (maxSteps:=2000000) +contextual only[go_sem,↓reduceIte,r48_l0,q1,q7,q8,q11,q44,q45,q46,zA,hd,n2,kA,k7,r1,n1,hfk,k117',h117,hw]
   refine IH (x+1) _ _ (by omega) ⟨by omega,fun t ht=>?_,?_,fun j h1 h2 h3 h4=>?_,by omega,fr4,putL z' (a.fa.nx q x),lv4,hI4,hrun,fun j hj=>?_⟩
   ·have hne:∀k:Nat,46≤k→(k=t)=False:=fun k hk=>by simp;omega
    have h12:(12=t)=False:=by simp;omega
    have h13:(13=t)=False:=by simp;omega
    simp +contextual only[go_sem,↓reduceIte,hne,h12,h13]
    exact hold t ht
   ·simp +contextual only[go_sem,↓reduceIte]
   ·have hnb:¬isB lv' j:=fun h=>by rcases hB j h with h|h;exact h4 h;omega
    rw[hs4 j (by omega) h2 h3 hnb,kS j,hs j h1 h2 h3 h4]
   ·rcases hB4 j hj with h|h
    ·exact hB j h
    ·right;omega
 ·have hxe:x=2^a.lines.toNat:=by omega
  subst hxe
  rw[Nat.sub_self,prow] at hrun
  simp (maxSteps:=2000000) +contextual only[go_sem,↓reduceIte,r48_l0,q45,q46,zA,Nat.lt_irrefl]
  refine hk z' hrun.symm _ _ lv' (fun t ht=>?_) hI' hs hnx hB fr'
  have hne:∀k:Nat,46≤k→(k=t)=False:=fun k hk=>by simp;omega
  simp +contextual only[go_sem,↓reduceIte,hne]
  exact hold t ht
theorem putL_sum {z:List Bool×List Nat}{q:Nat}(hq:q<z.1.length):(putL z q).2.length+(putL z q).1.count false=z.2.length+z.1.count false∧(putL z q).1.length=z.1.length:=by
 unfold putL
 cases h:z.1.getD q false with
 |true=>exact⟨rfl,rfl⟩
 |false =>
  have:=count_set hq h
  simp only[cond_false,List.length_append,List.length_singleton,List.length_set]
  exact⟨by omega,trivial⟩
theorem prow_sum {A:Fa}(hA:A.ok){q:Nat}(hq:q<A.n):∀(r x:Nat) (z z':List Bool×List Nat),z.1.length=A.n→x+r≤A.m→prow A q r x z=some z'→z'.2.length+z'.1.count false=z.2.length+z.1.count false∧z'.1.length=A.n
 |0,x,z,z',hl,_,h=>by
  rw[prow] at h
  cases h
  exact⟨rfl,hl⟩
 |r+1,x,z,z',hl,hx,h=>by
  rw[prow] at h
  cases hf:A.fr q x with
  |true=>rw[hf] at h;cases h
  |false =>
   rw[hf,cond_false] at h
   obtain⟨h1,h2⟩:=putL_sum (z:=z) (q:=A.nx q x) (by rw[hl];exact hA.lt q x hq (by omega))
   obtain⟨h3,h4⟩:=prow_sum hA hq r (x+1) _ z' (by omega) (by omega) h
   exact⟨by omega,h4⟩
theorem pround_sum {A:Fa}(hA:A.ok):∀(l:List Nat) (z z':List Bool×List Nat),(∀q∈l,q<A.n)→z.1.length=A.n→pround A l z=some z'→z'.2.length+z'.1.count false=z.2.length+z.1.count false∧z'.1.length=A.n
 |[],z,z',_,hl,h=>by
  rw[pround] at h
  cases h
  exact⟨rfl,hl⟩
 |q::l,z,z',hq,hl,h=>by
  rw[pround] at h
  cases hp:prow A q A.m 0 z with
  |none=>rw[hp] at h;cases h
  |some z1 =>
   rw[hp] at h
   obtain⟨h1,h2⟩:=prow_sum hA (hq q (List.mem_cons_self ..)) A.m 0 z z1 hl (by omega) hp
   obtain⟨h3,h4⟩:=pround_sum hA l z1 z' (fun a ha=>hq a (List.mem_cons_of_mem _ ha)) h2 h
   exact⟨by omega,h4⟩
theorem l48b {ks:List K}{Post:Option AV→Prop}{a:Auto}(ha:a.ok){bA b7 b5 b6 sb d nb:Nat}{z:List Bool×List Nat}{lv:AV}{l:List Nat}(hl:∀q∈l,q<a.next.length)(hll:l.length≤2^20)
  {e:Env}{s:St}(g1:Env.get e 1=.ptr bA 0)(g7:Env.get e 7=.ptr b7 0)(g8:Env.get e 8=.int .i64 (d:Nat))(g34:Env.get e 34=.sl nb 0 l.length none 1)(g35:Env.get e 35=.int .i64 (l.length:Nat))(g36:Env.get e 36=.int .i64 (0:Nat))
  (hI:SpI s b5 b6 sb a.fa.n z lv)(unb:s.get nb=some (.cells (nats l) 3 false 0 0))(nlv:¬isB lv nb)(lnb:nb<s.next)(uA:s.get bA=some (.cells [.int .i64 a.lines,encS a.nNl (a.next.map zG),encS a.fNl (a.fires.map zC)] 69 false 0 0))(u7:s.get b7=some (.cells [.fn (.func 117) [] [.ptr b5 0,.ptr b6 0]] 189 false 0 0))(lA:bA<s.next)(l7:b7<s.next)(fr:Fr s)
  (hret:pround a.fa l z=none→Post (some (.tup [.int .i64 (d:Nat),.int .i64 0])))
  (hk:∀z',pround a.fa l z=some z'→∀e' s' lv',(∀t:Nat,t<11→Env.get e' t=Env.get e t)→SpI s' b5 b6 sb a.fa.n z' lv'→(∀j,j<s.next→j≠sb→j≠b6→¬isB lv j→s'.get j=s.get j)→s.next≤s'.next→Fr s'→Post (goN U (finP U [.tmp 2,.tmp 3]) ks e' s')) :
  Post (goL U (finP U [.tmp 2,.tmp 3]) (.bk 2::ks) r48_l1 e s):=by
 have hm16:=ha.m16
 generalize hR:pround a.fa l z=R at *
 refine yE (σ:=Nat) (fun i=>l.length-i) (fun i e' s'=>i≤l.length∧(∀t:Nat,t<11∨t=34∨t=35→Env.get e' t=Env.get e t)∧Env.get e' 36=.int .i64 (i:Nat)∧(∀j,j<s.next→j≠sb→j≠b6→¬isB lv j→s'.get j=s.get j)∧s.next≤s'.next∧Fr s' ∧
   ∃z' lv',SpI s' b5 b6 sb a.fa.n z' lv'∧pround a.fa (l.drop i) z'=R∧(∀j,isB lv' j→isB lv j∨s.next≤j)) 0 ?_
  ⟨Nat.zero_le _,fun _ _=>rfl,g36,fun _ _ _ _ _=>rfl,Nat.le_refl _,fr,z,lv,hI,hR,fun j hj=>.inl hj⟩
 rintro Lp i e' s' ⟨hi,hold,q36,hs,hnx,fr',z',lv',hI',hrun,hB⟩ IH
 have q1:=(hold 1 (by omega)).trans g1
 have q7:=(hold 7 (by omega)).trans g7
 have q8:=(hold 8 (by omega)).trans g8
 have q34:=(hold 34 (by omega)).trans g34
 have q35:=(hold 35 (by omega)).trans g35
 have kA:=(hs bA lA (zP uA hI.gs (by decide)) (zP uA hI.g6 (by decide)) fun h=>zP uA (hI.gl.isB_t h).2 (by decide) rfl).trans uA
 have k7:=(hs b7 l7 (zP u7 hI.gs (by decide)) (zP u7 hI.g6 (by decide)) fun h=>zP u7 (hI.gl.isB_t h).2 (by decide) rfl).trans u7
 have kn:=(hs nb lnb (zP unb hI.gs (by decide)) (zP unb hI.g6 (by decide)) nlv).trans unb
 by_cases hd:i<l.length
 ·have hw:=zR hd (by omega)
  have o1:=yL (l:=l) (i:=i) hd
  rw[gt_get hd] at o1
  have hq:=hl _ (List.getElem_mem hd)
  rw[List.drop_eq_getElem_cons hd,pround] at hrun
  generalize l[i]=q at *
  have hq':q<a.fires.length:=by rw[ha.fl];exact hq
  have r2:=ixa_rowB (nl:=a.fNl) hq'
  have hlen:=ha.frow q hq'
  have hle:=zX a.fires[q].1 (zM a.fires[q].2)
  rw[bools_len,hlen] at hle
  simp (maxSteps:=2000000) +contextual only[go_sem,↓reduceIte,r48_l1,q1,q34,q35,q36,zA,hd,kn,o1,kA,r2,hle,Nat.mul_one,Nat.zero_add]
  have hm:a.fa.m=2^a.lines.toNat:=rfl
  rw[hm] at hrun
  refine l48a (Post:=Post) ha (q:=q) (d:=d) (bA:=bA) (b7:=b7) (b5:=b5) (b6:=b6) (sb:=sb) (z:=z') (lv:=lv') hq ?_ ?_ ?_ ?_ ?_ ?_ ?_ hI' kA k7 (by omega) (by omega) fr' ?_ ?_
  case refine_8 =>
   intro hnone
   rw[hnone] at hrun
   exact hret hrun.symm
  case refine_9 =>
   intro z2 hz2 e2 s2 lv2 h2a hI2 hs2 hn2 hB2 fr2
   rw[hz2] at hrun
   simp only at hrun
   have E2:∀t:Nat,t<11∨t=34∨t=35→Env.get e2 t=Env.get e' t:=fun t ht=>by
    rw[h2a t (by omega)]
    have hne:∀k:Nat,37≤k→(k=t)=False:=fun k hk=>by simp;omega
    have h11:(11=t)=False:=by simp;omega
    simp +contextual only[go_sem,↓reduceIte,hne,h11]
   have p36:Env.get e2 36=.int .i64 (i:Nat):=by
    rw[h2a 36 (by omega)]
    simp +contextual only[go_sem,↓reduceIte,q36]
   simp (maxSteps:=2000000) +contextual only[go_sem,↓reduceIte,p36,hw]
   refine IH (i+1) _ _ (by omega) ⟨by omega,fun t ht=>?_,?_,fun j h1 h2 h3 h4=>?_,by omega,fr2,z2,lv2,hI2,hrun,fun j hj=>?_⟩
   ·have hne:∀k:Nat,36≤k→(k=t)=False:=fun k hk=>by simp;omega
    simp +contextual only[go_sem,↓reduceIte,hne]
    exact (E2 t ht).trans (hold t ht)
   ·simp +contextual only[go_sem,↓reduceIte]
   ·have hnb:¬isB lv' j:=fun h=>by rcases hB j h with h|h;exact h4 h;omega
    rw[hs2 j (by omega) h2 h3 hnb,hs j h1 h2 h3 h4]
   ·rcases hB2 j hj with h|h
    ·exact hB j h
    ·right;omega
  all_goals simp +contextual only[go_sem,↓reduceIte,q1,q7,q8]
  all_goals rfl
 ·have hie:i=l.length:=by omega
  subst hie
  rw[List.drop_length,pround] at hrun
  simp (maxSteps:=2000000) +contextual only[go_sem,↓reduceIte,r48_l1,q35,q36,zA,Nat.lt_irrefl]
  refine hk z' hrun.symm _ _ lv' (fun t ht=>?_) hI' hs hnx fr'
  have hne:∀k:Nat,36≤k→(k=t)=False:=fun k hk=>by simp;omega
  simp +contextual only[go_sem,↓reduceIte,hne]
  exact hold t (.inl ht)
theorem Stps.map {G H:Type}{nxt:G→Nat→Nat→G→Prop}{nxt':H→Nat→Nat→H→Prop}{φ:G→H}(h:∀g c x g',nxt g c x g'→nxt' (φ g) c x (φ g')){g g':G}{l:List (Nat×Nat)}(hs:Stps nxt g l g'):Stps nxt' (φ g) l (φ g'):=by
 induction hs with
 |nil=>exact .nil _
 |snoc h1 h2 ih=>exact .snoc ih (h _ _ _ _ h2)
theorem l48c {ks:List K}{Post:Option AV→Prop}{a:Auto}(ha:a.ok){bA b7 b5 b6 sb R:Nat}{z:List Bool×List Nat}{lv:AV}
  {e:Env}{s:St}(g1:Env.get e 1=.ptr bA 0)(g6:Env.get e 6=.ptr b6 0)(g7:Env.get e 7=.ptr b7 0)(g8:Env.get e 8=.int .i64 ((1:Nat):Int))
  (hI:SpI s b5 b6 sb a.fa.n z lv)(hz:∀q∈z.2,q<a.fa.n)(hR:ploop a.fa (a.fa.n+1) 1 z=R)(uA:s.get bA=some (.cells [.int .i64 a.lines,encS a.nNl (a.next.map zG),encS a.fNl (a.fires.map zC)] 69 false 0 0))(u7:s.get b7=some (.cells [.fn (.func 117) [] [.ptr b5 0,.ptr b6 0]] 189 false 0 0))(lA:bA<s.next)(l7:b7<s.next)(fr:Fr s)
  (hret:0<R→Post (some (.tup [.int .i64 (R:Nat),.int .i64 0])))
  (hk:R=0→∀e' s',Post (goN U (finP U [.tmp 2,.tmp 3]) ks e' s')) :
  Post (goL U (finP U [.tmp 2,.tmp 3]) (.bk 0::ks) r48_l2 e s):=by
 have hA:=ha.faok
 have hfew:=ha.few
 have hnn:a.fa.n=a.next.length:=rfl
 refine yE (σ:=Nat) (fun f=>f) (fun f e' s'=>Env.get e' 1=.ptr bA 0∧Env.get e' 6=.ptr b6 0∧Env.get e' 7=.ptr b7 0∧s'.get bA=some (.cells [.int .i64 a.lines,encS a.nNl (a.next.map zG),encS a.fNl (a.fires.map zC)] 69 false 0 0)∧s'.get b7=some (.cells [.fn (.func 117) [] [.ptr b5 0,.ptr b6 0]] 189 false 0 0)∧bA<s'.next∧b7<s'.next∧Fr s' ∧
   ∃d z' lv',Env.get e' 8=.int .i64 (d:Nat)∧0<d∧d+f≤a.fa.n+2∧SpI s' b5 b6 sb a.fa.n z' lv'∧(∀q∈z'.2,q<a.fa.n)∧ploop a.fa f d z'=R∧(z'.2≠[]→z'.1.count false+1≤f)) (a.fa.n+1) ?_
  ⟨g1,g6,g7,uA,u7,lA,l7,fr,1,z,lv,g8,by omega,by omega,hI,hz,hR,fun _=>by have:=hI.cnt;omega⟩
 clear g1 g6 g7 g8 hI hz hR uA u7 lA l7 fr z lv e s
 rintro Lp f e s ⟨g1,g6,g7,uA,u7,lA,l7,fr,d,z,lv,g8,hd0,hdf,hI,hz,hR,hf⟩ IH
 have u6:=hI.g6
 have hlA:lenRL lv=some (.int .i64 (z.2.length:Nat)):=by
  rcases hI.gl with⟨rfl,h⟩|⟨b,rfl,_⟩
  ·rw[h];rfl
  ·rfl
 cases hz2:z.2 with
 |nil =>
  rw[hz2] at hlA
  have hR0:R=0:=by
   rw[←hR]
   cases f with
   |zero=>rfl
   |succ f=>rw[ploop,hz2]
  have hd:decide (((0:Nat):Int)>0)=false:=rfl
  have hlA:lenRL lv=some (.int .i64 0):=hlA
  have hd:decide ((0:Int)>0)=false:=rfl
  simp (maxSteps:=2000000) +contextual only[go_sem,↓reduceIte,r48_l2,g6,u6,hlA,hd]
  exact hk hR0 _ _
 |cons q l =>
  have hne:z.2≠[]:=by rw[hz2];simp
  have hf1:=hf hne
  obtain⟨f,rfl⟩:∃f',f=f'+1:=⟨f-1,by omega⟩
  rw[ploop,hz2] at hR
  simp only at hR
  rw[←hz2] at hR
  have hpos:decide ((z.2.length:Int)>0)=true:=by rw[hz2];simp
  obtain⟨nb,rfl,hnb,_,lnb⟩:∃nb,lv=.sl nb 0 z.2.length none 1∧s.get nb=some (.cells (nats z.2) 3 false 0 0)∧0≤nb∧nb<s.next:=by
   rcases hI.gl with⟨_,h⟩|h
   ·exact absurd h hne
   ·exact h
  have hzl:=hI.cnt
  have hwr:IntKind.i64.wrap ((d:Int)+1)=((d+1:Nat):Int):=by rw[wrap_i64] <;> omega
  have lt6:=hI.lt
  simp (maxSteps:=2000000) +contextual only[go_sem,↓reduceIte,r48_l2,g6,u6,hlA,hpos]
  have hn6:nb≠b6:=zP hnb hI.g6 (by decide)
  have kS:∀j,j≠b6→(s.put b6 (.cells [.nils] 40 false 0 0)).get j=s.get j:=fun j h=>by rw[get_put,if_neg h.symm]
  have hI2:SpI (s.put b6 (.cells [.nils] 40 false 0 0)) b5 b6 sb a.fa.n (z.1,[]) .nils:=by
   refine⟨(kS _ (zP hI.g5 hI.g6 (by decide))).trans hI.g5,(kS _ (zP hI.gs hI.g6 (by decide))).trans hI.gs,by rw[get_put,if_pos rfl],.inl ⟨rfl,rfl⟩,by rw[next_put];exact lt6,hI.len,by simp only[List.length_nil];omega⟩
  refine l48b (Post:=Post) ha (bA:=bA) (b7:=b7) (b5:=b5) (b6:=b6) (sb:=sb) (d:=d) (nb:=nb) (z:=(z.1,[])) (lv:=.nils) (l:=z.2) hz (by omega) ?_ ?_ ?_ ?_ ?_ ?_ hI2 ((kS nb hn6).trans hnb) (isB_nils nb) (by rw[next_put];exact lnb) ((kS bA (zP uA hI.g6 (by decide))).trans uA) ((kS b7 (zP u7 hI.g6 (by decide))).trans u7) (by rw[next_put];exact lA) (by rw[next_put];exact l7) (fr.put lt6.2.1 _) ?_ ?_
  case refine_7 =>
   intro hnone
   rw[hnone] at hR
   simp only at hR
   subst hR
   exact hret hd0
  case refine_8 =>
   intro z3 hz3 e3 s3 lv3 h3a hI3 hs3 hn3 fr3
   rw[hz3] at hR
   simp only at hR
   have hzs:=pround_sum hA z.2 (z.1,[]) z3 hz hI.len hz3
   have hPS:∀t∈z3.2,t<a.fa.n:=by
    rcases pround_spec hA z.2 (z.1,[]) hz hI.len with⟨m1,_⟩|⟨_,z4,m2,m3⟩
    ·rw[m1] at hz3;cases hz3
    ·rw[hz3] at m2
     cases m2
     intro t ht
     rcases (m3.lay t).1 ht with h|⟨⟨p,hp,w,hw,rfl⟩,_⟩
     ·simp at h
     ·exact hA.lt p w (hz p hp) hw
   have E3:∀t:Nat,t<9→Env.get e3 t=Env.get e t:=fun t ht=>by
    rw[h3a t (by omega)]
    have hne:∀k:Nat,9≤k→(k=t)=False:=fun k hk=>by simp;omega
    simp +contextual only[go_sem,↓reduceIte,hne]
   have p8:=(E3 8 (by omega)).trans g8
   rw[next_put] at hs3 hn3
   have vA:=(hs3 bA lA (zP uA hI.gs (by decide)) (zP uA hI.g6 (by decide)) (isB_nils _)).trans ((kS bA (zP uA hI.g6 (by decide))).trans uA)
   have v7:=(hs3 b7 l7 (zP u7 hI.gs (by decide)) (zP u7 hI.g6 (by decide)) (isB_nils _)).trans ((kS b7 (zP u7 hI.g6 (by decide))).trans u7)
   simp (maxSteps:=2000000) +contextual only[go_sem,↓reduceIte,p8,hwr]
   refine IH f _ _ (by omega) ⟨?_,?_,?_,vA,v7,by omega,by omega,fr3,d+1,z3,lv3,?_,by omega,by omega,hI3,hPS,hR,fun h=>?_⟩
   case refine_5 =>
    have:0<z3.2.length:=List.length_pos_iff.2 h
    simp only[List.length_nil] at hzs
    omega
   all_goals simp +contextual only[go_sem,↓reduceIte,(E3 1 (by omega)).trans g1,(E3 6 (by omega)).trans g6,(E3 7 (by omega)).trans g7]
  all_goals simp +contextual only[go_sem,↓reduceIte,g1,g7,g8]
  all_goals rfl
def spV (a:Auto):Nat:=rloop a.fa a.fa.n 1 (List.replicate a.fa.n false,rnow a.fa (prodT a a) (List.replicate a.fa.n false))
def spaceP (a:Auto):AV:=bif ckA a != 0 then .tup [.int .i64 0,.int .i64 (ckA a)] else .tup [.int .i64 (spV a:Nat),.int .i64 (br (spV a==0) 7 0)]
theorem c48 (a:Auto)(hn:a.next.length≤2^40)(hr:∀r∈a.next,r.2.length≤2^40):calV U 48 [encA a]=some (spaceP a):=by
 refine yB k48 (by kernel_rfl) (by simp[zS,yH]) ?_
 have h58:=c58 a hn hr
 unfold spaceP
 have nn:=zH a.nNl (a.next.map zG)
 have nf:=zH a.fNl (a.fires.map zC)
 have cn:=zD a.nNl (a.next.map zG)
 have cf:=zD a.fNl (a.fires.map zC)
 cases hc:ckA a != 0 with
 |true =>
  rw[zU a] at h58 ⊢
  unfold encN encFs at h58 ⊢
  simp (maxSteps:=2000000) +contextual only[go_sem,↓reduceIte,r48,nn,nf,cn,cf,h58,hc,cond_true]
 |false =>
  have h0:ckA a=0:=by simpa using hc
  have ha:=Auto.ok_of h0
  rw[h0] at h58
  have ln:=zX a.nNl (a.next.map zG)
  rw[List.length_map] at ln
  have hfew:=ha.few
  have m1:=fun (e:Env) (s:St) (ex:Ex) (h:Env.get e 21=.int .i64 (a.next.length:Int))=>@opA_mks43 _ ex 21 e s _ h (by omega)
  obtain⟨S,hS⟩:∃S,S=(((((((ownSt U).new (.cells [.int .i64 a.lines,encS a.nNl (a.next.map zG),encS a.fNl (a.fires.map zC)] 69 false 0 0)).new (.cells (zM (List.replicate a.next.length false)) 4 false 0 0)).new (.cells [.nils] 43 false 0 0)).put 10 (.cells [.sl 9 0 a.next.length (some a.next.length) 1] 43 false 0 0)).new (.cells [.nils] 40 false 0 0)).new (.cells [.nilfn] 189 false 0 0)).put 12 (.cells [.fn (.func 117) [] [.ptr 10 0,.ptr 11 0]] 189 false 0 0):=⟨_,rfl⟩
  have hSn:S.next=13:=by rw[hS];simp +contextual only[go_sem,↓reduceIte]
  have u8:S.get 8=some (.cells [.int .i64 a.lines,encS a.nNl (a.next.map zG),encS a.fNl (a.fires.map zC)] 69 false 0 0):=by rw[hS];simp +contextual only[go_sem,↓reduceIte]
  have u9:S.get 9=some (.cells (zM (List.replicate a.next.length false)) 4 false 0 0):=by rw[hS];simp +contextual only[go_sem,↓reduceIte]
  have u10:S.get 10=some (.cells [.sl 9 0 a.next.length (some a.next.length) 1] 43 false 0 0):=by rw[hS];simp +contextual only[go_sem,↓reduceIte]
  have u11:S.get 11=some (.cells [.nils] 40 false 0 0):=by rw[hS];simp +contextual only[go_sem,↓reduceIte]
  have u12:S.get 12=some (.cells [.fn (.func 117) [] [.ptr 10 0,.ptr 11 0]] 189 false 0 0):=by rw[hS];simp +contextual only[go_sem,↓reduceIte]
  have frS:Fr S:=by
   rw[hS]
   repeat first|exact Fr.own|apply Fr.new|apply Fr.put|apply Fr.upto
   all_goals simp +contextual only[go_sem,↓reduceIte]
  have hI:SpI S 10 11 9 a.fa.n (List.replicate a.fa.n false,[]) .nils:=⟨u10,u9,u11,.inl ⟨rfl,rfl⟩,by omega,by simp,by simp⟩
  obtain⟨pv,ev,s1,g',h114,VR⟩:=c114 ha ha rfl (s:=S) (yld118 ha (bA:=8) (b7:=12) (b5:=10) (b6:=11) (sb:=9) (B0:=S.next) (by omega) (by omega) (by omega)) (fun c x hc hx=>⟨Nat.div_lt_of_lt_mul (by rw[Nat.mul_comm];exact hc),hx⟩) (g:=((List.replicate a.fa.n false,[]),.nils)) ⟨hI,⟨by omega,u8⟩,by omega,u12⟩ frS
  have hT:zV (yC (zQ a.fa a.fa) fun _ _=>true).1=prodT a a:=rfl
  have hst:=VR.stps (visAll_true (prodF_okA ha ha rfl))
  rw[hT] at hst
  have hst2:=Stps.map (φ:=Prod.fst) (nxt':=fun g c x g'=>g'=spN a.fa c x g) (fun _ _ _ _ h=>h) hst
  simp only at hst2
  have hA:=ha.faok
  have hTn:∀c∈prodT a a,c / a.fa.n<a.fa.n:=fun c hc=>Nat.div_lt_of_lt_mul (by rw[Nat.mul_comm];exact (prodI ha ha rfl).lt c hc)
  have hsp:=spacing_eq hA (m:=2^a.lines.toNat) rfl hTn hst2
  have hmem:∀q∈g'.1.2,q<a.fa.n:=by
   have hp:=stps_put hA hst2 (by simp) fun p hp=>by
    simp only[rowC,List.mem_flatMap,List.mem_map,List.mem_range] at hp
    obtain⟨c,hc,z,hz,rfl⟩:=hp
    exact⟨hTn c hc,hz⟩
   intro q hq
   rcases (hp.lay q).1 hq with h|⟨⟨p,hp2,_,rfl⟩,_⟩
   ·simp at h
   ·simp only[rowC,List.mem_flatMap,List.mem_map,List.mem_range] at hp2
    obtain⟨c,hc,z,hz,rfl⟩:=hp2
    exact hA.lt _ _ (hTn c hc) hz
  obtain⟨hI1,⟨l8,v8⟩,l12,v12⟩:=VR.ci
  have frV:=VR.fr
  rw[zU a] at h58 h114 ⊢
  unfold encN encFs at h58 h114 ⊢
  rw[hS] at h114
  simp (maxSteps:=2000000) +contextual only[go_sem,↓reduceIte,r48,nn,nf,cn,cf,h58,cond_false,ln,k114',m1,h114]
  refine l48c (Post:=fun (o:Option AV)=>o=some (.tup [.int .i64 (spV a:Nat),.int .i64 (br (spV a==0) 7 0)])) ha (bA:=8) (b7:=12) (b5:=10) (b6:=11) (sb:=9) (R:=spV a) (z:=g'.1) (lv:=g'.2) ?_ ?_ ?_ ?_ hI1 hmem hsp v8 v12 l8 l12 frV ?_ ?_
  case refine_5 =>
   intro hpos
   have:(spV a==0)=false:=by simp;omega
   rw[this]
   rfl
  case refine_6 =>
   intro hz e' s'
   rw[hz]
   simp (maxSteps:=2000000) +contextual only[go_sem,↓reduceIte]
   rfl
  all_goals simp +contextual only[go_sem,↓reduceIte]
  all_goals rfl
theorem bin_neqP (a b c d:Int):binA U .neq 116 false (.agg [.int .i64 a,.int .i64 b]) (.agg [.int .i64 c,.int .i64 d])=some (.bool (!(a==c&&b==d))):=by
 have hk:U.eqOk 116=true:=by kernel_rfl
 have hu:U.und 116=some (.array 2 3):=by kernel_rfl
 have h3:U.und 3=some (.int .i64):=by kernel_rfl
 have hs:size U 3=some 1:=by kernel_rfl
 have ha:isAggT U 3=some false:=by kernel_rfl
 simp only[binA,eqTop,hk,if_true]
 rw[show (20:Nat)=18+1+1 from rfl]
 simp only[eqT,hu,hs]
 simp[eqElems,partA,ha,hs,eqT,h3,grab]
 cases a==c <;> cases b==d <;> rfl
theorem pair_beq (k x c:Nat):((((x / k:Nat):Int)==((c / k:Nat):Int))&&(((x%k:Nat):Int)==((c%k:Nat):Int)))=(x==c):=by
 rw[Bool.eq_iff_iff]
 simp only[Bool.and_eq_true,beq_iff_eq]
 constructor
 ·rintro⟨h1,h2⟩
  have:=Nat.div_add_mod x k
  have h3:=Nat.div_add_mod c k
  have h1:x / k=c / k:=by omega
  have h2:x%k=c%k:=by omega
  rw[h1,h2] at this
  omega
 ·rintro rfl;exact⟨rfl,rfl⟩
theorem l51a {β:Type}{fin:Fl→β}{ks:List K}{Post:β→Prop}{k N c p2:Nat}{L:List Nat}{pv:AV}(hLl:L.length≤2^20)
  {e:Env}{s:St}(g8:Env.get e 8=pv)(g13:Env.get e 13=.ptr p2 0)(g14:Env.get e 14=.int .i64 (0:Nat))(hp:PrI s N 116 L.length (pcs k L) pv)(gp2:s.get p2=some (.cells (yM k c) 116 false 0 0))(fr:Fr s)
  (hk:∀e' s',(∀t:Nat,t<67→t≠14→Env.get e' t=Env.get e t)→Env.get e' 14=.int .i64 (idxN L c:Nat)→(∀j,s'.get j=s.get j)→s.next≤s'.next→Fr s'→Post (goN U fin ks e' s')) :
  Post (goL U fin (.bk 4::ks) r51_l0 e s):=by
 obtain⟨bp,cap,hpv,hp2,hp3,hp4,hp5,hp6⟩:=hp
 rw[hpv] at g8
 unfold yM at gp2
 refine yE (σ:=Nat) (fun i=>L.length-i) (fun i e' s'=>i≤L.length∧(∀t:Nat,t<67→t≠14→Env.get e' t=Env.get e t)∧Env.get e' 14=.int .i64 (i:Nat)∧(∀j,s'.get j=s.get j)∧s.next≤s'.next∧Fr s'∧i+idxN (L.drop i) c=idxN L c) 0 ?_
  ⟨Nat.zero_le _,fun _ _ _=>rfl,g14,fun _=>rfl,Nat.le_refl _,fr,by rw[List.drop_zero,Nat.zero_add]⟩
 rintro Lp i e' s' ⟨hi,hold,q14,hs,hnx,fr',hidx⟩ IH
 have q8:=(hold 8 (by omega) (by omega)).trans g8
 have q13:=(hold 13 (by omega) (by omega)).trans g13
 have u3:=(hs bp).trans hp3
 have u2:=(hs p2).trans gp2
 by_cases hd:i<L.length
 ·have hwr:=zR hd (by omega)
  have gr:=pcs_grab k L i hd
  rw[List.drop_eq_getElem_cons hd,idxN] at hidx
  generalize L[i]=x at *
  unfold yM at gr
  simp (maxSteps:=2000000) +contextual only[go_sem,↓reduceIte,r51_l0,q8,q13,q14,zA,hd,u3,u2,gr,grabK_some,Nat.zero_add]
  cases hxc:x==c with
  |true =>
   rw[hxc,cond_true] at hidx
   simp (maxSteps:=2000000) +contextual only[go_sem,↓reduceIte,bin_neqP,pair_beq,hxc]
   refine hk _ _ (fun t h1 h2=>?_) ?_ (fun j=>by rw[zJ];exact hs j) (by rw[zB];omega) (fr'.upto (by omega))
   ·have hne:∀k:Nat,67≤k→(k=t)=False:=fun k hk=>by simp;omega
    simp +contextual only[go_sem,↓reduceIte,hne]
    exact hold t h1 h2
   ·simp +contextual only[go_sem,↓reduceIte,q14]
    rw[←hidx,Nat.add_zero]
  |false =>
   rw[hxc,cond_false] at hidx
   simp (maxSteps:=2000000) +contextual only[go_sem,↓reduceIte,bin_neqP,pair_beq,hxc,q14,hwr]
   refine IH (i+1) _ _ (by omega) ⟨by omega,fun t h1 h2=>?_,?_,fun j=>by rw[zJ];exact hs j,by rw[zB];omega,fr'.upto (by omega),by omega⟩
   ·have hne:∀k:Nat,67≤k→(k=t)=False:=fun k hk=>by simp;omega
    have h14:(14=t)=False:=by simp;omega
    simp +contextual only[go_sem,↓reduceIte,hne,h14]
    exact hold t h1 h2
   ·simp +contextual only[go_sem,↓reduceIte]
 ·have hie:i=L.length:=by omega
  have hd:decide ((i:Int)<(L.length:Int))=false:=by rw[zA];simp;omega
  simp (maxSteps:=2000000) +contextual only[go_sem,↓reduceIte,r51_l0,q8,q13,q14,hd]
  have hix:idxN L c=i:=by rw[←hidx,hie,List.drop_length];simp[idxN]
  refine hk _ _ (fun t h1 h2=>?_) ?_ (fun j=>by rw[zJ];exact hs j) (by rw[zB];omega) (fr'.upto (by omega))
  ·have hne:∀k:Nat,67≤k→(k=t)=False:=fun k hk=>by simp;omega
   simp +contextual only[go_sem,↓reduceIte,hne]
   exact hold t h1 h2
  ·simp +contextual only[go_sem,↓reduceIte,q14]
   rw[hix]
def joinF (bo f g:Bool):Bool:=f&&g||!bo&&(f||g)
theorem l51u {β:Type}{fin:Fl→β}{ks:List K}{Post:β→Prop}{bo f g:Bool}{fb m x:Nat}{l:List Bool}(hl:l.length=m)(hx:x<m)
  {e:Env}{s:St}(g2:Env.get e 2=.bool bo)(g11:Env.get e 11=.sl fb 0 m (some m) 1)(g12:Env.get e 12=.int .i64 (x:Nat))(g15:Env.get e 15=.bool f)(g16:Env.get e 16=.bool g)(gf:s.get fb=some (.cells (zM l) 4 false 0 0))
  (hk:∀e',(∀t:Nat,t<117→Env.get e' t=Env.get e t)→Post (goN U fin ks e' (s.put fb (.cells (zM (l.set x (joinF bo f g))) 4 false 0 0)))) :
  Post (go U fin ks r51_u e s):=by
 have y1:=fun b=>bools_lay (l:=l) (i:=x) b (by omega)
 unfold joinF at hk
 cases bo <;> cases f <;> cases g <;>
 ·simp (maxSteps:=2000000) +contextual only[go_sem,↓reduceIte,r51_u,g2,g11,g12,g15,g16,gf,hx,y1,Nat.mul_one,Nat.zero_add]
  refine hk _ fun t ht=>?_
  have hne:∀k:Nat,117≤k→(k=t)=False:=fun k hk=>by simp;omega
  simp +contextual only[go_sem,↓reduceIte,hne]
theorem set_rep {α:Type}(A:List α){m:Nat}(v d:α)(h:A.length<m):(A++List.replicate (m-A.length) d).set A.length v=(A++[v])++List.replicate (m-(A++[v]).length) d:=by
 rw[List.set_append_right _ _ (Nat.le_refl _),Nat.sub_self,List.length_append,List.length_singleton,show m-A.length=(m-(A.length+1))+1 by omega,List.replicate_succ,List.set_cons_zero,List.append_assoc]
 rfl
theorem rowT_len (a b:Auto)(T:List Nat)(c x:Nat):(rowT a b T c x).length=x:=by simp[rowT]
theorem rowB_len (a b:Auto)(f:Bool→Bool→Bool)(c x:Nat):(rowB a b f c x).length=x:=by simp[rowB]
theorem rowT_set (a b:Auto)(T:List Nat)(c:Nat){x m:Nat}(h:x<m):(rowT a b T c x++List.replicate (m-x) 0).set x (idxN T ((zQ a.fa b.fa).nx c x))=rowT a b T c (x+1)++List.replicate (m-(x+1)) 0:=by
 have:=set_rep (rowT a b T c x) (m:=m) (idxN T ((zQ a.fa b.fa).nx c x)) 0 (by rw[rowT_len];exact h)
 rw[List.length_append,List.length_singleton,rowT_len] at this
 rw[this]
 have e:rowT a b T c (x+1)=rowT a b T c x++[idxN T ((zQ a.fa b.fa).nx c x)]:=by unfold rowT;rw[List.range_succ,List.map_append];rfl
 rw[e]
theorem rowB_set (a b:Auto)(f:Bool→Bool→Bool)(c:Nat){x m:Nat}(h:x<m):(rowB a b f c x++List.replicate (m-x) false).set x (f (a.fa.fr (c / b.fa.n) x) (b.fa.fr (c%b.fa.n) x))=rowB a b f c (x+1)++List.replicate (m-(x+1)) false:=by
 have:=set_rep (rowB a b f c x) (m:=m) (f (a.fa.fr (c / b.fa.n) x) (b.fa.fr (c%b.fa.n) x)) false (by rw[rowB_len];exact h)
 rw[List.length_append,List.length_singleton,rowB_len] at this
 rw[this]
 have e:rowB a b f c (x+1)=rowB a b f c x++[f (a.fa.fr (c / b.fa.n) x) (b.fa.fr (c%b.fa.n) x)]:=by unfold rowB;rw[List.range_succ,List.map_append];rfl
 rw[e]
theorem idxN_pre (c:Nat):∀(L R:List Nat),c∈L→idxN (L++R) c=idxN L c
 |[],R,h=>by cases h
 |x::l,R,h=>by
  rw[List.cons_append,idxN,idxN]
  by_cases hx:x=c
  ·have:(x==c)=true:=by simpa using hx
   rw[this];rfl
  ·have:(x==c)=false:=by simpa using hx
   rw[this,cond_false,cond_false,idxN_pre c l R ((List.mem_cons.1 h).resolve_left fun e=>hx e.symm)]
theorem l51v {β:Type}{fin:Fl→β}{ks:List K}{Post:β→Prop}{a b:Auto}(ha:a.ok)(hb:b.ok)(hlb:a.lines=b.lines){bo:Bool}{A0 B0 nb fb bp c i x v n:Nat}{cap:Option Nat}{Ln:List Nat}{Lf:List Bool}{cs:List AV}
  (hc:c<(zQ a.fa b.fa).n)(hx:x<2^a.lines.toNat)(hin:i<n)(pc1:cs[i*2]? = some (.int .i64 ((c / b.fa.n:Nat):Int)))(pc2:cs[i*2+1]? = some (.int .i64 ((c%b.fa.n:Nat):Int)))(hLn:Ln.length=2^a.lines.toNat)(hLf:Lf.length=2^a.lines.toNat)
  {e:Env}{s:St}(g2:Env.get e 2=.bool bo)(g3:Env.get e 3=.ptr A0 0)(g4:Env.get e 4=.ptr B0 0)(g8:Env.get e 8=.sl bp 0 n cap 2)(g9:Env.get e 9=.int .i64 (i:Nat))(g10:Env.get e 10=.sl nb 0 (2^a.lines.toNat) (some (2^a.lines.toNat)) 1)(g11:Env.get e 11=.sl fb 0 (2^a.lines.toNat) (some (2^a.lines.toNat)) 1)(g12:Env.get e 12=.int .i64 (x:Nat))(g14:Env.get e 14=.int .i64 (v:Nat))
  (gA:s.get A0=some (.cells [.int .i64 a.lines,encS a.nNl (a.next.map zG),encS a.fNl (a.fires.map zC)] 72 false 0 0))(gB:s.get B0=some (.cells [.int .i64 b.lines,encS b.nNl (b.next.map zG),encS b.fNl (b.fires.map zC)] 72 false 0 0))(gn:s.get nb=some (.cells (nats Ln) 3 false 0 0))(gf:s.get fb=some (.cells (zM Lf) 4 false 0 0))(gp:s.get bp=some (.cells cs 116 false 0 0))
  (hlt:nb<s.next∧fb<s.next)(fr:Fr s)
  (hk:∀e' s',(∀t:Nat,t<15→Env.get e' t=Env.get e t)→s'.get nb=some (.cells (nats (Ln.set x v)) 3 false 0 0)→s'.get fb=some (.cells (zM (Lf.set x (joinF bo (a.fa.fr (c / b.fa.n) x) (b.fa.fr (c%b.fa.n) x)))) 4 false 0 0)→(∀j,j≠nb→j≠fb→s'.get j=s.get j)→s.next≤s'.next→Fr s'→Post (goN U fin ks e' s')) :
  Post (go U fin ks r51_v e s):=by
 have hc1:c / b.fa.n<a.next.length:=Nat.div_lt_of_lt_mul (by rw[Nat.mul_comm];exact hc)
 have hc2:c%b.fa.n<b.next.length:=Nat.mod_lt _ hb.pos
 have n1:=ha.frAt hc1 hx
 have n2:=hb.frAt hc2 (by rw[←hlb];exact hx)
 have r1:=ixa_rowB (nl:=a.fNl) (l:=a.fires) (i:=c / b.fa.n) (by rw[ha.fl];exact hc1)
 have r2:=ixa_rowB (nl:=b.fNl) (l:=b.fires) (i:=c%b.fa.n) (by rw[hb.fl];exact hc2)
 have y1:=nats_lay (l:=Ln) (i:=x) v (by omega)
 have z1:(nb=A0)=False:=eq_false (zP gn gA (by decide))
 have z2:(nb=B0)=False:=eq_false (zP gn gB (by decide))
 have z3:(nb=bp)=False:=eq_false (zP gn gp (by decide))
 have nnf:=zP gn gf (by decide)
 simp (maxSteps:=2000000) +contextual only[go_sem,↓reduceIte,r51_v,g3,g4,g8,g9,g10,g12,g14,gA,gB,gn,gp,hx,y1,n1,n2,r1,r2,z1,z2,z3,hin,pc1,pc2,Nat.zero_add,Nat.mul_one]
 refine l51u (Post:=Post) (bo:=bo) (f:=a.fa.fr (c / b.fa.n) x) (g:=b.fa.fr (c%b.fa.n) x) (fb:=fb) hLf hx ?_ ?_ ?_ ?_ ?_ ?_ ?_
 case refine_7 =>
  intro e2 h2a
  refine hk _ _ (fun t ht=>?_) ?_ ?_ (fun j h1 h2=>?_) ?_ ?_
  ·rw[h2a t (by omega)]
   have hne:∀k:Nat,15≤k→(k=t)=False:=fun k hk=>by simp;omega
   simp +contextual only[go_sem,↓reduceIte,hne]
  ·rw[get_put,if_neg nnf.symm,zJ,get_put,if_pos rfl]
  ·rw[get_put,if_pos rfl]
  ·rw[get_put,if_neg h2.symm,zJ,get_put,if_neg h1.symm]
  ·simp only[next_put,zB];omega
  ·repeat first|exact fr|apply Fr.new|apply Fr.put|apply Fr.upto
   all_goals try simp only[next_put,next_new,zB]
   all_goals omega
 case refine_6=>rw[zJ,get_put,if_neg nnf];exact gf
 all_goals simp +contextual only[go_sem,↓reduceIte,g2,g11,g12]
theorem l51b {β:Type}{fin:Fl→β}{ks:List K}{Post:β→Prop}{a b:Auto}(ha:a.ok)(hb:b.ok)(hlb:a.lines=b.lines){bo:Bool}{N A0 B0 nb fb c i:Nat}{T F:List Nat}{TT:List Trip}{pv:AV}{vr:List Trip×Option Nat}
  (hT:VisI (zQ a.fa b.fa) TT)(hi:i<TT.length)(hcx:(zV TT)[i]? = some c)(hvr:visRow ((zQ a.fa b.fa).nx c) (fun _=>true) i (2^a.lines.toNat) 0 TT=vr)(hF:∃R,F=zV vr.1++R)
  {e:Env}{s:St}(g2:Env.get e 2=.bool bo)(g3:Env.get e 3=.ptr A0 0)(g4:Env.get e 4=.ptr B0 0)(g8:Env.get e 8=pv)(g9:Env.get e 9=.int .i64 (i:Nat))(g10:Env.get e 10=.sl nb 0 (2^a.lines.toNat) (some (2^a.lines.toNat)) 1)(g11:Env.get e 11=.sl fb 0 (2^a.lines.toNat) (some (2^a.lines.toNat)) 1)(g12:Env.get e 12=.int .i64 (0:Nat))
  (gA:s.get A0=some (.cells [.int .i64 a.lines,encS a.nNl (a.next.map zG),encS a.fNl (a.fires.map zC)] 72 false 0 0))(gB:s.get B0=some (.cells [.int .i64 b.lines,encS b.nNl (b.next.map zG),encS b.fNl (b.fires.map zC)] 72 false 0 0))(gn:s.get nb=some (.cells (nats (List.replicate (2^a.lines.toNat) 0)) 3 false 0 0))(gf:s.get fb=some (.cells (zM (List.replicate (2^a.lines.toNat) false)) 4 false 0 0))
  (hp:PrI s N 116 TT.length (pcs b.fa.n (zV TT)) pv)(hlt:A0<s.next∧B0<s.next∧nb<s.next∧fb<s.next∧N≤nb∧N≤fb∧N≤s.next)(fr:Fr s)
  (hk:∀e' s' pv',(∀t:Nat,t<12→t≠8→Env.get e' t=Env.get e t)→Env.get e' 8=pv'→PrI s' N 116 vr.1.length (pcs b.fa.n (zV vr.1)) pv'→s'.get nb=some (.cells (nats (rowT a b F c (2^a.lines.toNat))) 3 false 0 0)→s'.get fb=some (.cells (zM (rowB a b (joinF bo) c (2^a.lines.toNat))) 4 false 0 0)→(∀j,j<s.next→j≠nb→j≠fb→¬isB2 pv j→s'.get j=s.get j)→s.next≤s'.next→Fr s'→Post (goN U fin ks e' s')) :
  Post (goL U fin (.bk 2::ks) r51_l1 e s):=by
 have hm16:=ha.m16
 have hA:=prodF_okA ha hb hlb
 have hcT:c∈zV TT:=List.mem_of_getElem? hcx
 have hc:c<(zQ a.fa b.fa).n:=by
  obtain⟨t,ht,rfl⟩:=List.mem_map.1 hcT
  exact hT.lt t ht
 have hnn:(zQ a.fa b.fa).n≤65536:=Nat.mul_le_mul ha.few hb.few
 have hc1:c / b.fa.n<a.next.length:=Nat.div_lt_of_lt_mul (by rw[Nat.mul_comm];exact hc)
 have hc2:c%b.fa.n<b.next.length:=Nat.mod_lt _ hb.pos
 obtain⟨l1,l2,l3,l4,l5,l6,l7⟩:=hlt
 have nAn:=zP gA gn (by decide)
 have nAf:=zP gA gf (by decide)
 have nBn:=zP gB gn (by decide)
 have nBf:=zP gB gf (by decide)
 have nnf:=zP gn gf (by decide)
 refine yE (σ:=Nat) (fun x=>2^a.lines.toNat-x) (fun x e' s'=>x≤2^a.lines.toNat∧(∀t:Nat,t<12→t≠8→Env.get e' t=Env.get e t)∧Env.get e' 12=.int .i64 (x:Nat)∧(∀j,j<s.next→j≠nb→j≠fb→¬isB2 pv j→s'.get j=s.get j)∧s.next≤s'.next∧Fr s' ∧
   s'.get nb=some (.cells (nats (rowT a b F c x++List.replicate (2^a.lines.toNat-x) 0)) 3 false 0 0)∧s'.get fb=some (.cells (zM (rowB a b (joinF bo) c x++List.replicate (2^a.lines.toNat-x) false)) 4 false 0 0) ∧
   ∃T' pv',Env.get e' 8=pv'∧visRow ((zQ a.fa b.fa).nx c) (fun _=>true) i (2^a.lines.toNat-x) x T'=vr∧VisI (zQ a.fa b.fa) T'∧i<T'.length∧(zV T')[i]? = some c∧PrI s' N 116 T'.length (pcs b.fa.n (zV T')) pv'∧(∀j,isB2 pv' j→isB2 pv j∨s.next≤j)) 0 ?_
  ⟨Nat.zero_le _,fun _ _ _=>rfl,g12,fun _ _ _ _ _=>rfl,Nat.le_refl _,fr,gn,gf,TT,pv,g8,by rw[Nat.sub_zero];exact hvr,hT,hi,hcx,hp,fun j hj=>.inl hj⟩
 rintro Lp x e' s' ⟨hx0,hold,q12,hs,hnx,fr',qn,qf,T',pv',q8,hrun,hT',hi',hcx',hp',hB⟩ IH
 have q2:=(hold 2 (by omega) (by omega)).trans g2
 have q3:=(hold 3 (by omega) (by omega)).trans g3
 have q4:=(hold 4 (by omega) (by omega)).trans g4
 have q9:=(hold 9 (by omega) (by omega)).trans g9
 have q10:=(hold 10 (by omega) (by omega)).trans g10
 have q11:=(hold 11 (by omega) (by omega)).trans g11
 have npA:¬isB2 pv A0:=fun h=>zP gA (hp.ltB h).2.2 (by decide) rfl
 have npB:¬isB2 pv B0:=fun h=>zP gB (hp.ltB h).2.2 (by decide) rfl
 have uA:=(hs A0 l1 nAn nAf npA).trans gA
 have uB:=(hs B0 l2 nBn nBf npB).trans gB
 have hTl:=hT'.len
 obtain⟨bp,cap,hpv,hp2,hp3,hp4,hp5,hp6⟩:=hp'
 have q8':=q8.trans hpv
 by_cases hd:x<2^a.lines.toNat
 ·have hw:=zR hd (by omega)
  have hlt3:(zQ a.fa b.fa).nx c x<(zQ a.fa b.fa).n:=hA.lt c x hc hd
  have hpn:=pcell_nx hb hlb hc hd
  have n1:=ha.nxAt hc1 hd
  have n2:=hb.nxAt hc2 (by rw[←hlb];exact hd)
  have r1:=ixa_rowI (nl:=a.nNl) hc1
  have r2:=ixa_rowI (nl:=b.nNl) hc2
  rw[show 2^a.lines.toNat-x=(2^a.lines.toNat-(x+1))+1 by omega,visRow,cond_true] at hrun
  have hcl:=codes_len T'
  have hci:(zV T')[i]'(by omega)=c:=by
   rw[List.getElem?_eq_getElem (by omega)] at hcx'
   exact Option.some.inj hcx'
  have gr:=pcs_grab b.fa.n (zV T') i (by omega)
  rw[hci] at gr
  have hfk:=fr'.at
  have f1:∀q,(s'.next+q=A0)=False:=fun q=>by simp;omega
  have f2:∀q,(s'.next+q=B0)=False:=fun q=>by simp;omega
  have f4:∀q,(s'.next+q=bp)=False:=fun q=>by simp;omega
  have pc1:(pcs b.fa.n (zV T'))[i*2]? = some (.int .i64 ((c / b.fa.n:Nat):Int)):=by
   have:=grab_get gr (i:=0) (a:=.int .i64 ((c / b.fa.n:Nat):Int)) rfl
   rwa [Nat.add_zero] at this
  have pc2:(pcs b.fa.n (zV T'))[i*2+1]? = some (.int .i64 ((c%b.fa.n:Nat):Int)):=grab_get gr (i:=1) rfl
  simp (maxSteps:=2000000) +contextual only[go_sem,↓reduceIte,r51_l1,q3,q4,q8',q9,q10,q12,zA,hd,uA,uB,hp3,hi',pc1,pc2,r1,r2,n1,n2,f1,f2,f4,hfk,Nat.add_assoc,Nat.zero_add,Nat.mul_one]
  generalize hcn:(zQ a.fa b.fa).nx c x=cn at *
  obtain⟨S,hS⟩:∃S,S=((s'.upto (s'.next+27)).put (s'.next+25) (.cells [.int .i64 0,.int .i64 0] 116 false 0 0)).put (s'.next+25) (.cells [.int .i64 ((a.fa.nx (c / b.fa.n) x:Nat):Int),.int .i64 ((b.fa.nx (c%b.fa.n) x:Nat):Int)] 116 false 0 0):=⟨_,rfl⟩
  rw[←hS]
  have hSn:S.next=s'.next+27:=by rw[hS];simp only[next_put,zB]
  have kS:∀j,j<s'.next→S.get j=s'.get j:=fun j h1=>by rw[hS,get_put,if_neg (by omega),get_put,if_neg (by omega),zJ]
  have frS:Fr S:=by
   rw[hS]
   repeat first|exact fr'|apply Fr.new|apply Fr.put|apply Fr.upto
   all_goals try simp only[next_put,next_new,zB]
   all_goals omega
  have up2:S.get (s'.next+25)=some (.cells (yM b.fa.n cn) 116 false 0 0):=by rw[hS,get_put,if_pos rfl,hpn]
  have hle:=idxN_le (zV T') cn
  have hne16:∀t:Nat,t<13→(13=t)=False∧(14=t)=False∧∀k:Nat,36≤k→(k=t)=False:=fun t ht=>⟨by simp;omega,by simp;omega,fun k hk=>by simp;omega⟩
  refine l51a (Post:=Post) (k:=b.fa.n) (N:=N) (c:=cn) (p2:=s'.next+25) (L:=zV T') (pv:=pv') (by omega) ?_ ?_ ?_ ⟨bp,cap,by rw[hcl];exact hpv,by rw[hcl];exact hp2,by rw[kS bp hp6];exact hp3,by rw[hcl];exact hp4,hp5,by omega⟩ up2 frS ?_
  case refine_4 =>
   intro e2 s2 h2a p14 hs2 hn2 fr2
   have E2:∀t:Nat,t<13→Env.get e2 t=Env.get e' t:=fun t ht=>by
    rw[h2a t (by omega) (by omega)]
    obtain⟨n13,n14,hne⟩:=hne16 t ht
    simp +contextual only[go_sem,↓reduceIte,n13,n14,hne]
   have p2:=(E2 2 (by omega)).trans q2
   have p3:=(E2 3 (by omega)).trans q3
   have p4:=(E2 4 (by omega)).trans q4
   have p8:=(E2 8 (by omega)).trans q8'
   have p9:=(E2 9 (by omega)).trans q9
   have p10:=(E2 10 (by omega)).trans q10
   have p11:=(E2 11 (by omega)).trans q11
   have p12:=(E2 12 (by omega)).trans q12
   have p13:Env.get e2 13=.ptr (s'.next+25) 0:=by rw[h2a 13 (by omega) (by omega)];simp +contextual only[go_sem,↓reduceIte]
   have k2:∀j,j<s'.next→s2.get j=s'.get j:=fun j h1=>(hs2 j).trans (kS j h1)
   have v2:s2.get (s'.next+25)=some (.cells [.int .i64 ((a.fa.nx (c / b.fa.n) x:Nat):Int),.int .i64 ((b.fa.nx (c%b.fa.n) x:Nat):Int)] 116 false 0 0):=(hs2 _).trans (by rw[up2,hpn])
   have vA:=(k2 A0 (by omega)).trans uA
   have vB:=(k2 B0 (by omega)).trans uB
   have vn:=(k2 nb (by omega)).trans qn
   have vf:=(k2 fb (by omega)).trans qf
   have vp:=(k2 bp hp6).trans hp3
   have hLn:(rowT a b F c x++List.replicate (2^a.lines.toNat-x) 0).length=2^a.lines.toNat:=by rw[List.length_append,rowT_len,List.length_replicate];omega
   have hLf:(rowB a b (joinF bo) c x++List.replicate (2^a.lines.toNat-x) false).length=2^a.lines.toNat:=by rw[List.length_append,rowB_len,List.length_replicate];omega
   have hrs:=rowT_set a b F c (m:=2^a.lines.toNat) hd
   rw[hcn] at hrs
   have hrb:=rowB_set a b (joinF bo) c (m:=2^a.lines.toNat) hd
   by_cases hin:cn∈T'.map (·.1)
   ·have hin2:idxN (zV T') cn<(zV T').length:=(idxN_lt _ _).2 hin
    rw[decide_eq_true hin,cond_true] at hrun
    have heq:(((idxN (zV T') cn:Nat):Int)==((T'.length:Nat):Int))=false:=by simp;omega
    simp (maxSteps:=2000000) +contextual only[go_sem,↓reduceIte,p8,p14,heq]
    refine l51v (Post:=Post) ha hb hlb (bo:=bo) (A0:=A0) (B0:=B0) (nb:=nb) (fb:=fb) (bp:=bp) (c:=c) (i:=i) (x:=x) (v:=idxN (zV T') cn) (n:=T'.length) (cap:=cap) hc hd hi' pc1 pc2 hLn hLf ?_ ?_ ?_ ?_ ?_ ?_ ?_ ?_ ?_ vA vB vn vf vp (by omega) fr2 ?_
    case refine_10 =>
     intro e3 s3 h3a wn wf hs3 hn3 fr3
     have E3:∀t:Nat,t<13→Env.get e3 t=Env.get e' t:=fun t ht=>by
      rw[h3a t (by omega)]
      have hne:∀k:Nat,81≤k→(k=t)=False:=fun k hk=>by simp;omega
      simp +contextual only[go_sem,↓reduceIte,hne]
      exact E2 t ht
     have r12:=(E3 12 (by omega)).trans q12
     obtain⟨⟨_,R',hR'⟩,_,_⟩:=visRow_spec hA hc (fun _=>true) (2^a.lines.toNat-(x+1)) (x+1) (T:=T') (i:=i) (by show x+1+(2^a.lines.toNat-(x+1))≤2^a.lines.toNat;omega) hT' hi'
     rw[hrun] at hR'
     have hidx:idxN F cn=idxN (zV T') cn:=by
      obtain⟨R,hR⟩:=hF
      rw[hR,hR',show zV (T'++R')=zV T'++zV R' by simp[zV],List.append_assoc]
      exact idxN_pre cn _ _ hin
     rw[←hidx,hrs] at wn
     rw[hrb] at wf
     simp (maxSteps:=2000000) +contextual only[go_sem,↓reduceIte,r12,hw]
     refine IH (x+1) _ _ (by omega) ⟨by omega,fun t h1 h2=>?_,?_,fun j h1 h2 h3 h4=>?_,by omega,fr3,wn,wf,T',pv',?_,hrun,hT',hi',hcx',⟨bp,cap,hpv,hp2,?_,hp4,hp5,by omega⟩,hB⟩
     ·have hne:∀k:Nat,12≤k→(k=t)=False:=fun k hk=>by simp;omega
      simp +contextual only[go_sem,↓reduceIte,hne]
      exact (E3 t (by omega)).trans (hold t h1 h2)
     ·simp +contextual only[go_sem,↓reduceIte]
     ·rw[hs3 j h2 h3,k2 j (by omega),hs j h1 h2 h3 h4]
     ·simp +contextual only[go_sem,↓reduceIte,(E3 8 (by omega)).trans q8]
     ·rw[hs3 bp (zP hp3 qn (by decide)) (zP hp3 qf (by decide))];exact vp
    all_goals simp +contextual only[go_sem,↓reduceIte,p2,p3,p4,p8,p9,p10,p11,p12,p14]
   ·have hin2:¬idxN (zV T') cn<(zV T').length:=fun h=>hin ((idxN_lt _ _).1 h)
    have hix:idxN (zV T') cn=T'.length:=by omega
    rw[decide_eq_false hin,cond_false] at hrun
    have heq:(((idxN (zV T') cn:Nat):Int)==((T'.length:Nat):Int))=true:=by simp[hix]
    have hb1:(T'.length+1)*16≤1099511627776:=by omega
    have hb2:T'.length+1≤1099511627776:=by omega
    simp (maxSteps:=2000000) +contextual only[go_sem,↓reduceIte,p8,p13,p14,heq,v2,Nat.mul_one,Nat.one_mul,zW,Nat.reducePow,hb1,hb2]
    have P1:PrI (s2.new (.cells [.int .i64 ((a.fa.nx (c / b.fa.n) x:Nat):Int),.int .i64 ((b.fa.nx (c%b.fa.n) x:Nat):Int)] 116 false 0 0)) N 116 T'.length (pcs b.fa.n (zV T')) pv':=⟨bp,cap,hpv,hp2,by rw[get_new,if_neg (by omega)];exact vp,hp4,hp5,by rw[next_new];omega⟩
    obtain⟨s4,d1,d2,d3,d4,d5⟩:=P1.appB (by rw[next_new];omega) (.int .i64 ((a.fa.nx (c / b.fa.n) x:Nat):Int)) (.int .i64 ((b.fa.nx (c%b.fa.n) x:Nat):Int)) rfl rfl
    have hnB:∀j,isB2 pv' j↔bp=j:=fun j=>by rw[hpv,isB2_sl]
    rw[hpv] at d1
    simp only[next_new] at d1 d2 d3 d4
    rw[d1]
    simp (maxSteps:=2000000) +contextual only[go_sem,↓reduceIte]
    have k4:∀j,j<s2.next→j≠bp→s4.get j=s2.get j:=fun j h1 h2=>by rw[d4 j (by omega) fun h=>h2 ((hnB j).1 h).symm,get_new,if_neg (by omega)]
    obtain⟨bq,capq,e1,e2q,e3,e4,e5,e6⟩:=d3
    cases e1
    have hcl2:(pcs b.fa.n (zV T')).length=T'.length*2:=hp4
    refine l51v (Post:=Post) ha hb hlb (bo:=bo) (A0:=A0) (B0:=B0) (nb:=nb) (fb:=fb) (bp:=s2.next+1) (c:=c) (i:=i) (x:=x) (v:=idxN (zV T') cn) (n:=T'.length+1) (cap:=none) (cs:=pcs b.fa.n (zV T')++[.int .i64 ((a.fa.nx (c / b.fa.n) x:Nat):Int),.int .i64 ((b.fa.nx (c%b.fa.n) x:Nat):Int)]) hc hd (by omega) (by rw[List.getElem?_append_left (by omega)];exact pc1) (by rw[List.getElem?_append_left (by omega)];exact pc2) hLn hLf ?_ ?_ ?_ ?_ ?_ ?_ ?_ ?_ ?_ ((k4 A0 (by omega) (zP uA hp3 (by decide))).trans vA) ((k4 B0 (by omega) (zP uB hp3 (by decide))).trans vB) ((k4 nb (by omega) (zP qn hp3 (by decide))).trans vn) ((k4 fb (by omega) (zP qf hp3 (by decide))).trans vf) e3 (by omega) (d5 (fr2.new _)) ?_
    case refine_10 =>
     intro e3' s3 h3a wn wf hs3 hn3 fr3
     have E3:∀t:Nat,t<13→t≠8→Env.get e3' t=Env.get e' t:=fun t ht h8=>by
      rw[h3a t (by omega)]
      have hne:∀k:Nat,81≤k→(k=t)=False:=fun k hk=>by simp;omega
      have h8':(8=t)=False:=by simp;omega
      simp +contextual only[go_sem,↓reduceIte,hne,h8']
      exact E2 t ht
     have r12:=(E3 12 (by omega) (by omega)).trans q12
     have r8:Env.get e3' 8=.sl (s2.next+1) 0 (T'.length+1) none 2:=by
      rw[h3a 8 (by omega)]
      simp +contextual only[go_sem,↓reduceIte]
     have hT2:VisI (zQ a.fa b.fa) (T'++[(cn,i,x)]):=hT'.put hlt3 hi' hd hin
     have hl2:i<(T'++[(cn,i,x)]).length:=by rw[List.length_append];omega
     obtain⟨⟨_,R',hR'⟩,_,_⟩:=visRow_spec hA hc (fun _=>true) (2^a.lines.toNat-(x+1)) (x+1) (T:=T'++[(cn,i,x)]) (i:=i) (by show x+1+(2^a.lines.toNat-(x+1))≤2^a.lines.toNat;omega) hT2 hl2
     rw[hrun] at hR'
     have hcd:zV (T'++[(cn,i,x)])=zV T'++[cn]:=codes_app _ _
     have hidx:idxN F cn=idxN (zV T') cn:=by
      obtain⟨R,hR⟩:=hF
      have e:F=(zV T'++[cn])++(zV R'++R):=by rw[hR,hR'];simp[zV]
      rw[e,idxN_pre cn _ _ (by simp),idxN_app cn _ hin2]
      omega
     rw[←hidx,hrs] at wn
     rw[hrb] at wf
     simp (maxSteps:=2000000) +contextual only[go_sem,↓reduceIte,r12,hw]
     refine IH (x+1) _ _ (by omega) ⟨by omega,fun t h1 h2=>?_,?_,fun j h1 h2 h3 h4=>?_,by omega,fr3,wn,wf,T'++[(cn,i,x)],.sl (s2.next+1) 0 (T'.length+1) none 2,?_,hrun,hT2,hl2,?_,?_,fun j hj=>?_⟩
     ·have hne:∀k:Nat,12≤k→(k=t)=False:=fun k hk=>by simp;omega
      simp +contextual only[go_sem,↓reduceIte,hne]
      exact (E3 t (by omega) h2).trans (hold t h1 h2)
     ·simp +contextual only[go_sem,↓reduceIte]
     ·have hjb:j≠bp:=fun e=>by
       rcases hB j ((hnB j).2 e.symm) with h|h
       ·exact h4 h
       ·omega
      rw[hs3 j h2 h3,k4 j (by omega) hjb,k2 j (by omega),hs j h1 h2 h3 h4]
     ·simp +contextual only[go_sem,↓reduceIte,r8]
     ·rw[hcd,List.getElem?_append_left (by omega)];exact hcx'
     ·rw[hcd,pcs_app,List.length_append,List.length_singleton]
      have hpc:yM b.fa.n cn=[.int .i64 ((cn / b.fa.n:Nat):Int),.int .i64 ((cn%b.fa.n:Nat):Int)]:=rfl
      rw[hpn] at hpc
      rw[←hpc]
      exact⟨s2.next+1,none,rfl,.inl rfl,by rw[hs3 _ (by omega) (by omega)];exact e3,e4,by omega,by omega⟩
     ·rw[isB2_sl] at hj;right;omega
    all_goals simp +contextual only[go_sem,↓reduceIte,p2,p3,p4,p8,p9,p10,p11,p12,p14]
  all_goals simp +contextual only[go_sem,↓reduceIte,q8]
  all_goals rfl
 ·have hxe:x=2^a.lines.toNat:=by omega
  subst hxe
  rw[Nat.sub_self,visRow] at hrun
  subst hrun
  rw[Nat.sub_self,List.replicate_zero,List.append_nil] at qn qf
  simp (maxSteps:=2000000) +contextual only[go_sem,↓reduceIte,r51_l1,q10,q12,zA,Nat.lt_irrefl]
  refine hk _ _ pv' (fun t h1 h2=>?_) ?_ ⟨bp,cap,hpv,hp2,hp3,hp4,hp5,hp6⟩ qn qf hs hnx fr'
  ·have hne:∀k:Nat,12≤k→(k=t)=False:=fun k hk=>by simp;omega
   simp +contextual only[go_sem,↓reduceIte,hne]
   exact hold t h1 h2
  ·simp +contextual only[go_sem,↓reduceIte,q8]
theorem l51c {β:Type}{fin:Fl→β}{ks:List K}{Post:β→Prop}{a b:Auto}(ha:a.ok)(hb:b.ok)(hlb:a.lines=b.lines){bo:Bool}{pv:AV}
  {e:Env}{s:St}(g2:Env.get e 2=.bool bo)(g3:Env.get e 3=.ptr 8 0)(g4:Env.get e 4=.ptr 9 0)(g7:Env.get e 7=.ptr 11 0)(g8:Env.get e 8=pv)(g9:Env.get e 9=.int .i64 (0:Nat))
  (gA:s.get 8=some (.cells [.int .i64 a.lines,encS a.nNl (a.next.map zG),encS a.fNl (a.fires.map zC)] 72 false 0 0))(gB:s.get 9=some (.cells [.int .i64 b.lines,encS b.nNl (b.next.map zG),encS b.fNl (b.fires.map zC)] 72 false 0 0))(gout:s.get 11=some (.cells [.int .i64 a.lines,.nils,.nils] 72 false 0 0))
  (hp:PrI s 12 116 1 (pcs b.fa.n [0]) pv)(hnx0:13≤s.next)(fr:Fr s)
  (hk:∀e' s' v w cN cF,Env.get e' 6=Env.get e 6→Env.get e' 7=.ptr 11 0→s'.get 11=some (.cells [.int .i64 a.lines,v,w] 72 false 0 0)→(∀j,j<11→s'.get j=s.get j)→RowI s' 13 40 1 cN.length cN v→RowI s' 13 43 1 cF.length cF w→cN.length=(prodT a b).length→cF.length=(prodT a b).length →
   (∀j (h:j<(prodT a b).length) (h':j<cN.length),BlkJ s' 11 3 cN[j] (nats (rowT a b (prodT a b) (prodT a b)[j] (2^a.lines.toNat))))→(∀j (h:j<(prodT a b).length) (h':j<cF.length),BlkJ s' 11 4 cF[j] (zM (rowB a b (joinF bo) (prodT a b)[j] (2^a.lines.toNat))))→Fr s'→Post (goN U fin ks e' s')) :
  Post (goL U fin (.bk 0::ks) r51_l2 e s):=by
 have hm16:=ha.m16
 have hA:=prodF_okA ha hb hlb
 have hnn:(zQ a.fa b.fa).n≤65536:=Nat.mul_le_mul ha.few hb.few
 have hsh:=bin_shl1 U 3 true .i64 (n:=a.lines) (by have:=ha.lines;omega)
 have hpw:((2:Int)^a.lines.toNat)=((2^a.lines.toNat:Nat):Int):=by simp
 rw[hpw] at hsh
 have m1:=fun (e:Env) (s:St) (ex:Ex) (h:Env.get e 30=.int .i64 ((2^a.lines.toNat:Nat):Int))=>@opA_mks40 _ ex 30 e s _ h (by omega)
 have m2:=fun (e:Env) (s:St) (ex:Ex) (h:Env.get e 34=.int .i64 ((2^a.lines.toNat:Nat):Int))=>@opA_mks43 _ ex 34 e s _ h (by omega)
 generalize hF:prodT a b=F at *
 have hF':zV (yC (zQ a.fa b.fa) fun _ _=>true).1=F:=hF
 refine yE (σ:=Nat) (fun i=>(zQ a.fa b.fa).n-i) (fun i e' s'=>Env.get e' 2=.bool bo∧Env.get e' 3=.ptr 8 0∧Env.get e' 4=.ptr 9 0∧Env.get e' 6=Env.get e 6∧Env.get e' 7=.ptr 11 0∧Env.get e' 9=.int .i64 (i:Nat)∧(∀j,j<11→s'.get j=s.get j)∧13≤s'.next∧Fr s' ∧
   ∃T' pv' v w cN cF,visT (zQ a.fa b.fa) (fun _ _=>true) ((zQ a.fa b.fa).n+1-i) i T'=yC (zQ a.fa b.fa) (fun _ _=>true)∧VisI (zQ a.fa b.fa) T'∧i≤T'.length∧Env.get e' 8=pv'∧PrI s' 12 116 T'.length (pcs b.fa.n (zV T')) pv'∧s'.get 11=some (.cells [.int .i64 a.lines,v,w] 72 false 0 0)∧RowI s' 13 40 1 i cN v∧RowI s' 13 43 1 i cF w∧cN.length=i∧cF.length=i ∧
    (∀j (h:j<F.length) (h':j<cN.length),BlkJ s' 11 3 cN[j] (nats (rowT a b F F[j] (2^a.lines.toNat))))∧(∀j (h:j<F.length) (h':j<cF.length),BlkJ s' 11 4 cF[j] (zM (rowB a b (joinF bo) F[j] (2^a.lines.toNat))))) 0 ?_
  ⟨g2,g3,g4,rfl,g7,g9,fun _ _=>rfl,hnx0,fr,[(0,0,0)],pv,.nils,.nils,[],[],rfl,visI0 hA,Nat.zero_le _,g8,hp,gout,RowI.nil _ _ _ _,RowI.nil _ _ _ _,rfl,rfl,fun j _ h=>by simp at h,fun j _ h=>by simp at h⟩
 rintro Lp i e' s' ⟨q2,q3,q4,q6,q7,q9,hs,hnx,fr',T',pv',v,w,cN,cF,hrun,hT',hi,q8,hp',qout,hv,hw,hcN,hcF,hBN,hBF⟩ IH
 have hTl:=hT'.len
 have hcl:=codes_len T'
 have uA:=(hs 8 (by omega)).trans gA
 have uB:=(hs 9 (by omega)).trans gB
 obtain⟨bp,cap,hpv,hp2,hp3,hp4,hp5,hp6⟩:=hp'
 have q8':=q8.trans hpv
 rw[show (zQ a.fa b.fa).n+1-i=((zQ a.fa b.fa).n-i)+1 by omega,visT] at hrun
 by_cases hd:i<T'.length
 ·have hwr:=zR hd (by omega)
  rw[List.getElem?_eq_getElem hd] at hrun
  simp only at hrun
  have hcx:(zV T')[i]? = some T'[i].1:=by simp[zV,hd]
  have hc:T'[i].1<(zQ a.fa b.fa).n:=hT'.lt _ (List.getElem_mem hd)
  generalize T'[i].1=c at *
  have hm:(zQ a.fa b.fa).m=2^a.lines.toNat:=rfl
  rw[hm] at hrun
  obtain⟨⟨i1,R1,hR1⟩,_,hstop⟩:=visRow_spec hA hc (fun _=>true) (2^a.lines.toNat) 0 (T:=T') (i:=i) (by rw[hm];omega) hT' hd
  obtain⟨vr,hvr⟩:∃vr,visRow ((zQ a.fa b.fa).nx c) (fun _=>true) i (2^a.lines.toNat) 0 T'=vr:=⟨_,rfl⟩
  rw[hvr] at hrun i1 hR1 hstop
  obtain⟨T2,o2⟩:=vr
  have ho:o2=none:=by
   cases o2 with
   |none=>rfl
   |some z=>have:=(hstop z rfl).2.2.1;cases this
  subst ho
  simp only at hrun i1 hR1
  have hlT:i+1≤T2.length:=by rw[hR1,List.length_append];omega
  obtain⟨R2,hR2⟩:∃R2,(yC (zQ a.fa b.fa) fun _ _=>true).1=T2++R2:=by
   have h:=visT_spec hA (fun _ _=>true) ((zQ a.fa b.fa).n-i) (i+1) i1 hlT (by omega)
   rw[hrun] at h
   exact h.pre
  have hFT:F=zV T2++zV R2:=by rw[←hF',hR2];simp[zV]
  have hFi:∀h:i<F.length,F[i]=c:=fun h=>by
   have e:F[i]? = some c:=by
    rw[hFT,hR1,show zV (T'++R1)=zV T'++zV R1 by simp[zV],List.append_assoc,List.getElem?_append_left (by omega)]
    exact hcx
   rw[List.getElem?_eq_getElem h] at e
   exact Option.some.inj e
  have f1:(s'.next=8)=False:=by simp;omega
  simp (maxSteps:=2000000) +contextual only[go_sem,↓reduceIte,r51_l2,q3,q8',q9,zA,hd,uA,hsh,m1,m2,f1]
  obtain⟨S,hS⟩:∃S,S=(s'.new (.cells (ints (List.replicate (2^a.lines.toNat) 0)) 3 false 0 0)).new (.cells (zM (List.replicate (2^a.lines.toNat) false)) 4 false 0 0):=⟨_,rfl⟩
  rw[←hS]
  have hSn:S.next=s'.next+2:=by rw[hS];simp only[next_new]
  have kS:∀j,j<s'.next→S.get j=s'.get j:=fun j h1=>by rw[hS,get_new,next_new,if_neg (by omega),get_new,if_neg (by omega)]
  have frS:Fr S:=by rw[hS];exact (fr'.new _).new _
  have un:S.get s'.next=some (.cells (nats (List.replicate (2^a.lines.toNat) 0)) 3 false 0 0):=by rw[hS,get_new,next_new,if_neg (by omega),get_new,if_pos rfl,nats_rep]
  have uf:S.get (s'.next+1)=some (.cells (zM (List.replicate (2^a.lines.toNat) false)) 4 false 0 0):=by rw[hS,get_new,next_new,if_pos rfl]
  refine l51b (Post:=Post) ha hb hlb (bo:=bo) (N:=12) (A0:=8) (B0:=9) (nb:=s'.next) (fb:=s'.next+1) (c:=c) (i:=i) (T:=F) (F:=F) (TT:=T') (pv:=pv') (vr:=(T2,none)) hT' hd hcx hvr ⟨_,hFT⟩ ?_ ?_ ?_ ?_ ?_ ?_ ?_ ?_ ((kS 8 (by omega)).trans uA) ((kS 9 (by omega)).trans uB) un uf ⟨bp,cap,hpv,hp2,by rw[kS bp hp6];exact hp3,hp4,hp5,by omega⟩ (by omega) frS ?_
  case refine_9 =>
   intro e2 s2 pv2 h2a p8 hp2' wn wf hs2 hn2 fr2
   have hnp:∀j,isB2 pv' j↔bp=j:=fun j=>by rw[hpv,isB2_sl]
   have E2:∀t:Nat,t<10→t≠8→Env.get e2 t=Env.get e' t:=fun t ht h8=>by
    rw[h2a t (by omega) h8]
    have hne:∀k:Nat,10≤k→(k=t)=False:=fun k hk=>by simp;omega
    simp +contextual only[go_sem,↓reduceIte,hne]
   have p2:=(E2 2 (by omega) (by omega)).trans q2
   have p3:=(E2 3 (by omega) (by omega)).trans q3
   have p4:=(E2 4 (by omega) (by omega)).trans q4
   have p6:=(E2 6 (by omega) (by omega)).trans q6
   have p7:=(E2 7 (by omega) (by omega)).trans q7
   have p9:=(E2 9 (by omega) (by omega)).trans q9
   have p10:Env.get e2 10=.sl s'.next 0 (2^a.lines.toNat) (some (2^a.lines.toNat)) 1:=by rw[h2a 10 (by omega) (by omega)];simp +contextual only[go_sem,↓reduceIte]
   have p11:Env.get e2 11=.sl (s'.next+1) 0 (2^a.lines.toNat) (some (2^a.lines.toNat)) 1:=by rw[h2a 11 (by omega) (by omega)];simp +contextual only[go_sem,↓reduceIte]
   have k2:∀j,j<s'.next→j≠bp→s2.get j=s'.get j:=fun j h1 h2=>by rw[hs2 j (by omega) (by omega) (by omega) (fun h=>h2 ((hnp j).1 h).symm),kS j h1]
   have v11:=(k2 11 (by omega) (by omega)).trans qout
   have hv2:RowI s2 13 40 1 i cN v:=hv.keepT (by omega) fun j c' h1 h2 h3=>by rw[k2 j h2 (zP h1 hp3 (by decide))];exact h1
   have hw2:RowI s2 13 43 1 i cF w:=hw.keepT (by omega) fun j c' h1 h2 h3=>by rw[k2 j h2 (zP h1 hp3 (by decide))];exact h1
   have hB2:∀c l t,(t≠116)→BlkJ s' 11 t c l→BlkJ s2 11 t c l:=fun c l t ht h=>h.mono (by omega) fun k h1 h2 h3 h4=>⟨h2,by rw[k2 k h1 (zP h4 hp3 ht)];exact h4⟩
   have hlv:=hv2.lenA
   have hlw:=hw2.lenA
   have hb1:(i+1)*24≤1099511627776:=by omega
   have hb2:i+1≤1099511627776:=by omega
   have f2:(s2.next=11)=False:=by simp;omega
   simp (maxSteps:=2000000) +contextual only[go_sem,↓reduceIte,p7,p10,v11,Nat.mul_one,Nat.one_mul,zW,Nat.reducePow,hlv,hb1,hb2]
   have hvN:RowI (s2.new (.cells [.sl s'.next 0 (2^a.lines.toNat) (some (2^a.lines.toNat)) 1] 40 false 0 0)) 13 40 1 i cN v:=hv2.keepT (by rw[next_new];omega) fun j c' h1 h2 h3=>by rw[get_new,if_neg (by omega)];exact h1
   obtain⟨s4,d1,d2,d3,d4,d5,d6⟩:=hvN.appT (by rw[next_new];omega) (.sl s'.next 0 (2^a.lines.toNat) (some (2^a.lines.toNat)) 1) rfl
   have k4:∀j c t,s2.get j=some (.cells c t false 0 0)→j<s2.next→t≠40→s4.get j=some (.cells c t false 0 0):=fun j c t h1 h2 h3=>d4 j c t 0 0 (by rw[get_new,if_neg (by omega)];exact h1) (by rw[next_new];omega) h3
   rw[next_new] at d1 d2 d3
   rw[d1]
   have w11:=k4 11 _ _ v11 (by omega) (by decide)
   have hw4:RowI s4 13 43 1 i cF w:=hw2.keepT (by omega) fun j c' h1 h2 h3=>k4 j _ _ h1 h2 (by decide)
   have f3:(s4.next=11)=False:=by simp;omega
   simp (maxSteps:=2000000) +contextual only[go_sem,↓reduceIte,p7,p11,w11,Nat.mul_one,Nat.one_mul,zW,Nat.reducePow,hlw,hb1,hb2]
   obtain⟨S5,hS5⟩:∃S5,S5=(s4.put 11 (.cells [.int .i64 a.lines,.sl (s2.next+1) 0 (i+1) none 1,w] 72 false 0 0)).new (.cells [.sl (s'.next+1) 0 (2^a.lines.toNat) (some (2^a.lines.toNat)) 1] 43 false 0 0):=⟨_,rfl⟩
   rw[←hS5]
   have hS5n:S5.next=s4.next+1:=by rw[hS5,next_new,next_put]
   have k5:∀j,j<s4.next→j≠11→S5.get j=s4.get j:=fun j h1 h2=>by rw[hS5,get_new,next_put,if_neg (by omega),get_put,if_neg h2.symm]
   have x11:S5.get 11=some (.cells [.int .i64 a.lines,.sl (s2.next+1) 0 (i+1) none 1,w] 72 false 0 0):=by rw[hS5,get_new,next_put,if_neg (by omega),get_put,if_pos rfl]
   have fr5:Fr S5:=by rw[hS5];exact ((d6 (fr2.new _)).put (by omega) _).new _
   have hw5:RowI S5 13 43 1 i cF w:=hw4.keepT (by omega) fun j c' h1 h2 h3=>by rw[k5 j h2 (by omega)];exact h1
   obtain⟨s6,b1,b2,b3,b4,b5,b6⟩:=hw5.appT (by omega) (.sl (s'.next+1) 0 (2^a.lines.toNat) (some (2^a.lines.toNat)) 1) rfl
   rw[b1]
   have y11:=b4 11 _ _ _ _ x11 (by omega) (by decide)
   simp (maxSteps:=2000000) +contextual only[go_sem,↓reduceIte,p7,p9,y11,hwr]
   have k6:∀j c t,j≠11→s2.get j=some (.cells c t false 0 0)→j<s2.next→t≠40→t≠43→s6.get j=some (.cells c t false 0 0):=fun j c t h0 h1 h2 h3 h4=>b4 j c t 0 0 (by rw[k5 j (by omega) h0];exact k4 j c t h1 h2 h3) (by omega) h4
   have kP:∀(x:Blk) j,j≠11→(s6.put 11 x).get j=s6.get j:=fun x j h=>by rw[get_put,if_neg h.symm]
   have hv6:RowI s6 13 40 1 (i+1) (cN++[.sl s'.next 0 (2^a.lines.toNat) (some (2^a.lines.toNat)) 1]) (.sl (s2.next+1) 0 (i+1) none 1):=d3.keepT (by omega) fun j c' h1 h2 h3=>b4 j _ _ 0 0 (by rw[k5 j h2 (by omega)];exact h1) (by omega) (by decide)
   have bj:∀c l t,t≠40→t≠43→∀x,BlkJ s2 11 t c l→BlkJ (s6.put 11 x) 11 t c l:=fun c l t h0 h00 x h=>h.mono (by rw[next_put];omega) fun k h1 h2 h3 h4=>⟨h2,by rw[kP x k h2];exact k6 k _ _ h2 h4 h1 h0 h00⟩
   obtain⟨bq,capq,hpq,hpq2,hpq3,hpq4,hpq5,hpq6⟩:=hp2'
   refine IH (i+1) _ _ (by have:=i1.len;omega) ⟨?_,?_,?_,?_,?_,?_,fun j h1=>?_,by rw[next_put];omega,(b6 fr5).put (by omega) _,T2,pv2,.sl (s2.next+1) 0 (i+1) none 1,.sl S5.next 0 (i+1) none 1,cN++[.sl s'.next 0 (2^a.lines.toNat) (some (2^a.lines.toNat)) 1],cF++[.sl (s'.next+1) 0 (2^a.lines.toNat) (some (2^a.lines.toNat)) 1],?_,i1,hlT,?_,⟨bq,capq,hpq,hpq2,by rw[kP _ bq (by omega)];exact k6 bq _ _ (by omega) hpq3 hpq6 (by decide) (by decide),hpq4,hpq5,by rw[next_put];omega⟩,by rw[get_put,if_pos rfl],hv6.keepT (by rw[next_put];omega) fun j c' h1 h2 h3=>by rw[kP _ j (by omega)];exact h1,b3.keepT (by rw[next_put];omega) fun j c' h1 h2 h3=>by rw[kP _ j (by omega)];exact h1,by simp[hcN],by simp[hcF],fun j h h'=>?_,fun j h h'=>?_⟩
   case refine_7 =>
    rw[kP _ j (by omega),b5 j (by omega),k5 j (by omega) (by omega),d5 j (by omega),get_new,if_neg (by omega),k2 j (by omega) (by omega),hs j h1]
   case refine_8=>rw[show (zQ a.fa b.fa).n+1-(i+1)=(zQ a.fa b.fa).n-i by omega];exact hrun
   case refine_10 =>
    by_cases hj:j<cN.length
    ·rw[List.getElem_append_left hj]
     exact bj _ _ _ (by decide) (by decide) _ (hB2 _ _ _ (by decide) (hBN j h hj))
    ·have hj:j=i:=by rw[List.length_append,List.length_singleton] at h';omega
     subst hj
     rw[List.getElem_append_right (by omega)]
     simp only[List.getElem_singleton]
     rw[hFi h]
     exact bj _ _ _ (by decide) (by decide) _ ⟨s'.next,some (2^a.lines.toNat),by rw[nats_len,rowT_len],by omega,by omega,by omega,wn⟩
   case refine_11 =>
    by_cases hj:j<cF.length
    ·rw[List.getElem_append_left hj]
     exact bj _ _ _ (by decide) (by decide) _ (hB2 _ _ _ (by decide) (hBF j h hj))
    ·have hj:j=i:=by rw[List.length_append,List.length_singleton] at h';omega
     subst hj
     rw[List.getElem_append_right (by omega)]
     simp only[List.getElem_singleton]
     rw[hFi h]
     exact bj _ _ _ (by decide) (by decide) _ ⟨s'.next+1,some (2^a.lines.toNat),by rw[bools_len,rowB_len],by omega,by omega,by omega,wf⟩
   all_goals simp +contextual only[go_sem,↓reduceIte,p2,p3,p4,p6,p7,p8]
  all_goals simp +contextual only[go_sem,↓reduceIte,q2,q3,q4,q8,q9]
  all_goals rfl
 ·have hie:i=T'.length:=by omega
  rw[List.getElem?_eq_none (by omega)] at hrun
  simp only at hrun
  have hTF:zV T'=F:=by rw[←hF',←hrun]
  have hFl:F.length=i:=by rw[←hTF];omega
  have hle:decide ((i:Int)<(T'.length:Int))=false:=by rw[zA];simp;omega
  simp (maxSteps:=2000000) +contextual only[go_sem,↓reduceIte,r51_l2,q8',q9,hle]
  refine hk _ _ v w cN cF ?_ ?_ qout hs (by rw[hcN];exact hv) (by rw[hcF];exact hw) (by omega) (by omega) hBN hBF fr'
  ·simp +contextual only[go_sem,↓reduceIte,q6]
  ·simp +contextual only[go_sem,↓reduceIte,q7]
theorem c51 {a b:Auto}(ha:a.ok)(hb:b.ok)(hlb:a.lines=b.lines)(bo:Bool):calV U 51 [encA a,encA b,.bool bo]=some (encA (prodA a b (joinF bo))):=by
 refine yB k51 (by kernel_rfl) (by simp[zS,yH,still]) ?_
 have nn:=zH a.nNl (a.next.map zG)
 have nf:=zH a.fNl (a.fires.map zC)
 have cn:=zD a.nNl (a.next.map zG)
 have cf:=zD a.fNl (a.fires.map zC)
 have nn':=zH b.nNl (b.next.map zG)
 have nf':=zH b.fNl (b.fires.map zC)
 have cn':=zD b.nNl (b.next.map zG)
 have cf':=zD b.fNl (b.fires.map zC)
 rw[encA_prodA,zU a,zU b]
 unfold encN encFs
 simp (maxSteps:=2000000) +contextual only[go_sem,↓reduceIte,r51,nn,nf,cn,cf,nn',nf',cn',cf']
 refine l51c (Post:=fun (o:Option AV)=>o=some (.agg [.int .i64 a.lines,encS true ((prodT a b).map fun c=>AV.fz (nats (rowT a b (prodT a b) c (2^a.lines.toNat)))),encS true ((prodT a b).map fun c=>AV.fz (zM (rowB a b (joinF bo) c (2^a.lines.toNat))))])) ha hb hlb (bo:=bo) (pv:=.sl 12 0 1 (some 1) 2) ?_ ?_ ?_ ?_ ?_ ?_ ?_ ?_ ?_ ⟨12,some 1,rfl,.inr rfl,?_,by rw[pcs_len];rfl,by omega,?_⟩ ?_ ?_ ?_
 case refine_14 =>
  intro e' s' v w cN cF p6 p7 u11 hs hv hw hln hlf hBN hBF fr'
  have p6:Env.get e' 6=.ptr 10 0:=by rw[p6];simp +contextual only[go_sem,↓reduceIte]
  have u10:=hs 10 (by omega)
  have nav:=hv.noAgg
  have naw:=hw.noAgg
  have hnaN:cN.all noAgg=true:=by
   rw[List.all_eq_true]
   intro x hx
   obtain⟨j,hj,rfl⟩:=List.mem_iff_getElem.1 hx
   obtain⟨_,_,e,_⟩:=hBN j (by omega) hj
   rw[e];rfl
  have hnaF:cF.all noAgg=true:=by
   rw[List.all_eq_true]
   intro x hx
   obtain⟨j,hj,rfl⟩:=List.mem_iff_getElem.1 hx
   obtain⟨_,_,e,_⟩:=hBF j (by omega) hj
   rw[e];rfl
  have kP:∀(x:Blk) j,j≠10→(s'.put 10 x).get j=s'.get j:=fun x j h=>by rw[get_put,if_neg h.symm]
  have fv:∀x,frz U (s'.put 10 x) 39 v=some (encS true ((prodT a b).map fun c=>AV.fz (nats (rowT a b (prodT a b) c (2^a.lines.toNat))))):=fun x=>by
   have k1:RowI (s'.put 10 x) 13 40 1 cN.length cN v:=hv.keepT (by rw[next_put];omega) fun j c' h1 h2 h3=>by rw[kP x j (by omega)];exact h1
   exact k1.frz_one U ag_40 sz_40 hnaN (d:=38) (mapO_idx (by omega) fun j h h'=>((hBN j h' h).mono (s':=s'.put 10 x) (b':=11) (by rw[next_put];omega) fun k h1 h2 h3 h4=>⟨h2,by rw[kP x k (by omega)];exact h4⟩).frz ag_3 sz_3 (noAgg_ints _) (frz_ints _ _ _))
  have fw:∀x,frz U (s'.put 10 x) 39 w=some (encS true ((prodT a b).map fun c=>AV.fz (zM (rowB a b (joinF bo) c (2^a.lines.toNat))))):=fun x=>by
   have k1:RowI (s'.put 10 x) 13 43 1 cF.length cF w:=hw.keepT (by rw[next_put];omega) fun j c' h1 h2 h3=>by rw[kP x j (by omega)];exact h1
   exact k1.frz_one U ag_43 sz_43 hnaF (d:=38) (mapO_idx (by omega) fun j h h'=>((hBF j h' h).mono (s':=s'.put 10 x) (b':=11) (by rw[next_put];omega) fun k h1 h2 h3 h4=>⟨h2,by rw[kP x k (by omega)];exact h4⟩).frz ag_4 sz_4 (noAgg_bools _) (frz_bools _ _ _))
  have u10':s'.get 10=some (.cells [.int .i64 0,.nils,.nils] 72 false 0 0):=by rw[u10];simp +contextual only[go_sem,↓reduceIte]
  simp (maxSteps:=2000000) +contextual only[go_sem,↓reduceIte,p6,p7,u10',u11,nav,naw,fv,fw,hv.cells,hw.cells]
 case refine_13 =>
  repeat first|exact Fr.own|apply Fr.new|apply Fr.put|apply Fr.upto
  all_goals simp +contextual only[go_sem,↓reduceIte]
 all_goals simp +contextual only[go_sem,↓reduceIte]
 all_goals first|rfl|simp[pcs,yM]
def ecs (k:Nat)(E:List (Nat×AV)):List AV:=E.flatMap fun p=>[.int .i64 ((p.1 / k:Nat):Int),.int .i64 ((p.1%k:Nat):Int),p.2]
theorem ecs_cons (k:Nat)(p:Nat×AV)(E:List (Nat×AV)):ecs k (p::E)=.int .i64 ((p.1 / k:Nat):Int)::.int .i64 ((p.1%k:Nat):Int)::p.2::ecs k E:=rfl
theorem ecs_app (k:Nat)(E:List (Nat×AV))(p:Nat×AV):ecs k (E++[p])=ecs k E++[.int .i64 ((p.1 / k:Nat):Int),.int .i64 ((p.1%k:Nat):Int),p.2]:=by simp[ecs]
theorem ecs_get (k:Nat):∀(E:List (Nat×AV)) (i:Nat) (h:i<E.length),(ecs k E)[i*3]? = some (.int .i64 ((E[i].1 / k:Nat):Int))∧(ecs k E)[i*3+1]? = some (.int .i64 ((E[i].1%k:Nat):Int))∧(ecs k E)[i*3+2]? = some E[i].2
 |p::E,0,_=>⟨rfl,rfl,rfl⟩
 |p::E,i+1,h=>by
  have:=ecs_get k E i (by rw[List.length_cons] at h;omega)
  rw[show (i+1)*3=i*3+3 by omega,ecs_cons]
  exact this
theorem ecs_grab (k:Nat):∀(E:List (Nat×AV)) (i:Nat) (h:i<E.length),grab 3 (i*3) (ecs k E)=some [.int .i64 ((E[i].1 / k:Nat):Int),.int .i64 ((E[i].1%k:Nat):Int),E[i].2]
 |p::E,0,_=>by
  rw[ecs_cons,Nat.zero_mul]
  simp[grab_head,grab_zero]
 |p::E,i+1,h=>by
  have:=ecs_grab k E i (by rw[List.length_cons] at h;omega)
  rw[show (i+1)*3=i*3+3 by omega,ecs_cons]
  exact this
def Pr3 (s:St)(N:Nat)(t:TypeId)(n:Nat)(cs:List AV)(v:AV):Prop:=∃b cap,v=.sl b 0 n cap 3∧(cap=none∨cap=some n)∧s.get b=some (.cells cs t false 0 0)∧cs.length=n*3∧N≤b∧b<s.next
def isB3 (v:AV)(j:Nat):Prop:=∃n cap,v=.sl j 0 n cap 3
theorem isB3_sl (b n j:Nat)(cap:Option Nat):isB3 (.sl b 0 n cap 3) j↔b=j:=by
 constructor
 ·rintro⟨m,c,h⟩;cases h;rfl
 ·rintro rfl;exact⟨n,cap,rfl⟩
theorem Pr3.appB {s:St}{N n:Nat}{t:TypeId}{cs:List AV}{v:AV}(h:Pr3 s N t n cs v)(hN:N≤s.next)(x y z:AV)(hx:noAgg x=true)(hy:noAgg y=true)(hz:noAgg z=true) :
  ∃s1,appD t 3 1 [x,y,z] v s=some (.sl s.next 0 (n+1) none 3,s1)∧s1.next=s.next+1∧Pr3 s1 N t (n+1) (cs++[x,y,z]) (.sl s.next 0 (n+1) none 3)∧(∀j,j<s.next→¬isB3 v j→s1.get j=s.get j)∧(Fr s→Fr s1):=by
 obtain⟨b,cap,rfl,h2,h3,h4,h5,h6⟩:=h
 rcases h2 with rfl|rfl
 ·refine⟨(s.put b .gone).new (.cells (cs++[x,y,z]) t false 0 0),by rw[appD_sl,h3,appS_cells h4 (by omega) (by simp[hx,hy,hz])],rfl,⟨s.next,none,rfl,.inl rfl,by rw[get_new,next_put,if_pos rfl],by simp[h4];omega,hN,by rw[next_new,next_put];omega⟩,fun j hj hne=>?_,fun hf=>(hf.put h6 _).new _⟩
  rw[isB3_sl] at hne
  rw[get_new,next_put,if_neg (by omega),get_put,if_neg hne]
 ·refine⟨s.new (.cells (cs++[x,y,z]) t false 0 0),by rw[appD_slk h3 h4 (by omega)],rfl,⟨s.next,none,rfl,.inl rfl,by rw[get_new,if_pos rfl],by simp[h4];omega,hN,by rw[next_new];omega⟩,fun j hj hne=>?_,fun hf=>hf.new _⟩
  rw[get_new,if_neg (by omega)]
theorem gBool_undef (b:Bool):gBool undef b=false:=by cases b <;> rfl
theorem l120a {β:Type}{fin:Fl→β}{ks:List K}{Post:β→Prop}{k N c p2:Nat}{E:List (Nat×AV)}{pv z:AV}(hLl:E.length≤2^20)
  {e:Env}{s:St}(g7:Env.get e 7=pv)(g12:Env.get e 12=.ptr p2 0)(g13:Env.get e 13=.bool false)(g14:Env.get e 14=.int .i64 (0:Nat))(hp:Pr3 s N 195 E.length (ecs k E) pv)(gp2:s.get p2=some (.cells [.int .i64 ((c / k:Nat):Int),.int .i64 ((c%k:Nat):Int),z] 195 false 0 0))(fr:Fr s)
  (hk:∀e' s',(∀t:Nat,t<82→t≠13→t≠14→Env.get e' t=Env.get e t)→Env.get e' 13=.bool (decide (c∈E.map (·.1)))→(∀j,s'.get j=s.get j)→s.next≤s'.next→Fr s'→Post (goN U fin ks e' s')) :
  Post (goL U fin (.bk 4::ks) r120_l0 e s):=by
 obtain⟨bp,cap,hpv,hp2,hp3,hp4,hp5,hp6⟩:=hp
 rw[hpv] at g7
 refine yE (σ:=Nat) (fun i=>E.length-i) (fun i e' s'=>i≤E.length∧(∀t:Nat,t<82→t≠13→t≠14→Env.get e' t=Env.get e t)∧Env.get e' 14=.int .i64 (i:Nat)∧Env.get e' 13=.bool (decide (c∈(E.take i).map (·.1)))∧(∀j,s'.get j=s.get j)∧s.next≤s'.next∧Fr s') 0 ?_
  ⟨Nat.zero_le _,fun _ _ _ _=>rfl,g14,by rw[g13];simp,fun _=>rfl,Nat.le_refl _,fr⟩
 rintro Lp i e' s' ⟨hi,hold,q14,q13,hs,hnx,fr'⟩ IH
 have q7:=(hold 7 (by omega) (by omega) (by omega)).trans g7
 have q12:=(hold 12 (by omega) (by omega) (by omega)).trans g12
 have u3:=(hs bp).trans hp3
 have u2:=(hs p2).trans gp2
 by_cases hd:i<E.length
 ·have hwr:=zR hd (by omega)
  obtain⟨o1,o2,_⟩:=ecs_get k E i hd
  have hmem:decide (c∈(E.take (i+1)).map (·.1))=(decide (c∈(E.take i).map (·.1))||(E[i].1==c)):=by
   rw[List.take_succ_eq_append_getElem hd,List.map_append,Bool.eq_iff_iff]
   simp
   exact or_congr Iff.rfl ⟨fun h=>h.symm,fun h=>h.symm⟩
  have hpb:=pair_beq k E[i].1 c
  generalize E[i].1=x at *
  have key:∀(E':Env),(∀t:Nat,t<82→t≠13→t≠14→Env.get E' t=Env.get e' t)→Env.get E' 14=.int .i64 ((i+1:Nat):Int)→Env.get E' 13=.bool (decide (c∈(E.take (i+1)).map (·.1)))→Post (goL U fin (.bk 4::ks) Lp E' (s'.upto (s'.next+22))):=fun E' h1 h2 h3 =>
   IH (i+1) _ _ (by omega) ⟨by omega,fun t a b c=>(h1 t a b c).trans (hold t a b c),h2,h3,fun j=>by rw[zJ];exact hs j,by rw[zB];omega,fr'.upto (by omega)⟩
  have hnt:∀t:Nat,t<82→t≠13→t≠14→(13=t)=False∧(14=t)=False∧∀k:Nat,82≤k→(k=t)=False:=fun t h1 h2 h3=>⟨by simp;omega,by simp;omega,fun k hk=>by simp;omega⟩
  cases hf:decide (c∈(E.take i).map (·.1)) with
  |true =>
   rw[hf] at q13
   rw[hf,Bool.true_or] at hmem
   simp (maxSteps:=2000000) +contextual only[go_sem,↓reduceIte,r120_l0,q7,q12,q13,q14,zA,hd,hwr,gBool_undef,cond_false]
   refine key _ (fun t h1 h2 h3=>?_) ?_ ?_
   ·obtain⟨n13,n14,hne⟩:=hnt t h1 h2 h3
    simp +contextual only[go_sem,↓reduceIte,n13,n14,hne]
   ·simp +contextual only[go_sem,↓reduceIte]
   ·simp +contextual only[go_sem,↓reduceIte,hmem]
  |false =>
   rw[hf] at q13
   rw[hf,Bool.false_or,←hpb] at hmem
   cases hA:(((x / k:Nat):Int)==((c / k:Nat):Int)) with
   |true =>
    rw[hA,Bool.true_and] at hmem
    simp (maxSteps:=2000000) +contextual only[go_sem,↓reduceIte,r120_l0,q7,q12,q13,q14,zA,hd,hwr,u2,u3,o1,o2,Nat.zero_add,hA]
    refine key _ (fun t h1 h2 h3=>?_) ?_ ?_
    ·obtain⟨n13,n14,hne⟩:=hnt t h1 h2 h3
     simp +contextual only[go_sem,↓reduceIte,n13,n14,hne]
    ·simp +contextual only[go_sem,↓reduceIte]
    ·simp +contextual only[go_sem,↓reduceIte,hmem]
   |false =>
    rw[hA,Bool.false_and] at hmem
    simp (maxSteps:=2000000) +contextual only[go_sem,↓reduceIte,r120_l0,q7,q12,q13,q14,zA,hd,hwr,u2,u3,o1,o2,Nat.zero_add,hA]
    refine key _ (fun t h1 h2 h3=>?_) ?_ ?_
    ·obtain⟨n13,n14,hne⟩:=hnt t h1 h2 h3
     simp +contextual only[go_sem,↓reduceIte,n13,n14,hne]
    ·simp +contextual only[go_sem,↓reduceIte]
    ·simp +contextual only[go_sem,↓reduceIte,hmem]
 ·have hie:i=E.length:=by omega
  have hd:decide ((i:Int)<(E.length:Int))=false:=by rw[zA];simp;omega
  simp (maxSteps:=2000000) +contextual only[go_sem,↓reduceIte,r120_l0,q7,q14,hd]
  refine hk _ _ (fun t h1 h2 h3=>?_) ?_ hs hnx fr'
  ·have hne:∀k:Nat,82≤k→(k=t)=False:=fun k hk=>by simp;omega
   simp +contextual only[go_sem,↓reduceIte,hne]
   exact hold t h1 h2 h3
  ·simp +contextual only[go_sem,↓reduceIte,q13,hie,List.take_length]
theorem grab_nats (L:List Nat):grab L.length 0 (nats L)=some (nats L):=by
 have:=grab_all (nats L)
 rwa [nats_len] at this
theorem l120s {β:Type}{fin:Fl→β}{ks:List K}{Post:β→Prop}{N pb x:Nat}{sig:List Nat}{A B v:AV}(hl:sig.length≤2^20)
  {e:Env}{s:St}(g10:Env.get e 10=.ptr pb 0)(g9:Env.get e 9=.int .i64 (x:Nat))(gp:s.get pb=some (.cells [A,B,v] 195 false 0 0))(hpb:pb<s.next)(hs:SlI s N sig v)(fr:Fr s)
  (hk:∀e' s' w,(∀t:Nat,t<34→t≠11→Env.get e' t=Env.get e t)→Env.get e' 11=.sl w 0 (sig.length+1) none 1→s'.get w=some (.cells (nats (sig++[x])) 3 false 0 0)→s.next≤w→w<s'.next→(∀j,j<s.next→s'.get j=s.get j)→s.next≤s'.next→Fr s'→Post (goN U fin ks e' s')) :
  Post (go U fin ks r120_s e s):=by
 have f1:(s.next=pb)=False:=by simp;omega
 have hb3:(sig.length+1)*8≤1099511627776:=by omega
 have hb4:sig.length+1≤1099511627776:=by omega
 have hnt:∀t:Nat,t<34→t≠11→(11=t)=False∧∀k:Nat,34≤k→(k=t)=False:=fun t h1 h2=>⟨by simp;omega,fun k hk=>by simp;omega⟩
 rcases hs with⟨rfl,rfl⟩|⟨b,rfl,h2,h3,h4⟩
 ·simp (maxSteps:=2000000) +contextual only[go_sem,↓reduceIte,r120_s,g10,g9,gp,f1,appK_zero,app0,Nat.mul_one,Nat.one_mul,Nat.zero_mul,Nat.reducePow,Nat.zero_le,zW]
  obtain⟨s4,d1,d2,d3,d4,d5⟩:=appC (b:=s.next) (L:=[]) (n:=0) (cap:=some 0) (s:=(s.new (.cells [] 3 false 0 0)).new (.cells [.int .i64 (x:Int)] 3 false 0 0)) (.inr rfl) rfl (by rw[get_new,next_new,if_neg (by omega),get_new,if_pos rfl];rfl) (by simp only[next_new];omega) x
  simp only[next_new] at d1 d2 d3 d4
  rw[d1]
  simp (maxSteps:=2000000) +contextual only[go_sem,↓reduceIte]
  refine hk _ _ (s.next+1+1) (fun t h1 h2=>?_) ?_ d3 (by omega) (by omega) (fun j h1=>?_) (by omega) (d5 ((fr.new _).new _))
  ·obtain⟨n11,hne⟩:=hnt t h1 h2
   simp +contextual only[go_sem,↓reduceIte,n11,hne]
  ·simp +contextual only[go_sem,↓reduceIte,Nat.zero_add,List.length_nil]
  ·rw[d4 j (by omega) (by omega)]
   simp only[get_new,next_new]
   rw[if_neg (by omega),if_neg (by omega)]
 ·have f2:(s.next=b)=False:=by simp;omega
  have hg:=grab_nats sig
  simp (maxSteps:=2000000) +contextual only[go_sem,↓reduceIte,r120_s,g10,g9,gp,f1,f2,h2,Nat.mul_one,Nat.one_mul,Nat.zero_add,Nat.reducePow,hg]
  by_cases hs0:sig=[]
  ·subst hs0
   simp (maxSteps:=2000000) +contextual only[go_sem,↓reduceIte,List.length_nil,show nats []=[] from rfl,appK_zero,app0,g9,Nat.mul_one,Nat.one_mul,Nat.zero_mul,Nat.reducePow,Nat.zero_le,zW]
   obtain⟨s4,d1,d2,d3,d4,d5⟩:=appC (b:=s.next) (L:=[]) (n:=0) (cap:=some 0) (s:=(s.new (.cells [] 3 false 0 0)).new (.cells [.int .i64 (x:Int)] 3 false 0 0)) (.inr rfl) rfl (by rw[get_new,next_new,if_neg (by omega),get_new,if_pos rfl];rfl) (by simp only[next_new];omega) x
   simp only[next_new] at d1 d2 d3 d4
   rw[d1]
   simp (maxSteps:=2000000) +contextual only[go_sem,↓reduceIte]
   refine hk _ _ (s.next+1+1) (fun t h1 h2=>?_) ?_ d3 (by omega) (by omega) (fun j h1=>?_) (by omega) (d5 ((fr.new _).new _))
   ·obtain⟨n11,hne⟩:=hnt t h1 h2
    simp +contextual only[go_sem,↓reduceIte,n11,hne]
   ·simp +contextual only[go_sem,↓reduceIte,Nat.zero_add,List.length_nil]
   ·rw[d4 j (by omega) (by omega)]
    simp only[get_new,next_new]
    rw[if_neg (by omega),if_neg (by omega)]
  ·have hp0:sig.length≠0:=fun h=>hs0 (List.length_eq_zero_iff.1 h)
   have e1:appK 3 1 8 (.sl s.next 0 0 (some 0) 1) (some (sig.length,nats sig)) (s.new (.cells [] 3 false 0 0))=some (.sl (s.next+1) 0 sig.length none 1,(s.new (.cells [] 3 false 0 0)).new (.cells (nats sig) 3 false 0 0)):=by
    have hz:Go.Am.lenA (.sl s.next 0 0 (some 0) 1)=0:=rfl
    rw[zW (by rw[nats_len];omega) (by rw[hz];omega) (by rw[hz];omega) hp0,appD_slk (cs:=[]) (lo:=0) (hi:=0) (by rw[get_new,if_pos rfl]) rfl (by omega)]
    simp only[next_new,Nat.zero_add,List.nil_append]
   rw[e1]
   have a1:=fun (S:St) (h:S.get (s.next+1)=some (.cells (nats sig) 3 false 0 0))=>appX' rfl h x
   have f3:(s.next+1=s.next)=False:=by simp
   simp (maxSteps:=2000000) +contextual only[go_sem,↓reduceIte,g9,Nat.mul_one,Nat.one_mul,Nat.reducePow,zW,hb3,hb4,a1,f3,if_false]
   refine hk _ _ (s.next+1+1+1) (fun t h1 h2=>?_) ?_ ?_ (by omega) ?_ (fun j h1=>?_) ?_ ?_
   ·obtain⟨n11,hne⟩:=hnt t h1 h2
    simp +contextual only[go_sem,↓reduceIte,n11,hne]
   ·simp +contextual only[go_sem,↓reduceIte]
   ·simp only[get_new,get_put,next_new,next_put]
    exact if_pos trivial
   ·simp only[next_new,next_put];omega
   ·simp only[get_new,get_put,next_new,next_put]
    rw[if_neg (by omega),if_neg (by omega),if_neg (by omega),if_neg (by omega),if_neg (by omega)]
   ·simp only[next_new,next_put];omega
   ·repeat first|exact fr|apply Fr.new|apply Fr.put|apply Fr.upto
    all_goals try simp only[next_put,next_new,zB]
    all_goals omega
def SgI (s:St)(N:Nat)(L:List Nat)(v:AV):Prop:=(v=.nils∧L=[])∨(L≠[]∧∃b,v=.sl b 0 L.length none 1∧s.get b=some (.cells (nats L) 3 false 0 0)∧N≤b∧b<s.next)
theorem SgI.sl {s:St}{N:Nat}{L:List Nat}{v:AV}(h:SgI s N L v):SlI s N L v:=by
 rcases h with h|⟨_,h⟩
 ·exact .inl h
 ·exact .inr h
theorem SgI.keep {s s':St}{N:Nat}{L:List Nat}{v:AV}(h:SgI s N L v)(hn:s.next≤s'.next)(hg:∀j c,s.get j=some (.cells c 3 false 0 0)→j<s.next→s'.get j=some (.cells c 3 false 0 0)):SgI s' N L v:=by
 rcases h with h|⟨h0,b,h1,h2,h3,h4⟩
 ·exact .inl h
 ·exact .inr ⟨h0,b,h1,hg b _ h2 h4,h3,by omega⟩
theorem SgI.na {s:St}{N:Nat}{L:List Nat}{v:AV}(h:SgI s N L v):noAgg v=true:=by
 rcases h with⟨rfl,_⟩|⟨_,b,rfl,_⟩ <;> rfl
theorem SgI.frz {s:St}{N:Nat}{L:List Nat}{v:AV}(h:SgI s N L v)(d:Nat):Go.Am.frz U s (d+2) v=some (encS true (nats L)):=by
 rcases h with⟨rfl,rfl⟩|⟨h5,w,rfl,h2,h3,h4⟩
 ·rfl
 ·rw[frz_slN rfl h2]
  cases L with
  |nil=>exact absurd rfl h5
  |cons x l=>rfl
def ents (k:Nat)(T:List Trip):List AV:=(List.range T.length).map fun j=>.agg [.int .i64 ((gt (zV T) j / k:Nat):Int),.int .i64 ((gt (zV T) j%k:Nat):Int),encS true (nats (sigT T j j))]
structure EnI (s:St)(N k:Nat)(T:List Trip)(E:List (Nat×AV))(pv:AV):Prop where
 row:Pr3 s N 195 E.length (ecs k E) pv
 cd:E.map (·.1)=zV T
 sg:∀j (h:j<E.length),SgI s N (sigT T j j) E[j].2
theorem EnI.len {s:St}{N k:Nat}{T:List Trip}{E:List (Nat×AV)}{pv:AV}(h:EnI s N k T E pv):E.length=T.length:=by
 have:=congrArg List.length h.cd
 rwa [List.length_map,codes_len] at this
theorem EnI.keep {s s':St}{N k:Nat}{T:List Trip}{E:List (Nat×AV)}{pv:AV}(h:EnI s N k T E pv)(hn:s.next≤s'.next)(hg:∀j c t,(t=3∨t=195)→s.get j=some (.cells c t false 0 0)→j<s.next→s'.get j=some (.cells c t false 0 0)):EnI s' N k T E pv:=by
 obtain⟨⟨b,cap,h1,h2,h3,h4,h5,h6⟩,h7,h8⟩:=h
 exact⟨⟨b,cap,h1,h2,hg b _ _ (.inr rfl) h3 h6,h4,h5,by omega⟩,h7,fun j hj=>(h8 j hj).keep hn fun i c h9 h10=>hg i c 3 (.inl rfl) h9 h10⟩
theorem chunks3 (k:Nat):∀E:List (Nat×AV),chunksA true 3 E.length (ecs k E)=E.map fun p=>.agg [.int .i64 ((p.1 / k:Nat):Int),.int .i64 ((p.1%k:Nat):Int),p.2]
 |[]=>rfl
 |p::E=>by
  rw[List.length_cons,chunks_agg,ecs_cons,List.map_cons]
  simp only[List.take_succ_cons,List.take_zero,List.drop_succ_cons,List.drop_zero]
  rw[chunks3 k E]
theorem EnI.frz {s:St}{N k:Nat}{T:List Trip}{E:List (Nat×AV)}{pv:AV}(h:EnI s N k T E pv)(d:Nat):Go.Am.frz U s (d+4) pv=some (.fz (ents k T)):=by
 have hl:=h.len
 obtain⟨⟨b,cap,rfl,h2,h3,h4,h5,h6⟩,h7,h8⟩:=h
 have h195:isAggT U 195=some true:=by kernel_rfl
 have s195:size U 195=some 3:=by kernel_rfl
 rw[frz_sl,h3,frzS_cells,←h4,grab_all,h195,s195]
 have e:=frzT_agg (X:=U) s (d+3) E.length 2 (ecs k E)
 rw[show (2:Nat)+1=3 from rfl] at e
 rw[e,chunks3]
 have hm:mapO (Go.Am.frz U s (d+3)) (E.map fun p=>AV.agg [.int .i64 ((p.1 / k:Nat):Int),.int .i64 ((p.1%k:Nat):Int),p.2])=some (ents k T):=by
  refine mapO_idx (by simp[ents,hl]) fun j h h'=>?_
  have hj:j<E.length:=by rw[List.length_map] at h;exact h
  have hf:=(h8 j hj).frz d
  have hg:gt (zV T) j=E[j].1:=by
   have hc:j<(zV T).length:=by rw[codes_len];omega
   rw[gt_get hc]
   have:(zV T)[j]? = some E[j].1:=by rw[←h7];simp[hj]
   rw[List.getElem?_eq_getElem hc] at this
   exact Option.some.inj this
  simp only[List.getElem_map,ents,List.getElem_range,hg]
  rw[frz_agg]
  simp only[mapO,hf]
  rfl
 rw[hm,fzK_some]
theorem bin_neqb (a b:Bool):binA U .neq 4 false (.bool a) (.bool b)=some (.bool (a != b)):=by cases a <;> cases b <;> kernel_rfl
theorem ensI_keep {s s':St}{N k:Nat}{T:List Trip}{E:List (Nat×AV)}{pv:AV}(h:EnI s N k T E pv)(hn:s.next≤s'.next)(hg:∀j,j<s.next→s'.get j=s.get j):EnI s' N k T E pv :=
 h.keep hn fun j c t _ h1 h2=>by rw[hg j h2];exact h1
def yeq (a b:Auto)(c x:Nat):Bool:=a.fa.fr (c / b.fa.n) x==b.fa.fr (c%b.fa.n) x
theorem sigT_new {A:Fa}{T:List Trip}{c i x:Nat}(h:VisI A T)(h2:VisI A (T++[(c,i,x)]))(hi:i<T.length):sigT (T++[(c,i,x)]) T.length T.length=sigT T i i++[x]:=by
 obtain⟨k,hk⟩:∃k,T.length=k+1:=⟨T.length-1,by omega⟩
 have hg:(T++[(c,i,x)])[k+1]? = some (c,i,x):=by rw[←hk];simp
 rw[hk,sigT,hg]
 simp only
 rw[sigT_fuel h2 k i (by omega) (by rw[List.length_append];omega),sigT_app _ _ h _ _ hi]
theorem l120b {ks:List K}{Post:Option AV→Prop}{a b:Auto}(ha:a.ok)(hb:b.ok)(hlb:a.lines=b.lines){c i:Nat}{TT:List Trip}{EE:List (Nat×AV)}{pv:AV}{vr:List Trip×Option Nat}
  (hT:VisI (zQ a.fa b.fa) TT)(hi:i<TT.length)(hcx:(zV TT)[i]? = some c)(hvr:visRow ((zQ a.fa b.fa).nx c) (yeq a b c) i (2^a.lines.toNat) 0 TT=vr)
  {e:Env}{s:St}(g2:Env.get e 2=.ptr 8 0)(g3:Env.get e 3=.ptr 9 0)(g7:Env.get e 7=pv)(g8:Env.get e 8=.int .i64 (i:Nat))(g9:Env.get e 9=.int .i64 (0:Nat))
  (gA:s.get 8=some (.cells [.int .i64 a.lines,encS a.nNl (a.next.map zG),encS a.fNl (a.fires.map zC)] 72 false 0 0))(gB:s.get 9=some (.cells [.int .i64 b.lines,encS b.nNl (b.next.map zG),encS b.fNl (b.fires.map zC)] 72 false 0 0))
  (hE:EnI s 10 b.fa.n TT EE pv)(hnx0:10≤s.next)(fr:Fr s)
  (hret:∀z,vr.2=some z→Post (some (.tup [.fz (ents b.fa.n vr.1),encS true (nats (sigT vr.1 i i++[z])),.bool true])))
  (hk:vr.2=none→∀e' s' pv' E',(∀t:Nat,t<9→t≠7→Env.get e' t=Env.get e t)→Env.get e' 7=pv'→EnI s' 10 b.fa.n vr.1 E' pv'→(∀j,j<10→s'.get j=s.get j)→s.next≤s'.next→Fr s'→Post (goN U (finP U [.tmp 4,.tmp 5,.tmp 6]) ks e' s')) :
  Post (goL U (finP U [.tmp 4,.tmp 5,.tmp 6]) (.bk 2::ks) r120_l1 e s):=by
 have hm16:=ha.m16
 have hA:=prodF_okA ha hb hlb
 have hcT:c∈zV TT:=List.mem_of_getElem? hcx
 have hc:c<(zQ a.fa b.fa).n:=by
  obtain⟨t,ht,rfl⟩:=List.mem_map.1 hcT
  exact hT.lt t ht
 have hnn:(zQ a.fa b.fa).n≤65536:=Nat.mul_le_mul ha.few hb.few
 have hc1:c / b.fa.n<a.next.length:=Nat.div_lt_of_lt_mul (by rw[Nat.mul_comm];exact hc)
 have hc2:c%b.fa.n<b.next.length:=Nat.mod_lt _ hb.pos
 have hsh:=bin_shl1 U 3 true .i64 (n:=a.lines) (by have:=ha.lines;omega)
 have hpw:((2:Int)^a.lines.toNat)=((2^a.lines.toNat:Nat):Int):=by simp
 rw[hpw] at hsh
 refine yE (σ:=Nat) (fun x=>2^a.lines.toNat-x) (fun x e' s'=>x≤2^a.lines.toNat∧(∀t:Nat,t<9→t≠7→Env.get e' t=Env.get e t)∧Env.get e' 9=.int .i64 (x:Nat)∧(∀j,j<10→s'.get j=s.get j)∧s.next≤s'.next∧Fr s' ∧
   ∃T' E' pv',Env.get e' 7=pv'∧visRow ((zQ a.fa b.fa).nx c) (yeq a b c) i (2^a.lines.toNat-x) x T'=vr∧VisI (zQ a.fa b.fa) T'∧i<T'.length∧(zV T')[i]? = some c∧EnI s' 10 b.fa.n T' E' pv') 0 ?_
  ⟨Nat.zero_le _,fun _ _ _=>rfl,g9,fun _ _=>rfl,Nat.le_refl _,fr,TT,EE,pv,g7,by rw[Nat.sub_zero];exact hvr,hT,hi,hcx,hE⟩
 rintro Lp x e' s' ⟨hx0,hold,q9,hs,hnx,fr',T',E',pv',q7,hrun,hT',hi',hcx',hE'⟩ IH
 have q2:=(hold 2 (by omega) (by omega)).trans g2
 have q3:=(hold 3 (by omega) (by omega)).trans g3
 have q8:=(hold 8 (by omega) (by omega)).trans g8
 have hTl:=hT'.len
 have hEl:=hE'.len
 have uA:=(hs 8 (by omega)).trans gA
 have uB:=(hs 9 (by omega)).trans gB
 have f1:(s'.next=8)=False:=by simp;omega
 obtain⟨bp,cap,hpv,hp2,hp3,hp4,hp5,hp6⟩:=hE'.row
 have q7':=q7.trans hpv
 by_cases hd:x<2^a.lines.toNat
 ·have hw:=zR hd (by omega)
  have hi2:i<E'.length:=by omega
  have gr:=ecs_grab b.fa.n E' i hi2
  have hE1:E'[i].1=c:=by
   have:(E'.map (·.1))[i]? = some c:=by rw[hE'.cd];exact hcx'
   simpa[hi2] using this
  have hsg:=hE'.sg i hi2
  rw[hE1] at gr
  generalize E'[i].2=sv at *
  have hsl:(sigT T' i i).length≤i:=sigT_len T' i i
  have na:=hsg.na
  simp (maxSteps:=2000000) +contextual only[go_sem,↓reduceIte,r120_l1,q2,q7',q8,q9,uA,hsh,f1,zA,hd,hi2,hp3,gr,na]
  obtain⟨S,hS⟩:∃S,S=(s'.new (.cells [.int .i64 0,.int .i64 0,.nils] 195 false 0 0)).put s'.next (.cells [.int .i64 ((c / b.fa.n:Nat):Int),.int .i64 ((c%b.fa.n:Nat):Int),sv] 195 false 0 0):=⟨_,rfl⟩
  rw[←hS]
  have hSn:S.next=s'.next+1:=by rw[hS,next_put,next_new]
  have kS:∀j,j<s'.next→S.get j=s'.get j:=fun j h1=>by rw[hS,get_put,if_neg (by omega),get_new,if_neg (by omega)]
  have uS:S.get s'.next=some (.cells [.int .i64 ((c / b.fa.n:Nat):Int),.int .i64 ((c%b.fa.n:Nat):Int),sv] 195 false 0 0):=by rw[hS,get_put,if_pos rfl]
  have frS:Fr S:=by rw[hS];exact (fr'.new _).put (by rw[next_new];omega) _
  have sgS:SgI S 10 (sigT T' i i) sv:=hsg.keep (by omega) fun j c' h1 h2=>by rw[kS j h2];exact h1
  refine l120s (Post:=Post) (N:=10) (pb:=s'.next) (x:=x) (by omega) ?_ ?_ uS (by omega) sgS.sl frS ?_
  case refine_3 =>
   intro e2 s2 w h2a p11 gw hw1 hw2 hs2 hn2 fr2
   have E2:∀t:Nat,t<10→Env.get e2 t=Env.get e' t:=fun t ht=>by
    rw[h2a t (by omega) (by omega)]
    have hne:∀k:Nat,10≤k→(k=t)=False:=fun k hk=>by simp;omega
    simp +contextual only[go_sem,↓reduceIte,hne]
   have p2:=(E2 2 (by omega)).trans q2
   have p3:=(E2 3 (by omega)).trans q3
   have p7:=(E2 7 (by omega)).trans q7'
   have p8:=(E2 8 (by omega)).trans q8
   have p9:=(E2 9 (by omega)).trans q9
   have p10:Env.get e2 10=.ptr s'.next 0:=by rw[h2a 10 (by omega) (by omega)];simp +contextual only[go_sem,↓reduceIte]
   have k2:∀j,j<s'.next→s2.get j=s'.get j:=fun j h1=>(hs2 j (by omega)).trans (kS j h1)
   have u2:s2.get s'.next=some (.cells [.int .i64 ((c / b.fa.n:Nat):Int),.int .i64 ((c%b.fa.n:Nat):Int),sv] 195 false 0 0):=(hs2 _ (by omega)).trans uS
   have vA:=(k2 8 (by omega)).trans uA
   have vB:=(k2 9 (by omega)).trans uB
   have vp:=(k2 bp hp6).trans hp3
   have hE2:EnI s2 10 b.fa.n T' E' pv':=ensI_keep hE' (by omega) fun j h=>k2 j h
   have hE3:EnI (s2.upto (s2.next+19)) 10 b.fa.n T' E' pv':=ensI_keep hE2 (by rw[zB];omega) fun j h=>zJ _ _ _
   have hSg:∀z,z=x→SgI (s2.upto (s2.next+19)) 10 (sigT T' i i++[z]) (.sl w 0 ((sigT T' i i).length+1) none 1):=fun z hz=>.inr ⟨by simp,w,by simp,by rw[zJ,hz];exact gw,by omega,by rw[zB];omega⟩
   have hEf:=hE3.frz 35
   have hSf:=(hSg x rfl).frz 37
   rw[hpv] at hEf
   rw[frz_sl,zJ] at hEf hSf
   have n1:=ha.nxAt hc1 hd
   have n2:=hb.nxAt hc2 (by rw[←hlb];exact hd)
   have r1:=ixa_rowI (nl:=a.nNl) hc1
   have r2:=ixa_rowI (nl:=b.nNl) hc2
   have n3:=ha.frAt hc1 hd
   have n4:=hb.frAt hc2 (by rw[←hlb];exact hd)
   have r3:=ixa_rowB (nl:=a.fNl) (l:=a.fires) (i:=c / b.fa.n) (by rw[ha.fl];exact hc1)
   have r4:=ixa_rowB (nl:=b.fNl) (l:=b.fires) (i:=c%b.fa.n) (by rw[hb.fl];exact hc2)
   have hfk:=fr2.at
   rw[show 2^a.lines.toNat-x=(2^a.lines.toNat-(x+1))+1 by omega,visRow] at hrun
   have hyq:(a.fa.fr (c / b.fa.n) x != b.fa.fr (c%b.fa.n) x)=!yeq a b c x:=rfl
   cases hy:yeq a b c x with
   |false =>
    rw[hy,cond_false] at hrun
    rw[hy,Bool.not_false] at hyq
    simp (maxSteps:=2000000) +contextual only[go_sem,↓reduceIte,p2,p3,p7,p8,p9,p10,p11,vA,vB,u2,n3,n4,r3,r4,bin_neqb,hyq,hfk,hEf,hSf,frz_tup]
    rw[←hrun] at hret
    exact hret x rfl
   |true =>
    rw[hy,cond_true] at hrun
    rw[hy,Bool.not_true] at hyq
    simp (maxSteps:=2000000) +contextual only[go_sem,↓reduceIte,p2,p3,p7,p8,p9,p10,p11,vA,vB,u2,n1,n2,n3,n4,r1,r2,r3,r4,bin_neqb,hyq,hfk,Nat.add_assoc]
    have hpn:=pcell_nx hb hlb hc hd
    have hlt3:=hA.lt c x hc hd
    generalize hcn:(zQ a.fa b.fa).nx c x=cn at *
    unfold yM at hpn
    rw[List.cons.injEq,List.cons.injEq] at hpn
    obtain⟨h1n,h2n,_⟩:=hpn
    rw[←h1n,←h2n]
    obtain⟨S3,hS3⟩:∃S3,S3=(((s2.upto (s2.next+19)).upto (s2.next+41)).put (s2.next+39) (.cells [.int .i64 0,.int .i64 0,.nils] 195 false 0 0)).put (s2.next+39) (.cells [.int .i64 ((cn / b.fa.n:Nat):Int),.int .i64 ((cn%b.fa.n:Nat):Int),.sl w 0 ((sigT T' i i).length+1) none 1] 195 false 0 0):=⟨_,rfl⟩
    rw[←hS3]
    have hS3n:S3.next=s2.next+41:=by rw[hS3];simp only[next_put,zB]
    have k3:∀j,j<s2.next→S3.get j=s2.get j:=fun j h1=>by rw[hS3,get_put,if_neg (by omega),get_put,if_neg (by omega),zJ,zJ]
    have u3:S3.get (s2.next+39)=some (.cells [.int .i64 ((cn / b.fa.n:Nat):Int),.int .i64 ((cn%b.fa.n:Nat):Int),.sl w 0 ((sigT T' i i).length+1) none 1] 195 false 0 0):=by rw[hS3,get_put,if_pos rfl]
    have fr3:Fr S3:=by
     rw[hS3]
     repeat first|exact fr2|apply Fr.new|apply Fr.put|apply Fr.upto
     all_goals try simp only[next_put,next_new,zB]
     all_goals omega
    have hE4:EnI S3 10 b.fa.n T' E' pv':=ensI_keep hE2 (by omega) fun j h=>k3 j h
    refine l120a (Post:=Post) (k:=b.fa.n) (N:=10) (c:=cn) (p2:=s2.next+39) (E:=E') (pv:=pv') (z:=.sl w 0 ((sigT T' i i).length+1) none 1) (by omega) ?_ ?_ ?_ ?_ hE4.row u3 fr3 ?_
    case refine_5 =>
     intro e4 s4 h4a p13 hs4 hn4 fr4
     have hne16:∀t:Nat,t<10→∀k:Nat,10≤k→(k=t)=False:=fun t ht k hk=>by simp;omega
     have E4:∀t:Nat,t<10→Env.get e4 t=Env.get e' t:=fun t ht=>by
      rw[h4a t (by omega) (by omega) (by omega)]
      simp +contextual only[go_sem,↓reduceIte,hne16 t ht]
      exact E2 t ht
     have m7:=(E4 7 (by omega)).trans q7'
     have m9:=(E4 9 (by omega)).trans q9
     have m12:Env.get e4 12=.ptr (s2.next+39) 0:=by rw[h4a 12 (by omega) (by omega) (by omega)];simp +contextual only[go_sem,↓reduceIte]
     have u4:=(hs4 (s2.next+39)).trans u3
     have hE5:EnI s4 10 b.fa.n T' E' pv':=ensI_keep hE4 hn4 fun j h=>hs4 j
     rw[hE'.cd] at p13
     by_cases hin:cn∈T'.map (·.1)
     ·rw[decide_eq_true (show cn∈zV T' from hin)] at p13
      rw[decide_eq_true hin,cond_true] at hrun
      simp (maxSteps:=2000000) +contextual only[go_sem,↓reduceIte,p13,m9,hw]
      refine IH (x+1) _ _ (by omega) ⟨by omega,fun t h1 h2=>?_,?_,fun j h1=>?_,by omega,fr4,T',E',pv',?_,hrun,hT',hi',hcx',hE5⟩
      ·have hne:∀k:Nat,9≤k→(k=t)=False:=fun k hk=>by simp;omega
       simp +contextual only[go_sem,↓reduceIte,hne]
       exact (E4 t (by omega)).trans (hold t h1 h2)
      ·simp +contextual only[go_sem,↓reduceIte]
      ·rw[hs4 j,k3 j (by omega),k2 j (by omega),hs j h1]
      ·simp +contextual only[go_sem,↓reduceIte,m7,hpv]
     ·rw[decide_eq_false (show ¬cn∈zV T' from hin)] at p13
      rw[decide_eq_false hin,cond_false] at hrun
      have hlA:=hE'.row
      have hb1:(E'.length+1)*40≤1099511627776:=by omega
      have hb2:E'.length+1≤1099511627776:=by omega
      simp (maxSteps:=2000000) +contextual only[go_sem,↓reduceIte,p13,m7,m12,u4,Nat.mul_one,Nat.one_mul,zW,Nat.reducePow,hb1,hb2]
      have hE6:EnI (s4.new (.cells [.int .i64 ((cn / b.fa.n:Nat):Int),.int .i64 ((cn%b.fa.n:Nat):Int),.sl w 0 ((sigT T' i i).length+1) none 1] 195 false 0 0)) 10 b.fa.n T' E' pv':=ensI_keep hE5 (by rw[next_new];omega) fun j h=>by rw[get_new,if_neg (by omega)]
      obtain⟨s6,d1,d2,d3,d4,d5⟩:=hE6.row.appB (by rw[next_new];omega) (.int .i64 ((cn / b.fa.n:Nat):Int)) (.int .i64 ((cn%b.fa.n:Nat):Int)) (.sl w 0 ((sigT T' i i).length+1) none 1) rfl rfl rfl
      have hnB:∀j,isB3 pv' j↔bp=j:=fun j=>by rw[hpv,isB3_sl]
      have hg3:∀j c',s4.get j=some (.cells c' 3 false 0 0)→j<s4.next→s6.get j=some (.cells c' 3 false 0 0):=fun j c' h1 h2=>by
       rw[d4 j (by rw[next_new];omega) fun h=>?_,get_new,if_neg (by omega)]
       ·exact h1
       ·rw[hnB] at h;subst h
        rw[hs4,k3 _ (by omega),vp] at h1;cases h1
      rw[hpv] at d1
      simp only[next_new] at d1 d2 d3 d4
      rw[d1]
      simp (maxSteps:=2000000) +contextual only[go_sem,↓reduceIte,m9,hw]
      have hT2:VisI (zQ a.fa b.fa) (T'++[(cn,i,x)]):=hT'.put hlt3 hi' hd hin
      refine IH (x+1) _ _ (by omega) ⟨by omega,fun t h1 h2=>?_,?_,fun j h1=>?_,by omega,d5 (fr4.new _),T'++[(cn,i,x)],E'++[(cn,.sl w 0 ((sigT T' i i).length+1) none 1)],.sl (s4.next+1) 0 (E'.length+1) none 3,?_,hrun,hT2,by rw[List.length_append];omega,by rw[codes_app,List.getElem?_append_left (by rw[codes_len];omega)];exact hcx',?_,?_,fun j hj=>?_⟩
      ·have hne:∀k:Nat,9≤k→(k=t)=False:=fun k hk=>by simp;omega
       have h7:(7=t)=False:=by simp;omega
       simp +contextual only[go_sem,↓reduceIte,hne,h7]
       exact (E4 t (by omega)).trans (hold t h1 h2)
      ·simp +contextual only[go_sem,↓reduceIte]
      ·rw[d4 j (by omega) fun h=>by rw[hnB] at h;omega,get_new,if_neg (by omega),hs4 j,k3 j (by omega),k2 j (by omega),hs j h1]
      ·simp +contextual only[go_sem,↓reduceIte]
      ·rw[List.length_append,List.length_singleton,ecs_app]
       exact d3
      ·rw[List.map_append,codes_app,hE'.cd];rfl
      ·by_cases hj':j<E'.length
       ·rw[List.getElem_append_left hj',sigT_app _ _ hT' _ _ (by omega)]
        exact (hE5.sg j hj').keep (by omega) fun j' c' h1 h2=>hg3 j' c' h1 h2
       ·have hje:j=E'.length:=by rw[List.length_append,List.length_singleton] at hj;omega
        subst hje
        rw[List.getElem_append_right (by omega)]
        simp only[List.getElem_singleton]
        rw[hEl,sigT_new hT' hT2 hi']
        have hw4:s4.get w=some (.cells (nats (sigT T' i i++[x])) 3 false 0 0):=by rw[hs4,k3 w hw2];exact gw
        exact .inr ⟨by simp,w,by simp,hg3 w _ hw4 (by omega),by omega,by omega⟩
    all_goals simp +contextual only[go_sem,↓reduceIte,p7,hpv]
    all_goals rfl
  all_goals simp +contextual only[go_sem,↓reduceIte,q9]
 ·have hxe:x=2^a.lines.toNat:=by omega
  subst hxe
  rw[Nat.sub_self,visRow] at hrun
  subst hrun
  simp (maxSteps:=2000000) +contextual only[go_sem,↓reduceIte,r120_l1,q2,q9,uA,hsh,zA,Nat.lt_irrefl]
  refine hk rfl _ _ pv' E' (fun t h1 h2=>?_) ?_ hE' hs hnx fr'
  ·have hne:∀k:Nat,9≤k→(k=t)=False:=fun k hk=>by simp;omega
   simp +contextual only[go_sem,↓reduceIte,hne]
   exact hold t h1 h2
  ·simp +contextual only[go_sem,↓reduceIte,q7]
def vsE (a b:Auto):List Trip×Option (Nat×Nat):=yC (zQ a.fa b.fa) (yeq a b)
theorem l120c {ks:List K}{Post:Option AV→Prop}{a b:Auto}(ha:a.ok)(hb:b.ok)(hlb:a.lines=b.lines){pv:AV}{E0:List (Nat×AV)}
  {e:Env}{s:St}(g2:Env.get e 2=.ptr 8 0)(g3:Env.get e 3=.ptr 9 0)(g7:Env.get e 7=pv)(g8:Env.get e 8=.int .i64 (0:Nat))
  (gA:s.get 8=some (.cells [.int .i64 a.lines,encS a.nNl (a.next.map zG),encS a.fNl (a.fires.map zC)] 72 false 0 0))(gB:s.get 9=some (.cells [.int .i64 b.lines,encS b.nNl (b.next.map zG),encS b.fNl (b.fires.map zC)] 72 false 0 0))
  (hE:EnI s 10 b.fa.n [(0,0,0)] E0 pv)(hnx0:10≤s.next)(fr:Fr s)
  (hret:∀i z,(vsE a b).2=some (i,z)→Post (some (.tup [.fz (ents b.fa.n (vsE a b).1),encS true (nats (sigT (vsE a b).1 i i++[z])),.bool true])))
  (hk:(vsE a b).2=none→∀e' s' pv' E',Env.get e' 7=pv'→EnI s' 10 b.fa.n (vsE a b).1 E' pv'→10≤s'.next→Fr s'→Post (goN U (finP U [.tmp 4,.tmp 5,.tmp 6]) ks e' s')) :
  Post (goL U (finP U [.tmp 4,.tmp 5,.tmp 6]) (.bk 0::ks) r120_l2 e s):=by
 have hA:=prodF_okA ha hb hlb
 have hnn:(zQ a.fa b.fa).n≤65536:=Nat.mul_le_mul ha.few hb.few
 refine yE (σ:=Nat) (fun i=>(zQ a.fa b.fa).n-i) (fun i e' s'=>Env.get e' 2=.ptr 8 0∧Env.get e' 3=.ptr 9 0∧Env.get e' 8=.int .i64 (i:Nat)∧(∀j,j<10→s'.get j=s.get j)∧10≤s'.next∧Fr s' ∧
   ∃T' E' pv',visT (zQ a.fa b.fa) (yeq a b) ((zQ a.fa b.fa).n+1-i) i T'=vsE a b∧VisI (zQ a.fa b.fa) T'∧i≤T'.length∧Env.get e' 7=pv'∧EnI s' 10 b.fa.n T' E' pv') 0 ?_
  ⟨g2,g3,g8,fun _ _=>rfl,hnx0,fr,[(0,0,0)],E0,pv,rfl,visI0 hA,Nat.zero_le _,g7,hE⟩
 rintro Lp i e' s' ⟨q2,q3,q8,hs,hnx,fr',T',E',pv',hrun,hT',hi,q7,hE'⟩ IH
 have hTl:=hT'.len
 have hEl:=hE'.len
 have uA:=(hs 8 (by omega)).trans gA
 have uB:=(hs 9 (by omega)).trans gB
 obtain⟨bp,cap,hpv,hp2,hp3,hp4,hp5,hp6⟩:=hE'.row
 have q7':=q7.trans hpv
 rw[show (zQ a.fa b.fa).n+1-i=((zQ a.fa b.fa).n-i)+1 by omega,visT] at hrun
 by_cases hd:i<T'.length
 ·have hwr:=zR hd (by omega)
  have hi2:i<E'.length:=by omega
  rw[List.getElem?_eq_getElem hd] at hrun
  simp only at hrun
  have hcx:(zV T')[i]? = some T'[i].1:=by simp[zV,hd]
  have hc:T'[i].1<(zQ a.fa b.fa).n:=hT'.lt _ (List.getElem_mem hd)
  generalize T'[i].1=c at *
  have hm:(zQ a.fa b.fa).m=2^a.lines.toNat:=rfl
  rw[hm] at hrun
  obtain⟨⟨i1,R1,hR1⟩,_,hstop⟩:=visRow_spec hA hc (yeq a b c) (2^a.lines.toNat) 0 (T:=T') (i:=i) (by rw[hm];omega) hT' hd
  obtain⟨vr,hvr⟩:∃vr,visRow ((zQ a.fa b.fa).nx c) (yeq a b c) i (2^a.lines.toNat) 0 T'=vr:=⟨_,rfl⟩
  rw[hvr] at hrun i1 hR1 hstop
  simp (maxSteps:=2000000) +contextual only[go_sem,↓reduceIte,r120_l2,q7',q8,zA,hi2]
  refine l120b (Post:=Post) ha hb hlb (c:=c) (i:=i) (TT:=T') (EE:=E') (pv:=pv') (vr:=vr) hT' hd hcx hvr ?_ ?_ ?_ ?_ ?_ uA uB hE' hnx fr' (fun z hz=>?_) (fun hz e2 s2 pv2 E2 h2a p7 hE2 hs2 hn2 fr2=>?_)
  case refine_6 =>
   obtain⟨T2,o2⟩:=vr
   simp only at hz hrun
   subst hz
   simp only at hrun
   rw[←hrun] at hret
   exact hret i z rfl
  case refine_7 =>
   obtain⟨T2,o2⟩:=vr
   simp only at hz hrun i1 hR1 hE2
   subst hz
   simp only at hrun
   have G2:∀t:Nat,t<9→t≠7→Env.get e2 t=Env.get e' t:=fun t ht h7=>by
    rw[h2a t ht h7]
    have hne:∀k:Nat,9≤k→(k=t)=False:=fun k hk=>by simp;omega
    simp +contextual only[go_sem,↓reduceIte,hne]
   have p2:=(G2 2 (by omega) (by omega)).trans q2
   have p3:=(G2 3 (by omega) (by omega)).trans q3
   have p8:=(G2 8 (by omega) (by omega)).trans q8
   have hlT:i+1≤T2.length:=by rw[hR1,List.length_append];omega
   simp (maxSteps:=2000000) +contextual only[go_sem,↓reduceIte,p8,hwr]
   refine IH (i+1) _ _ (by have:=i1.len;omega) ⟨?_,?_,?_,fun j h1=>(hs2 j h1).trans (hs j h1),by omega,fr2,T2,E2,pv2,?_,i1,hlT,?_,hE2⟩
   case refine_4=>rw[show (zQ a.fa b.fa).n+1-(i+1)=(zQ a.fa b.fa).n-i by omega];exact hrun
   all_goals simp +contextual only[go_sem,↓reduceIte,p2,p3,p7,p8]
  all_goals simp +contextual only[go_sem,↓reduceIte,q2,q3,q7,q8]
  all_goals rfl
 ·have hie:i=E'.length:=by omega
  have hdd:decide ((i:Int)<(E'.length:Int))=false:=by rw[zA];simp;omega
  rw[List.getElem?_eq_none (by omega)] at hrun
  simp only at hrun
  rw[←hrun] at hk
  simp (maxSteps:=2000000) +contextual only[go_sem,↓reduceIte,r120_l2,q7',q8,hdd]
  exact hk rfl _ _ pv' E' (by simp +contextual only[go_sem,↓reduceIte,q7]) hE' hnx fr'
theorem c120 {a b:Auto}(ha:a.ok)(hb:b.ok)(hlb:a.lines=b.lines):calV U 120 [encA a,encA b]=some (.tup [.fz (ents b.fa.n (vsE a b).1),encS true (nats (endS (vsE a b))),.bool (vsE a b).2.isSome]):=by
 refine yB k120 (by kernel_rfl) (by simp[zS,yH,still]) ?_
 have nn:=zH a.nNl (a.next.map zG)
 have nf:=zH a.fNl (a.fires.map zC)
 have cn:=zD a.nNl (a.next.map zG)
 have cf:=zD a.fNl (a.fires.map zC)
 have nn':=zH b.nNl (b.next.map zG)
 have nf':=zH b.fNl (b.fires.map zC)
 have cn':=zD b.nNl (b.next.map zG)
 have cf':=zD b.fNl (b.fires.map zC)
 rw[zU a,zU b]
 unfold encN encFs
 simp (maxSteps:=2000000) +contextual only[go_sem,↓reduceIte,r120,nn,nf,cn,cf,nn',nf',cn',cf']
 refine l120c (Post:=fun (o:Option AV)=>o=some (.tup [.fz (ents b.fa.n (vsE a b).1),encS true (nats (endS (vsE a b))),.bool (vsE a b).2.isSome])) ha hb hlb (pv:=.sl 10 0 1 (some 1) 3) (E0:=[(0,.nils)]) ?_ ?_ ?_ ?_ ?_ ?_ ⟨⟨10,some 1,rfl,.inr rfl,?_,rfl,by omega,?_⟩,rfl,?_⟩ ?_ ?_ ?_ ?_
 case refine_12 =>
  intro i z hz
  unfold endS
  rw[hz]
  rfl
 case refine_13 =>
  intro hz e' s' pv' E' p7 hE hn fr'
  unfold endS
  rw[hz]
  obtain⟨bp,cap,hpv,hp2,hp3,hp4,hp5,hp6⟩:=hE.row
  have hf:=hE.frz 35
  rw[hpv] at hf p7
  rw[frz_sl] at hf
  simp (maxSteps:=2000000) +contextual only[go_sem,↓reduceIte,p7,hf,frz_tup]
  rfl
 case refine_11 =>
  repeat first|exact Fr.own|apply Fr.new|apply Fr.put|apply Fr.upto
  all_goals simp +contextual only[go_sem,↓reduceIte]
 all_goals simp +contextual only[go_sem,↓reduceIte]
 case refine_7=>simp[ecs]
 case refine_9 =>
  intro j hj
  have:j=0:=by omega
  subst this
  exact .inl ⟨rfl,rfl⟩
 all_goals rfl
end Go.Am
