/- A part of the proof of a statement of this seat: the machine on which the program is read, and what it computes; for every input. -/
import Derived.Test.YtikiipfbkfgmbaaGreatDoorC06
import Derived.Test.YtikiipfbkfgmbaaGreatDoorC05
set_option linter.all false
namespace Go.Am
open Go
variable [MaxLen]
set_option maxRecDepth 100000
set_option maxHeartbeats 8000000
theorem c71 {a b:Auto}(ha:a.ok)(hb:b.ok)(hlb:a.lines=b.lines):calV U 71 [encA a,encA b]=some (.tup [encS true (nats (endS (vsE a b))),.bool (vsE a b).2.isSome]):=by
 refine yB k71 (by kernel_rfl) (by simp[zS,yH,still]) ?_
 have h:=c120 ha hb hlb
 have nn:=zH a.nNl (a.next.map zG)
 have nf:=zH a.fNl (a.fires.map zC)
 have cn:=zD a.nNl (a.next.map zG)
 have cf:=zD a.fNl (a.fires.map zC)
 have nn':=zH b.nNl (b.next.map zG)
 have nf':=zH b.fNl (b.fires.map zC)
 have cn':=zD b.nNl (b.next.map zG)
 have cf':=zD b.fNl (b.fires.map zC)
 have nE:=zH true (nats (endS (vsE a b)))
 have cE:=zD true (nats (endS (vsE a b)))
 rw[zU a,zU b] at h ⊢
 unfold encN encFs at h ⊢
 simp (maxSteps:=2000000) +contextual only[go_sem,↓reduceIte,r71,nn,nf,cn,cf,nn',nf',cn',cf',h,nE,cE,frz_encS,frz_tup]
def silA (l:Int):Auto:=⟨l,true,[(true,List.replicate (2^l.toNat) 0)],true,[(true,List.replicate (2^l.toNat) false)]⟩
theorem silA_ok {l:Int}(h:1≤l∧l≤4):(silA l).ok:=by
 refine⟨h,by simp[silA],by simp[silA],by simp[silA],fun i hi=>?_,fun i hi=>?_⟩
 ·have hi:i=0:=by simp[silA] at hi;omega
  subst hi
  simp[silA]
 ·have hi:i=0:=by simp[silA] at hi;omega
  subst hi
  simp[silA]
theorem silA_nx (l:Int)(x:Nat):(silA l).fa.nx 0 x=0:=by
 show ((List.replicate (2^l.toNat) (0:Int)).getD x 0).toNat=0
 rw[List.getD_eq_getElem?_getD,List.getElem?_replicate]
 by_cases h:x<2^l.toNat <;> simp[h]
theorem silA_fr (l:Int)(x:Nat):(silA l).fa.fr 0 x=false:=by
 show (List.replicate (2^l.toNat) false).getD x false=false
 rw[List.getD_eq_getElem?_getD,List.getElem?_replicate]
 by_cases h:x<2^l.toNat <;> simp[h]
theorem sil_vis {a:Auto}(ha:a.ok):endS (vsE a (silA a.lines))=shP a∧(vsE a (silA a.lines)).2=(yC a.fa fun s x=>!a.fa.fr s x).2:=by
 have hA:=ha.faok
 have key:∀s x,s<a.fa.n→x<a.fa.m→(zQ a.fa (silA a.lines).fa).nx (id s) x=id (a.fa.nx s x)∧yeq a (silA a.lines) (id s) x=!a.fa.fr s x:=fun s x _ _=>by
  refine⟨?_,?_⟩
  ·show a.fa.nx (s / 1) x*1+(silA a.lines).fa.nx (s%1) x=_
   rw[Nat.div_one,Nat.mod_one,silA_nx]
   simp
  ·show (a.fa.fr (s / 1) x==(silA a.lines).fa.fr (s%1) x)=_
   rw[Nat.div_one,Nat.mod_one,silA_fr]
   cases a.fa.fr s x <;> rfl
 have hn:a.fa.n≤(zQ a.fa (silA a.lines).fa).n:=by show a.fa.n≤a.fa.n*1;omega
 exact⟨endS_map hA (fun u v _ _ h=>h) rfl hn rfl key,by rw[vsE,visAll_map (φ:=id) (y:=fun s x=>!a.fa.fr s x) hA (fun u v _ _ h=>h) rfl (Q:=zQ a.fa (silA a.lines).fa) hn rfl key]⟩
theorem rop_mks43 {base i a:Nat}{e:Env}{s:St}{n:Nat}(h:Env.get e a=.int .i64 (n:Int))(hn:n≤2^20) :
  rop U base (some i) e s (.raw (.makeSlice 43 (.tmp a) (.tmp a)))=some (.sl (base+i) 0 n (some n) 1,s.put (base+i) (.cells (zM (List.replicate n false)) 4 false 0 0)):=by
 have h40:U.und 43=some (.slice 4):=by kernel_rfl
 have hz:zero U 4=some (.bool false):=by kernel_rfl
 have hi:(U.inf 4).map (fun i=>(i.bytes,i.size))=some (1,1):=by kernel_rfl
 have e1:zM (List.replicate n false)=List.replicate n (.bool false):=by simp[zM]
 cases hj:U.inf 4 with
 |none=>rw[hj] at hi;cases hi
 |some j =>
  rw[hj] at hi
  simp only[Option.map_some,Option.some.injEq,Prod.mk.injEq] at hi
  obtain⟨h1,h2⟩:=hi
  rw[e1,←repeatL_one]
  simp only[rop,rawR,opA,eval,h,h40,hj,hz]
  rw[if_pos ⟨by omega,by omega,by rw[h1];omega,by omega,by rw[h2];rfl,by omega⟩,h2]
  rfl
theorem c119 {l:Int}(hl:1≤l∧l≤4):calV U 119 [.int .i64 l]=some (encA (silA l)):=by
 refine yB k119 (by kernel_rfl) rfl ?_
 have hp:=pow_le16 l (by omega)
 have hm:=mOf_nat l
 unfold mOf at hm
 have hm16:2^l.toNat≤65536:=by omega
 have hsh:=bin_shl1 U 3 true .i64 (n:=l) (by omega)
 have hpw:((2:Int)^l.toNat)=((2^l.toNat:Nat):Int):=by simp
 rw[hpw] at hsh
 have m1:=fun (base i t:Nat) (e:Env) (S:St) (h:Env.get e t=.int .i64 ((2^l.toNat:Nat):Int))=>rop_mksN (base:=base) (i:=i) (s:=S) h (by omega)
 have m2:=fun (base i t:Nat) (e:Env) (S:St) (h:Env.get e t=.int .i64 ((2^l.toNat:Nat):Int))=>rop_mks43 (base:=base) (i:=i) (s:=S) h (by omega)
 rw[zU]
 unfold encN encFs silA
 simp (maxSteps:=2000000) +contextual only[go_sem,↓reduceIte,r119,hsh,↓m1,↓m2]
 obtain⟨S,hS⟩:∃S,S=((((((((ownSt U).new (.cells [.int .i64 0,.nils,.nils] 72 false 0 0)).upto 20).put 12 (.cells (nats (List.replicate (2^l.toNat) 0)) 3 false 0 0)).put 13 (.cells [.sl 12 0 (2^l.toNat) (some (2^l.toNat)) 1] 40 false 0 0)).put 16 (.cells (zM (List.replicate (2^l.toNat) false)) 4 false 0 0)).put 17 (.cells [.sl 16 0 (2^l.toNat) (some (2^l.toNat)) 1] 43 false 0 0)).put 8 (.cells [.int .i64 l,.sl 13 0 1 (some 1) 1,.sl 17 0 1 (some 1) 1] 72 false 0 0)):=⟨_,rfl⟩
 rw[←hS]
 have g1:S.get 12=some (.cells (nats (List.replicate (2^l.toNat) 0)) 3 false 0 0):=by rw[hS];simp only[get_put,if_true,Nat.reduceEqDiff,if_false]
 have g2:S.get 16=some (.cells (zM (List.replicate (2^l.toNat) false)) 4 false 0 0):=by rw[hS];simp only[get_put,if_true,Nat.reduceEqDiff,if_false]
 have h1:=frz_slN (d:=36) (n:=2^l.toNat) (cap:=some (2^l.toNat)) (by simp) g1
 rw[frz_sl,g1,frzS_cells,ag_3,sz_3] at h1
 have hb:grab (2^l.toNat) 0 (zM (List.replicate (2^l.toNat) false))=some (zM (List.replicate (2^l.toNat) false)):=by
  have:=grab_all (zM (List.replicate (2^l.toNat) false))
  rwa [bools_len,List.length_replicate] at this
 have hc:=chunks_all (zM (List.replicate (2^l.toNat) false))
 rw[bools_len,List.length_replicate] at hc
 have h2:frzT U S 37 (2^l.toNat) 1 (grab (2^l.toNat*1) 0 (zM (List.replicate (2^l.toNat) false))) (some false) (some 1)=some (.fz (zM (List.replicate (2^l.toNat) false))):=by
  rw[Nat.mul_one,hb,frzT_one,if_pos (noAgg_bools _),hc,frz_bools,fzK_some]
 rw[h1,h2,List.map_singleton,List.map_singleton]
 have e1:zG (true,List.replicate (2^l.toNat) 0)=.fz (nats (List.replicate (2^l.toNat) 0)):=by
  unfold zG
  rw[nats_rep]
  obtain⟨k,hk⟩:∃k,2^l.toNat=k+1:=⟨2^l.toNat-1,by omega⟩
  rw[hk];rfl
 have e2:zC (true,List.replicate (2^l.toNat) false)=.fz (zM (List.replicate (2^l.toNat) false)):=by
  unfold zC
  obtain⟨k,hk⟩:∃k,2^l.toNat=k+1:=⟨2^l.toNat-1,by omega⟩
  rw[hk];rfl
 rw[e1,e2]
 rfl
theorem c52 {a:Auto}(ha:a.ok):calV U 52 [encA a]=some (.tup [encS true (nats (shP a)),.bool (yC a.fa fun s x=>!a.fa.fr s x).2.isSome]):=by
 refine yB k52 (by kernel_rfl) (by simp[zS,yH,still]) ?_
 obtain⟨e1,e2⟩:=sil_vis ha
 have h:=c71 ha (silA_ok ha.lines) (show a.lines=(silA a.lines).lines from rfl)
 rw[e1,e2] at h
 have h119:=c119 ha.lines
 have nn:=zH a.nNl (a.next.map zG)
 have nf:=zH a.fNl (a.fires.map zC)
 have cn:=zD a.nNl (a.next.map zG)
 have cf:=zD a.fNl (a.fires.map zC)
 have nE:=zH true (nats (shP a))
 have cE:=zD true (nats (shP a))
 rw[zU a] at h ⊢
 unfold encN encFs at h ⊢
 simp (maxSteps:=2000000) +contextual only[go_sem,↓reduceIte,r52,nn,nf,cn,cf,h119,h,nE,cE,frz_encS,frz_tup]
theorem rnowR_len {A:Fa}(q:Nat):∀(r x:Nat) (z:List Bool),(rnowR A q r x z).length=z.length
 |0,_,_=>rfl
 |r+1,x,z=>by
  rw[rnowR,rnowR_len q r (x+1)]
  cases A.fr q x <;> simp
theorem fr_lt {s:St}{j:Nat}{c:List AV}{t:TypeId}(fr:Fr s)(h:s.get j=some (.cells c t false 0 0)):j<s.next:=by
 rcases Nat.lt_or_ge j s.next with h'|h'
 ·exact h'
 ·have:=fr.at (j-s.next)
  rw[show s.next+(j-s.next)=j by omega,h] at this;cases this
theorem ents_ix {k:Nat}{T:List Trip}{i c:Nat}(h:(zV T)[i]? = some c):ixRA 3 (.fz (ents k T)) (.int .i64 (i:Int))=some (.fp [.int .i64 ((c / k:Nat):Int),.int .i64 ((c%k:Nat):Int),encS true (nats (sigT T i i))] 0):=by
 have hi:i<T.length:=by
  have:=(List.getElem?_eq_some_iff.1 h).1
  rwa [codes_len] at this
 have hc:gt (zV T) i=c:=by
  rw[gt_get (by rw[codes_len];exact hi)]
  rw[List.getElem?_eq_getElem (by rw[codes_len];exact hi)] at h
  exact Option.some.inj h
 have hg:(ents k T)[i]? = some (.agg [.int .i64 ((c / k:Nat):Int),.int .i64 ((c%k:Nat):Int),encS true (nats (sigT T i i))]):=by
  unfold ents
  rw[List.getElem?_map,List.getElem?_range hi,Option.map_some,hc]
 have hl:(AV.agg [.int .i64 ((c / k:Nat):Int),.int .i64 ((c%k:Nat):Int),encS true (nats (sigT T i i))]).cells=[.int .i64 ((c / k:Nat):Int),.int .i64 ((c%k:Nat):Int),encS true (nats (sigT T i i))]:=by
  have:=zD true (nats (sigT T i i))
  simp[AV.cells,this]
 have:=ixa_encS 3 false (ents k T) .i64 i _ (by omega) (by rw[Int.toNat_natCast];exact hg) (by rw[hl];rfl) (by decide)
 rw[encS_fz,hl] at this
 exact this
theorem ents_len (k:Nat)(T:List Trip):(ents k T).length=T.length:=by simp[ents]
theorem l53a {β:Type}{fin:Fl→β}{ks:List K}{Post:β→Prop}{a:Auto}(ha:a.ok){T:List Trip}{i c nb:Nat}{z:List Bool}(hcx:(zV T)[i]? = some c)(hc:c / a.fa.n<a.next.length)(hz:z.length=a.next.length)
  {e:Env}{s:St}(g1:Env.get e 1=.ptr 8 0)(g4:Env.get e 4=.fz (ents a.fa.n T))(g7:Env.get e 7=.sl nb 0 a.next.length (some a.next.length) 1)(g8:Env.get e 8=.int .i64 (i:Nat))(g9:Env.get e 9=.int .i64 (0:Nat))
  (gA:s.get 8=some (.cells [.int .i64 a.lines,encS a.nNl (a.next.map zG),encS a.fNl (a.fires.map zC)] 72 false 0 0))(gn:s.get nb=some (.cells (zM z) 4 false 0 0))(hnb:nb<s.next)(fr:Fr s)
  (hk:∀e' s',(∀t:Nat,t<9→Env.get e' t=Env.get e t)→s'.get nb=some (.cells (zM (rnowR a.fa (c / a.fa.n) a.fa.m 0 z)) 4 false 0 0)→(∀j,j<s.next→j≠nb→s'.get j=s.get j)→s.next≤s'.next→Fr s'→Post (goN U fin ks e' s')) :
  Post (goL U fin (.bk 2::ks) r53_l0 e s):=by
 have hm16:=ha.m16
 have hsh:=bin_shl1 U 3 true .i64 (n:=a.lines) (by have:=ha.lines;omega)
 have hpw:((2:Int)^a.lines.toNat)=((2^a.lines.toNat:Nat):Int):=by simp
 rw[hpw] at hsh
 have hm:a.fa.m=2^a.lines.toNat:=rfl
 rw[hm] at hk
 have ei:=ents_ix (k:=a.fa.n) hcx
 have r1:=ixa_rowI (nl:=a.nNl) hc
 have r2:=ixa_rowB (nl:=a.fNl) (l:=a.fires) (i:=c / a.fa.n) (by rw[ha.fl];exact hc)
 have n8:nb≠8:=fun h=>by subst h;exact zP gn gA (by decide) rfl
 refine yE (σ:=Nat) (fun x=>2^a.lines.toNat-x) (fun x e' s'=>x≤2^a.lines.toNat∧(∀t:Nat,t<9→Env.get e' t=Env.get e t)∧Env.get e' 9=.int .i64 (x:Nat)∧(∀j,j<s.next→j≠nb→s'.get j=s.get j)∧s.next≤s'.next∧Fr s' ∧
   ∃z',z'.length=a.next.length∧s'.get nb=some (.cells (zM z') 4 false 0 0)∧rnowR a.fa (c / a.fa.n) (2^a.lines.toNat-x) x z'=rnowR a.fa (c / a.fa.n) (2^a.lines.toNat) 0 z) 0 ?_
  ⟨Nat.zero_le _,fun _ _=>rfl,g9,fun _ _ _=>rfl,Nat.le_refl _,fr,z,hz,gn,rfl⟩
 rintro Lp x e' s' ⟨hx0,hold,q9,hs,hnx,fr',z',hz',qn,hrun⟩ IH
 have q1:=(hold 1 (by omega)).trans g1
 have q4:=(hold 4 (by omega)).trans g4
 have q7:=(hold 7 (by omega)).trans g7
 have q8:=(hold 8 (by omega)).trans g8
 have h8:=fr_lt fr gA
 have uA:=(hs 8 h8 n8.symm).trans gA
 by_cases hd:x<2^a.lines.toNat
 ·have hw:=zR hd (by omega)
  have n1:=ha.nxAt hc hd
  have n2:=ha.frAt hc hd
  have hnl:a.fa.nx (c / a.fa.n) x<z'.length:=by rw[hz'];exact ha.faok.lt _ _ hc hd
  have y1:=bools_lay true hnl
  rw[show 2^a.lines.toNat-x=(2^a.lines.toNat-(x+1))+1 by omega,rnowR] at hrun
  have hnl':a.fa.nx (c / a.fa.n) x<a.next.length:=by omega
  generalize a.fa.nx (c / a.fa.n) x=y at *
  have f1:∀q,(s'.next+q=nb)=False:=fun q=>by simp;omega
  have f2:∀q,(s'.next+q=8)=False:=fun q=>by simp;omega
  cases hf:a.fa.fr (c / a.fa.n) x with
  |true =>
   rw[hf] at n2
   rw[hf,cond_true] at hrun
   simp (maxSteps:=2000000) +contextual only[go_sem,↓reduceIte,r53_l0,q1,q4,q7,q8,q9,uA,qn,hsh,zA,hd,ei,r1,r2,n1,n2,hw,y1,hnl',f1,f2,Nat.zero_add,Nat.mul_one]
   refine IH (x+1) _ _ (by omega) ⟨by omega,fun t h1=>?_,?_,fun j h1 h2=>?_,?_,?_,z'.set y true,by simp[hz'],?_,hrun⟩
   ·have hne:∀k:Nat,9≤k→(k=t)=False:=fun k hk=>by simp;omega
    simp +contextual only[go_sem,↓reduceIte,hne]
    exact hold t h1
   ·simp +contextual only[go_sem,↓reduceIte]
   ·rw[get_put,if_neg h2.symm,zJ,zJ];exact hs j h1 h2
   ·simp only[next_put,zB];omega
   ·exact ((fr'.upto (by omega)).upto (by rw[zB];omega)).put (by simp only[zB];omega) _
   ·rw[get_put,if_pos rfl]
  |false =>
   rw[hf] at n2
   rw[hf,cond_false] at hrun
   simp (maxSteps:=2000000) +contextual only[go_sem,↓reduceIte,r53_l0,q1,q4,q7,q8,q9,uA,qn,hsh,zA,hd,ei,r1,r2,n1,n2,hw,y1,hnl',f1,f2,Nat.zero_add,Nat.mul_one]
   refine IH (x+1) _ _ (by omega) ⟨by omega,fun t h1=>?_,?_,fun j h1 h2=>?_,?_,?_,z',hz',?_,hrun⟩
   ·have hne:∀k:Nat,9≤k→(k=t)=False:=fun k hk=>by simp;omega
    simp +contextual only[go_sem,↓reduceIte,hne]
    exact hold t h1
   ·simp +contextual only[go_sem,↓reduceIte]
   ·rw[zJ];exact hs j h1 h2
   ·rw[zB];omega
   ·exact fr'.upto (by omega)
   ·rw[zJ];exact qn
 ·have hxe:x=2^a.lines.toNat:=by omega
  subst hxe
  rw[Nat.sub_self,rnowR] at hrun
  subst hrun
  simp (maxSteps:=2000000) +contextual only[go_sem,↓reduceIte,r53_l0,q1,q9,uA,hsh,zA,Nat.lt_irrefl]
  refine hk _ _ (fun t h1=>?_) qn hs hnx fr'
  have hne:∀k:Nat,9≤k→(k=t)=False:=fun k hk=>by simp;omega
  simp +contextual only[go_sem,↓reduceIte,hne]
  exact hold t h1
theorem l53b {β:Type}{fin:Fl→β}{ks:List K}{Post:β→Prop}{a:Auto}(ha:a.ok){T:List Trip}{nb:Nat}{z:List Bool}(hT:∀c∈zV T,c / a.fa.n<a.next.length)(hTl:T.length≤2^20)(hz:z.length=a.next.length)
  {e:Env}{s:St}(g1:Env.get e 1=.ptr 8 0)(g4:Env.get e 4=.fz (ents a.fa.n T))(g7:Env.get e 7=.sl nb 0 a.next.length (some a.next.length) 1)(g8:Env.get e 8=.int .i64 (0:Nat))
  (gA:s.get 8=some (.cells [.int .i64 a.lines,encS a.nNl (a.next.map zG),encS a.fNl (a.fires.map zC)] 72 false 0 0))(gn:s.get nb=some (.cells (zM z) 4 false 0 0))(hnb:nb<s.next)(fr:Fr s)
  (hk:∀e' s',(∀t:Nat,t<8→Env.get e' t=Env.get e t)→s'.get nb=some (.cells (zM (rnow a.fa (zV T) z)) 4 false 0 0)→(∀j,j<s.next→j≠nb→s'.get j=s.get j)→s.next≤s'.next→Fr s'→Post (goN U fin ks e' s')) :
  Post (goL U fin (.bk 0::ks) r53_l1 e s):=by
 have hcl:=codes_len T
 have hel:=ents_len a.fa.n T
 have n8:nb≠8:=fun h=>by subst h;exact zP gn gA (by decide) rfl
 have h8:=fr_lt fr gA
 refine yE (σ:=Nat) (fun i=>T.length-i) (fun i e' s'=>i≤T.length∧(∀t:Nat,t<8→Env.get e' t=Env.get e t)∧Env.get e' 8=.int .i64 (i:Nat)∧(∀j,j<s.next→j≠nb→s'.get j=s.get j)∧s.next≤s'.next∧Fr s' ∧
   ∃z',z'.length=a.next.length∧s'.get nb=some (.cells (zM z') 4 false 0 0)∧rnow a.fa ((zV T).drop i) z'=rnow a.fa (zV T) z) 0 ?_
  ⟨Nat.zero_le _,fun _ _=>rfl,g8,fun _ _ _=>rfl,Nat.le_refl _,fr,z,hz,gn,rfl⟩
 rintro Lp i e' s' ⟨hi0,hold,q8,hs,hnx,fr',z',hz',qn,hrun⟩ IH
 have q1:=(hold 1 (by omega)).trans g1
 have q4:=(hold 4 (by omega)).trans g4
 have q7:=(hold 7 (by omega)).trans g7
 have uA:=(hs 8 h8 n8.symm).trans gA
 by_cases hd:i<T.length
 ·have hw:=zR hd (by omega)
  have hic:i<(zV T).length:=by omega
  rw[List.drop_eq_getElem_cons hic,rnow] at hrun
  have hcx:(zV T)[i]? = some (zV T)[i]:=List.getElem?_eq_getElem hic
  have hc:=hT _ (List.getElem_mem hic)
  generalize (zV T)[i]=c at *
  simp (maxSteps:=2000000) +contextual only[go_sem,↓reduceIte,r53_l1,q4,q8,zA,hd,hel]
  refine l53a (Post:=Post) ha hcx hc hz' (nb:=nb) ?_ ?_ ?_ ?_ ?_ uA qn (by omega) fr' fun e2 s2 h2a u2 hs2 hn2 fr2=>?_
  case refine_6 =>
   have q2:Env.get e2 8=.int .i64 (i:Nat):=by rw[h2a 8 (by omega)];simp +contextual only[go_sem,↓reduceIte,q8]
   simp (maxSteps:=2000000) +contextual only[go_sem,↓reduceIte,q2,hw]
   refine IH (i+1) _ _ (by omega) ⟨by omega,fun t h1=>?_,?_,fun j h1 h2=>(hs2 j (by omega) h2).trans (hs j h1 h2),by omega,fr2,_,by rw[rnowR_len];exact hz',u2,hrun⟩
   ·have hne:∀k:Nat,8≤k→(k=t)=False:=fun k hk=>by simp;omega
    simp +contextual only[go_sem,↓reduceIte,hne]
    rw[h2a t (by omega)]
    simp +contextual only[go_sem,↓reduceIte,hne]
    exact hold t h1
   ·simp +contextual only[go_sem,↓reduceIte]
  all_goals simp +contextual only[go_sem,↓reduceIte,q1,q4,q7,q8]
  all_goals rfl
 ·have hie:i=T.length:=by omega
  subst hie
  rw[List.drop_eq_nil_of_le (by omega),rnow] at hrun
  subst hrun
  simp (maxSteps:=2000000) +contextual only[go_sem,↓reduceIte,r53_l1,q4,q8,zA,Nat.lt_irrefl,hel]
  refine hk _ _ (fun t h1=>?_) qn hs hnx fr'
  have hne:∀k:Nat,8≤k→(k=t)=False:=fun k hk=>by simp;omega
  simp +contextual only[go_sem,↓reduceIte,hne]
  exact hold t h1
theorem rrow_len {A:Fa}(q:Nat):∀(r x:Nat) (z z':List Bool),rrow A q r x z=some z'→z'.length=z.length
 |0,_,z,z',h=>by rw[rrow] at h;cases h;rfl
 |r+1,x,z,z',h=>by
  rw[rrow] at h
  cases hf:A.fr q x with
  |true=>rw[hf,cond_true] at h;cases h
  |false =>
   rw[hf,cond_false] at h
   rw[rrow_len q r (x+1) _ _ h];simp
theorem l53c {ks:List K}{Post:Option AV→Prop}{a:Auto}(ha:a.ok){q d fb:Nat}{z:List Bool}(hq:q<a.next.length)(hz:z.length=a.next.length)
  {e:Env}{s:St}(g1:Env.get e 1=.ptr 8 0)(g10:Env.get e 10=.int .i64 (d:Nat))(g11:Env.get e 11=.sl fb 0 a.next.length (some a.next.length) 1)(g12:Env.get e 12=.int .i64 (q:Nat))(g13:Env.get e 13=.int .i64 (0:Nat))
  (gA:s.get 8=some (.cells [.int .i64 a.lines,encS a.nNl (a.next.map zG),encS a.fNl (a.fires.map zC)] 72 false 0 0))(gn:s.get fb=some (.cells (zM z) 4 false 0 0))(fr:Fr s)
  (hret:rrow a.fa q a.fa.m 0 z=none→Post (some (.int .i64 (d:Nat))))
  (hk:∀z',rrow a.fa q a.fa.m 0 z=some z'→∀e' s',(∀t:Nat,t<13→Env.get e' t=Env.get e t)→s'.get fb=some (.cells (zM z') 4 false 0 0)→(∀j,j<s.next→j≠fb→s'.get j=s.get j)→s.next≤s'.next→Fr s'→Post (goN U (finP U [.tmp 2]) ks e' s')) :
  Post (goL U (finP U [.tmp 2]) (.bk 8::ks) r53_l2 e s):=by
 have hm16:=ha.m16
 have hsh:=bin_shl1 U 3 true .i64 (n:=a.lines) (by have:=ha.lines;omega)
 have hpw:((2:Int)^a.lines.toNat)=((2^a.lines.toNat:Nat):Int):=by simp
 rw[hpw] at hsh
 have hm:a.fa.m=2^a.lines.toNat:=rfl
 rw[hm] at hk hret
 have r1:=ixa_rowI (nl:=a.nNl) hq
 have r2:=ixa_rowB (nl:=a.fNl) (l:=a.fires) (i:=q) (by rw[ha.fl];exact hq)
 have n8:fb≠8:=fun h=>by subst h;exact zP gn gA (by decide) rfl
 have h8:=fr_lt fr gA
 refine yE (σ:=Nat) (fun x=>2^a.lines.toNat-x) (fun x e' s'=>x≤2^a.lines.toNat∧(∀t:Nat,t<13→Env.get e' t=Env.get e t)∧Env.get e' 13=.int .i64 (x:Nat)∧(∀j,j<s.next→j≠fb→s'.get j=s.get j)∧s.next≤s'.next∧Fr s' ∧
   ∃z',z'.length=a.next.length∧s'.get fb=some (.cells (zM z') 4 false 0 0)∧rrow a.fa q (2^a.lines.toNat-x) x z'=rrow a.fa q (2^a.lines.toNat) 0 z) 0 ?_
  ⟨Nat.zero_le _,fun _ _=>rfl,g13,fun _ _ _=>rfl,Nat.le_refl _,fr,z,hz,gn,rfl⟩
 rintro Lp x e' s' ⟨hx0,hold,q13,hs,hnx,fr',z',hz',qn,hrun⟩ IH
 have q1:=(hold 1 (by omega)).trans g1
 have q10:=(hold 10 (by omega)).trans g10
 have q11:=(hold 11 (by omega)).trans g11
 have q12:=(hold 12 (by omega)).trans g12
 have uA:=(hs 8 h8 n8.symm).trans gA
 by_cases hd:x<2^a.lines.toNat
 ·have hw:=zR hd (by omega)
  have n1:=ha.nxAt hq hd
  have n2:=ha.frAt hq hd
  have hnl:a.fa.nx q x<z'.length:=by rw[hz'];exact ha.faok.lt _ _ hq hd
  have y1:=bools_lay true hnl
  rw[show 2^a.lines.toNat-x=(2^a.lines.toNat-(x+1))+1 by omega,rrow] at hrun
  have hnl':a.fa.nx q x<a.next.length:=by omega
  generalize a.fa.nx q x=y at *
  cases hf:a.fa.fr q x with
  |true =>
   rw[hf] at n2
   rw[hf,cond_true] at hrun
   simp (maxSteps:=2000000) +contextual only[go_sem,↓reduceIte,r53_l2,q1,q10,q11,q12,q13,uA,qn,hsh,zA,hd,r1,r2,n1,n2,hw,y1,hnl',Nat.zero_add,Nat.mul_one]
   exact hret hrun.symm
  |false =>
   rw[hf] at n2
   rw[hf,cond_false] at hrun
   simp (maxSteps:=2000000) +contextual only[go_sem,↓reduceIte,r53_l2,q1,q10,q11,q12,q13,uA,qn,hsh,zA,hd,r1,r2,n1,n2,hw,y1,hnl',Nat.zero_add,Nat.mul_one]
   refine IH (x+1) _ _ (by omega) ⟨by omega,fun t h1=>?_,?_,fun j h1 h2=>?_,?_,?_,z'.set y true,by simp[hz'],?_,hrun⟩
   ·have hne:∀k:Nat,13≤k→(k=t)=False:=fun k hk=>by simp;omega
    simp +contextual only[go_sem,↓reduceIte,hne]
    exact hold t h1
   ·simp +contextual only[go_sem,↓reduceIte]
   ·rw[get_put,if_neg h2.symm];exact hs j h1 h2
   ·rw[next_put];exact hnx
   ·exact fr'.put (fr_lt fr' qn) _
   ·rw[get_put,if_pos rfl]
 ·have hxe:x=2^a.lines.toNat:=by omega
  subst hxe
  rw[Nat.sub_self,rrow] at hrun
  simp (maxSteps:=2000000) +contextual only[go_sem,↓reduceIte,r53_l2,q1,q13,uA,hsh,zA,Nat.lt_irrefl]
  refine hk z' hrun.symm _ _ (fun t h1=>?_) qn hs hnx fr'
  have hne:∀k:Nat,13≤k→(k=t)=False:=fun k hk=>by simp;omega
  simp +contextual only[go_sem,↓reduceIte,hne]
  exact hold t h1
theorem l53d {ks:List K}{Post:Option AV→Prop}{a:Auto}(ha:a.ok){d nb sb fb:Nat}{now:List Bool}{z:List Bool×List Bool}(hnl:now.length=a.next.length)(hz1:z.1.length=a.next.length)(hz2:z.2.length=a.next.length)
  {e:Env}{s:St}(g1:Env.get e 1=.ptr 8 0)(g3:Env.get e 3=.sl sb 0 a.next.length (some a.next.length) 1)(g7:Env.get e 7=.sl nb 0 a.next.length (some a.next.length) 1)(g10:Env.get e 10=.int .i64 (d:Nat))(g11:Env.get e 11=.sl fb 0 a.next.length (some a.next.length) 1)(g12:Env.get e 12=.int .i64 (0:Nat))
  (gA:s.get 8=some (.cells [.int .i64 a.lines,encS a.nNl (a.next.map zG),encS a.fNl (a.fires.map zC)] 72 false 0 0))(gnow:s.get nb=some (.cells (zM now) 4 false 0 0))(gs:s.get sb=some (.cells (zM z.1) 4 false 0 0))(gn:s.get fb=some (.cells (zM z.2) 4 false 0 0))(hne:nb≠sb∧nb≠fb∧sb≠fb)(fr:Fr s)
  (hret:rround a.fa now a.fa.n 0 z=none→Post (some (.int .i64 (d:Nat))))
  (hk:∀z',rround a.fa now a.fa.n 0 z=some z'→z'.1.length=a.next.length→z'.2.length=a.next.length→∀e' s',(∀t:Nat,t<12→Env.get e' t=Env.get e t)→s'.get sb=some (.cells (zM z'.1) 4 false 0 0)→s'.get fb=some (.cells (zM z'.2) 4 false 0 0)→(∀j,j<s.next→j≠sb→j≠fb→s'.get j=s.get j)→s.next≤s'.next→Fr s'→Post (goN U (finP U [.tmp 2]) ks e' s')) :
  Post (goL U (finP U [.tmp 2]) (.bk 6::ks) r53_l3 e s):=by
 have hfew:=ha.few
 have hn:a.fa.n=a.next.length:=rfl
 rw[hn] at hk hret
 have n8:sb≠8:=fun h=>by subst h;exact zP gs gA (by decide) rfl
 have n8':fb≠8:=fun h=>by subst h;exact zP gn gA (by decide) rfl
 have h8:=fr_lt fr gA
 have hlnb:=fr_lt fr gnow
 have hlsb:=fr_lt fr gs
 have hlfb:=fr_lt fr gn
 obtain⟨e1,e2,e3⟩:=hne
 refine yE (σ:=Nat) (fun i=>a.next.length-i) (fun i e' s'=>i≤a.next.length∧(∀t:Nat,t<12→Env.get e' t=Env.get e t)∧Env.get e' 12=.int .i64 (i:Nat)∧(∀j,j<s.next→j≠sb→j≠fb→s'.get j=s.get j)∧s.next≤s'.next∧Fr s' ∧
   ∃z',z'.1.length=a.next.length∧z'.2.length=a.next.length∧s'.get sb=some (.cells (zM z'.1) 4 false 0 0)∧s'.get fb=some (.cells (zM z'.2) 4 false 0 0)∧rround a.fa now (a.next.length-i) i z'=rround a.fa now a.next.length 0 z) 0 ?_
  ⟨Nat.zero_le _,fun _ _=>rfl,g12,fun _ _ _ _=>rfl,Nat.le_refl _,fr,z,hz1,hz2,gs,gn,rfl⟩
 rintro Lp i e' s' ⟨hi0,hold,q12,hs,hnx,fr',⟨zs,zn⟩,hz1',hz2',qs,qn,hrun⟩ IH
 have q1:=(hold 1 (by omega)).trans g1
 have q3:=(hold 3 (by omega)).trans g3
 have q7:=(hold 7 (by omega)).trans g7
 have q10:=(hold 10 (by omega)).trans g10
 have q11:=(hold 11 (by omega)).trans g11
 have uA:=(hs 8 h8 n8.symm n8'.symm).trans gA
 have un:=(hs nb hlnb e1 e2).trans gnow
 simp only at hz1' hz2' qs qn
 by_cases hd:i<a.next.length
 ·have hw:=zR hd (by omega)
  have b1:=bools_getD (l:=now) (i:=i) (by omega)
  have b2:=bools_getD (l:=zs) (i:=i) (by omega)
  have y1:=bools_lay (l:=zs) (i:=i) true (by omega)
  rw[show a.next.length-i=(a.next.length-(i+1))+1 by omega,rround] at hrun
  have hne12:∀t:Nat,t<12→∀k:Nat,12≤k→(k=t)=False:=fun t h1 k hk=>by simp;omega
  simp only at hrun
  have skip:((!now.getD i false)||zs.getD i false)=true→Post (go U (finP U [.tmp 2]) (.lp Lp::.bk 6::ks) r53_l3 e' s'):=fun hsk=>by
   rw[hsk,cond_true] at hrun
   have key:∀E':Env,(∀t:Nat,t<12→Env.get E' t=Env.get e' t)→Env.get E' 12=.int .i64 ((i+1:Nat):Int)→Post (goL U (finP U [.tmp 2]) (.bk 6::ks) Lp E' s'):=fun E' h1 h2 =>
    IH (i+1) _ _ (by omega) ⟨by omega,fun t h=>(h1 t h).trans (hold t h),h2,hs,hnx,fr',(zs,zn),hz1',hz2',qs,qn,hrun⟩
   cases hA:now.getD i false with
   |false =>
    rw[hA] at b1
    simp (maxSteps:=2000000) +contextual only[go_sem,↓reduceIte,r53_l3,q1,q3,q7,q12,un,qs,zA,hd,b1,b2,hw,Nat.zero_add,Nat.mul_one]
    refine key _ (fun t h1=>?_) ?_
    ·simp +contextual only[go_sem,↓reduceIte,hne12 t h1]
    ·simp +contextual only[go_sem,↓reduceIte]
   |true =>
    rw[hA] at b1 hsk
    have hB:zs.getD i false=true:=by simpa using hsk
    rw[hB] at b2
    simp (maxSteps:=2000000) +contextual only[go_sem,↓reduceIte,r53_l3,q1,q3,q7,q12,un,qs,zA,hd,b1,b2,hw,Nat.zero_add,Nat.mul_one]
    refine key _ (fun t h1=>?_) ?_
    ·simp +contextual only[go_sem,↓reduceIte,hne12 t h1]
    ·simp +contextual only[go_sem,↓reduceIte]
  cases hsk:(!now.getD i false)||zs.getD i false with
  |true=>exact skip hsk
  |false =>
   rw[hsk,cond_false] at hrun
   have hA:now.getD i false=true:=by
    cases h:now.getD i false with
    |true=>rfl
    |false=>rw[h] at hsk;cases hsk
   have hB:zs.getD i false=false:=by
    cases h:zs.getD i false with
    |false=>rfl
    |true=>rw[h,Bool.or_true] at hsk;cases hsk
   rw[hA] at b1
   rw[hB] at b2
   simp (maxSteps:=2000000) +contextual only[go_sem,↓reduceIte,r53_l3,q1,q3,q7,q12,un,qs,zA,hd,b1,b2,y1,Nat.zero_add,Nat.mul_one]
   have kP:∀(x:Blk) j,j≠sb→(s'.put sb x).get j=s'.get j:=fun x j h=>by rw[get_put,if_neg h.symm]
   refine l53c (Post:=Post) ha hd hz2' (d:=d) (fb:=fb) ?_ ?_ ?_ ?_ ?_ (by rw[kP _ 8 n8.symm];exact uA) (by rw[kP _ fb e3.symm];exact qn) (fr'.put (by omega) _) (fun h=>?_) (fun z2 h e2' s2 h2a u2 hs2 hn2 fr2=>?_)
   case refine_6=>rw[h] at hrun;exact hret hrun.symm
   case refine_7 =>
    rw[h] at hrun
    simp only at hrun
    have p12:Env.get e2' 12=.int .i64 (i:Nat):=by rw[h2a 12 (by omega)];simp +contextual only[go_sem,↓reduceIte,q12]
    simp (maxSteps:=2000000) +contextual only[go_sem,↓reduceIte,p12,hw]
    refine IH (i+1) _ _ (by omega) ⟨by omega,fun t h1=>?_,?_,fun j h1 h2 h3=>?_,?_,fr2,(zs.set i true,z2),by simp[hz1'],by rw[rrow_len _ _ _ _ _ h];exact hz2',?_,u2,hrun⟩
    ·simp +contextual only[go_sem,↓reduceIte,hne12 t h1]
     rw[h2a t (by omega)]
     simp +contextual only[go_sem,↓reduceIte,hne12 t h1]
     exact hold t h1
    ·simp +contextual only[go_sem,↓reduceIte]
    ·rw[hs2 j (by rw[next_put];omega) h3,kP _ j h2];exact hs j h1 h2 h3
    ·rw[next_put] at hn2;omega
    ·rw[hs2 sb (by rw[next_put];omega) e3,get_put,if_pos rfl]
   all_goals simp +contextual only[go_sem,↓reduceIte,q1,q10,q11,q12]
   all_goals rfl
 ·have hie:i=a.next.length:=by omega
  subst hie
  rw[Nat.sub_self,rround] at hrun
  simp (maxSteps:=2000000) +contextual only[go_sem,↓reduceIte,r53_l3,q7,q12,zA,Nat.lt_irrefl]
  refine hk _ hrun.symm hz1' hz2' _ _ (fun t h1=>?_) qs qn hs hnx fr'
  have hne:∀k:Nat,12≤k→(k=t)=False:=fun k hk=>by simp;omega
  simp +contextual only[go_sem,↓reduceIte,hne]
  exact hold t h1
theorem l53e {ks:List K}{Post:Option AV→Prop}{a:Auto}(ha:a.ok){nb sb:Nat}{z:List Bool×List Bool}(hz1:z.1.length=a.next.length)(hz2:z.2.length=a.next.length)
  {e:Env}{s:St}(g1:Env.get e 1=.ptr 8 0)(g3:Env.get e 3=.sl sb 0 a.next.length (some a.next.length) 1)(g7:Env.get e 7=.sl nb 0 a.next.length (some a.next.length) 1)(g10:Env.get e 10=.int .i64 (1:Nat))
  (gA:s.get 8=some (.cells [.int .i64 a.lines,encS a.nNl (a.next.map zG),encS a.fNl (a.fires.map zC)] 72 false 0 0))(gs:s.get sb=some (.cells (zM z.1) 4 false 0 0))(gn:s.get nb=some (.cells (zM z.2) 4 false 0 0))(hne:nb≠sb)(fr:Fr s)
  (hret:Post (some (.int .i64 (rloop a.fa a.fa.n 1 z:Nat))))
  (hk:rloop a.fa a.fa.n 1 z=0→∀e' s',Post (goN U (finP U [.tmp 2]) ks e' s')) :
  Post (goL U (finP U [.tmp 2]) (.bk 4::ks) r53_l4 e s):=by
 have hfew:=ha.few
 have hn:a.fa.n=a.next.length:=rfl
 rw[hn] at hk hret
 have n8:sb≠8:=fun h=>by subst h;exact zP gs gA (by decide) rfl
 have hl:=zX a.nNl (a.next.map zG)
 rw[List.length_map] at hl
 have m1:=fun (e:Env) (s:St) (ex:Ex) (h:Env.get e 77=.int .i64 ((a.next.length:Nat):Int))=>@opA_mks43 _ ex 77 e s _ h (by omega)
 refine yE (σ:=Nat) (fun d=>a.next.length+1-d) (fun d e' s'=>1≤d∧d≤a.next.length+1∧Env.get e' 1=.ptr 8 0∧Env.get e' 3=.sl sb 0 a.next.length (some a.next.length) 1∧Env.get e' 10=.int .i64 (d:Nat)∧s'.get 8=s.get 8∧Fr s' ∧
   ∃z' nb',z'.1.length=a.next.length∧z'.2.length=a.next.length∧Env.get e' 7=.sl nb' 0 a.next.length (some a.next.length) 1∧s'.get sb=some (.cells (zM z'.1) 4 false 0 0)∧s'.get nb'=some (.cells (zM z'.2) 4 false 0 0)∧nb'≠sb∧rloop a.fa (a.next.length+1-d) d z'=rloop a.fa a.next.length 1 z) 1 ?_
  ⟨Nat.le_refl _,by omega,g1,g3,g10,rfl,fr,z,nb,hz1,hz2,g7,gs,gn,hne,rfl⟩
 rintro Lp d e' s' ⟨hd1,hd0,q1,q3,q10,hs,fr',z',nb',hz1',hz2',q7,qs,qn,hne',hrun⟩ IH
 have uA:=hs.trans gA
 have h8:=fr_lt fr' uA
 have hsb:=fr_lt fr' qs
 have hnb:=fr_lt fr' qn
 by_cases hd:d<a.next.length+1
 ·have hw:=zR hd (by omega)
  have hdd:decide ((d:Int)≤(a.next.length:Int))=true:=by simp;omega
  rw[show a.next.length+1-d=(a.next.length+1-(d+1))+1 by omega,rloop,hn] at hrun
  simp (maxSteps:=2000000) +contextual only[go_sem,↓reduceIte,r53_l4,q1,q3,q7,q10,uA,hl,hdd,m1]
  obtain⟨S,hS⟩:∃S,S=s'.new (.cells (zM (List.replicate a.next.length false)) 4 false 0 0):=⟨_,rfl⟩
  rw[←hS]
  have hSn:S.next=s'.next+1:=by rw[hS,next_new]
  have kS:∀j,j<s'.next→S.get j=s'.get j:=fun j h1=>by rw[hS,get_new,if_neg (by omega)]
  have uS:S.get s'.next=some (.cells (zM (List.replicate a.next.length false)) 4 false 0 0):=by rw[hS,get_new,if_pos rfl]
  have frS:Fr S:=by rw[hS];exact fr'.new _
  refine l53d (Post:=Post) ha (d:=d) (nb:=nb') (sb:=sb) (fb:=s'.next) (now:=z'.2) (z:=(z'.1,List.replicate a.next.length false)) hz2' hz1' (by simp) ?_ ?_ ?_ ?_ ?_ ?_ ((kS 8 h8).trans uA) ((kS nb' hnb).trans qn) ((kS sb hsb).trans qs) uS ⟨hne',by omega,by omega⟩ frS (fun h=>?_) (fun z2 h hy1 hy2 e2 s2 h2a u2 u3 hs2 hn2 fr2=>?_)
  case refine_7 =>
   rw[hn] at h
   rw[h] at hrun
   simp only at hrun
   rw[hrun];exact hret
  case refine_8 =>
   rw[hn] at h
   rw[h] at hrun
   simp only at hrun
   have E2:∀t:Nat,t<11→Env.get e2 t=Env.get e' t:=fun t ht=>by
    rw[h2a t (by omega)]
    have hne:∀k:Nat,11≤k→(k=t)=False:=fun k hk=>by simp;omega
    simp +contextual only[go_sem,↓reduceIte,hne]
   have p1:=(E2 1 (by omega)).trans q1
   have p3:=(E2 3 (by omega)).trans q3
   have p10:=(E2 10 (by omega)).trans q10
   have p11:Env.get e2 11=.sl s'.next 0 a.next.length (some a.next.length) 1:=by rw[h2a 11 (by omega)];simp +contextual only[go_sem,↓reduceIte]
   simp (maxSteps:=2000000) +contextual only[go_sem,↓reduceIte,p10,p11,hw]
   refine IH (d+1) _ _ (by omega) ⟨by omega,by omega,?_,?_,?_,by rw[hs2 8 (by omega) n8.symm (by omega),kS 8 h8];exact hs,fr2,z2,s'.next,hy1,hy2,?_,u2,u3,by omega,hrun⟩
   all_goals simp +contextual only[go_sem,↓reduceIte,p1,p3,p11]
  all_goals simp +contextual only[go_sem,↓reduceIte,q1,q3,q7,q10]
  all_goals rfl
 ·have hde:d=a.next.length+1:=by omega
  subst hde
  have hdd:decide (((a.next.length+1:Nat):Int)≤(a.next.length:Int))=false:=by simp;omega
  rw[Nat.sub_self,rloop] at hrun
  simp (maxSteps:=2000000) +contextual only[go_sem,↓reduceIte,r53_l4,q1,q10,uA,hl,hdd]
  exact hk hrun.symm _ _
theorem diag_true {a:Auto}(ha:a.ok):vsE a a=yC (zQ a.fa a.fa) fun _ _=>true:=by
 have hA:=ha.faok
 have key:∀yQ:Nat→Nat→Bool,(∀s x,s<a.fa.n→x<a.fa.m→yQ (s*a.fa.n+s) x=true)→yC (zQ a.fa a.fa) yQ=(mapT (fun s=>s*a.fa.n+s) (yC a.fa fun _ _=>true).1,(yC a.fa fun _ _=>true).2):=fun yQ h=>by
  refine visAll_map (φ:=fun s=>s*a.fa.n+s) hA (fun u v hu hv h=>?_) rfl ?_ (by simp) fun s x hs hx=>?_
  ·have h1:=pair_div (a:=u) (b:=u) hu
   have h2:=pair_div (a:=v) (b:=v) hv
   rw[h] at h1
   omega
  ·exact Nat.le_mul_of_pos_right _ hA.pos
  ·have h1:=pair_div (a:=s) (b:=s) hs
   have h2:=pair_mod (a:=s) (b:=s) hs
   refine⟨?_,h s x hs hx⟩
   show a.fa.nx ((s*a.fa.n+s) / a.fa.n) x*a.fa.n+a.fa.nx ((s*a.fa.n+s)%a.fa.n) x=_
   rw[h1,h2]
 rw[key (fun _ _=>true) fun _ _ _ _=>rfl,vsE,key (yeq a a) fun s x hs hx=>?_]
 have h1:=pair_div (a:=s) (b:=s) hs
 have h2:=pair_mod (a:=s) (b:=s) hs
 unfold yeq
 rw[h1,h2]
 simp
theorem c53 {a:Auto}(ha:a.ok):calV U 53 [encA a]=some (.int .i64 (spV a:Nat)):=by
 refine yB k53 (by kernel_rfl) (by simp[zS,yH,still]) ?_
 have hfew:=ha.few
 have h120:=c120 ha ha rfl
 have hvs:=diag_true ha
 have hT:zV (vsE a a).1=prodT a a:=by rw[hvs];rfl
 have nn:=zH a.nNl (a.next.map zG)
 have nf:=zH a.fNl (a.fires.map zC)
 have cn:=zD a.nNl (a.next.map zG)
 have cf:=zD a.fNl (a.fires.map zC)
 have nE:=zH true (nats (endS (vsE a a)))
 have cE:=zD true (nats (endS (vsE a a)))
 have hl:=zX a.nNl (a.next.map zG)
 rw[List.length_map] at hl
 have m1:=fun (e:Env) (s:St) (ex:Ex) (h:Env.get e 16=.int .i64 ((a.next.length:Nat):Int))=>@opA_mks43 _ ex 16 e s _ h (by omega)
 have m2:=fun (e:Env) (s:St) (ex:Ex) (h:Env.get e 27=.int .i64 ((a.next.length:Nat):Int))=>@opA_mks43 _ ex 27 e s _ h (by omega)
 unfold spV
 rw[zU a] at h120 ⊢
 unfold encN encFs at h120 ⊢
 simp (maxSteps:=2000000) +contextual only[go_sem,↓reduceIte,r53,nn,nf,cn,cf,hl,m1,m2,h120,nE,cE]
 have hP:=prodI ha ha rfl
 have hPl:=hP.len
 have hnn:a.fa.n*a.fa.n≤256*256:=Nat.mul_le_mul hfew hfew
 have hcl:=codes_len (vsE a a).1
 rw[hT] at hcl
 have hrl:(rnow a.fa (prodT a a) (List.replicate a.fa.n false)).length=a.next.length:=by
  have:=(rnow_spec ha.faok (prodT a a) (List.replicate a.fa.n false) (fun c hc=>Nat.div_lt_of_lt_mul (hP.lt c hc)) (by simp)).1
  exact this
 refine l53b (Post:=fun (o:Option AV)=>o=some (.int .i64 (rloop a.fa a.fa.n 1 (List.replicate a.fa.n false,rnow a.fa (prodT a a) (List.replicate a.fa.n false)):Nat))) ha (T:=(vsE a a).1) (nb:=10) (z:=List.replicate a.next.length false) ?_ (by omega) (by simp) ?_ ?_ ?_ ?_ ?_ ?_ ?_ ?_ fun e2 s2 h2a u2 hs2 hn2 fr2=>?_
 case refine_10 =>
  have p1:Env.get e2 1=.ptr 8 0:=by rw[h2a 1 (by omega)];simp +contextual only[go_sem,↓reduceIte]
  have p3:Env.get e2 3=.sl 9 0 a.next.length (some a.next.length) 1:=by rw[h2a 3 (by omega)];simp +contextual only[go_sem,↓reduceIte]
  have p7:Env.get e2 7=.sl 10 0 a.next.length (some a.next.length) 1:=by rw[h2a 7 (by omega)];simp +contextual only[go_sem,↓reduceIte]
  have v8:=hs2 8 (by simp +contextual only[go_sem,↓reduceIte]) (by omega)
  have v9:=hs2 9 (by simp +contextual only[go_sem,↓reduceIte]) (by omega)
  simp +contextual only[go_sem,↓reduceIte] at v8 v9
  rw[hT] at u2
  simp (maxSteps:=2000000) +contextual only[go_sem,↓reduceIte]
  refine l53e (Post:=fun (o:Option AV)=>o=some (.int .i64 (rloop a.fa a.fa.n 1 (List.replicate a.fa.n false,rnow a.fa (prodT a a) (List.replicate a.fa.n false)):Nat))) ha (nb:=10) (sb:=9) (z:=(List.replicate a.fa.n false,rnow a.fa (prodT a a) (List.replicate a.fa.n false))) (by simp;rfl) hrl ?_ ?_ ?_ ?_ v8 v9 u2 (by omega) fr2 rfl (fun h0 e3 s3=>?_)
  case refine_5 =>
   rw[h0]
   simp (maxSteps:=2000000) +contextual only[go_sem,↓reduceIte]
   rfl
  all_goals simp +contextual only[go_sem,↓reduceIte,p1,p3,p7]
  all_goals rfl
 case refine_1 =>
  rw[hT]
  exact fun c hc=>Nat.div_lt_of_lt_mul (hP.lt c hc)
 case refine_9 =>
  repeat first|exact Fr.own|apply Fr.new|apply Fr.put|apply Fr.upto
 all_goals simp +contextual only[go_sem,↓reduceIte]
 all_goals rfl
theorem shortA_len {a:Auto}{n:Int}(h:shortA a n=true):a.next.length≤2^40∧(∀r∈a.next,r.2.length≤2^40)∧((a.next.length:Int)≤n∨256<a.next.length):=by
 unfold shortA at h
 cases hb:(decide ((a.next.length:Int)>n)&&decide ((a.next.length:Int)≤256))||(decide ((a.next.length:Int)>258)||decide ((a.fires.length:Int)>260)) with
 |true=>rw[hb] at h;cases h
 |false =>
  rw[hb,cond_false,Bool.and_eq_true] at h
  simp only[Bool.or_eq_false_iff,Bool.and_eq_false_iff,decide_eq_false_iff_not] at hb
  refine⟨by omega,fun r hr=>?_,by omega⟩
  have:=shortRows_ok h.1 r hr
  omega
theorem joinF_false:joinF false=fun p q=>p||q:=by
 funext p q;cases p <;> cases q <;> rfl
theorem joinF_true:joinF true=fun p q=>p&&q:=by
 funext p q;cases p <;> cases q <;> rfl
theorem shP_none {a:Auto}:((shP a).length==0)=!(yC a.fa fun s x=>!a.fa.fr s x).2.isSome:=by
 unfold shP endS
 cases (yC a.fa fun s x=>!a.fa.fr s x).2 with
 |none=>rfl
 |some z=>simp
theorem shP_len {a:Auto}(ha:a.ok):(shP a).length≤256:=by
 have h:=visAll_spec ha.faok fun s x=>!a.fa.fr s x
 have hl:=h.inv.len
 have hf:=ha.few
 have hn:a.fa.n=a.next.length:=rfl
 unfold shP endS
 cases e:(yC a.fa fun s x=>!a.fa.fr s x).2 with
 |none=>simp
 |some z =>
  obtain⟨k,x⟩:=z
  obtain⟨_,_,⟨t,ht,_⟩,_⟩:=h.stop k x e
  have:=(List.getElem?_eq_some_iff.1 ht).1
  have:=sigT_len (yC a.fa fun s x=>!a.fa.fr s x).1 k k
  simp only[List.length_append,List.length_singleton]
  omega
theorem listR_err {e:Int}(h:e≠0):listR [] e e []=true:=by
 unfold listR
 have:(e != 0)=true:=by simpa using h
 rw[this];simp
theorem list_sh (a:Auto):listR (nIs (shP a)) (br ((shP a).length==0) 7 0) (br (!(yC a.fa fun s x=>!a.fa.fr s x).2.isSome) 7 0) (nIs (shP a))=true:=by
 rw[←shP_none]
 cases h:(shP a).length==0 with
 |true =>
  have h0:shP a=[]:=by simpa using h
  rw[h0];rfl
 |false =>
  rw[br_false]
  unfold listR
  rw[sameI_refl];rfl
theorem intg_sp (n:Nat):intg (n:Int) (br (n==0) 7 0) (br (((n:Nat):Int)==0) 7 0) (n:Int)=true:=by
 have:(((n:Nat):Int)==0)=(n==0):=by rw[Bool.eq_iff_iff];simp
 rw[this]
 cases h:n==0 with
 |true =>
  have h0:n=0:=by simpa using h
  subst h0;rfl
 |false=>rw[br_false];simp[intg,br]
theorem c7 (aw:calV U 16 []=some (.bool true))(a b:Auto):calV U 7 [encA a,encA b]=some (.bool true):=by
 refine yB k7 (by kernel_rfl) (by simp[zS,yH,still]) ?_
 have nn:=zH a.nNl (a.next.map zG)
 have nf:=zH a.fNl (a.fires.map zC)
 have cn:=zD a.nNl (a.next.map zG)
 have cf:=zD a.fNl (a.fires.map zC)
 have nn':=zH b.nNl (b.next.map zG)
 have nf':=zH b.fNl (b.fires.map zC)
 have cn':=zD b.nNl (b.next.map zG)
 have cf':=zD b.fNl (b.fires.map zC)
 have s1:=c44 a 7
 have s2:=c44 b 7
 cases hsa:shortA a 7 with
 |false =>
  rw[hsa] at s1
  rw[zU a,zU b] at *
  unfold encN encFs at *
  simp (maxSteps:=2000000) +contextual only[go_sem,↓reduceIte,r7,aw,s1,nn,nf,cn,cf,nn',nf',cn',cf']
 |true =>
 rw[hsa] at s1
 cases hsb:shortA b 7 with
 |false =>
  rw[hsb] at s2
  rw[zU a,zU b] at *
  unfold encN encFs at *
  simp (maxSteps:=2000000) +contextual only[go_sem,↓reduceIte,r7,aw,s1,s2,nn,nf,cn,cf,nn',nf',cn',cf']
 |true =>
 rw[hsb] at s2
 obtain⟨la,ra,fa⟩:=shortA_len hsa
 obtain⟨lb,rb,fb⟩:=shortA_len hsb
 have hn49:a.ok→b.ok→a.fa.n*b.fa.n≤7*7:=fun ha hb=>Nat.mul_le_mul (by have:=ha.few;show a.next.length≤7;omega) (by have:=hb.few;show b.next.length≤7;omega)
 have hn:chkTwo a b=0→a.fa.n*b.fa.n≤255:=fun h=>by
  obtain⟨ha,hb,_⟩:=chkTwo_ok h
  have:=hn49 ha hb
  omega
 have q45:=c45 a b la ra lb rb hn
 have q46:=c46 a b la ra lb rb hn
 have q47:=c47 a la ra
 have q48:=c48 a la ra
 have q49:=c49 a b
 have q50:=c50 a
 have zE:encA ⟨0,true,[],true,[]⟩=.agg [.int .i64 0,.nils,.nils]:=rfl
 have zN:encS true (ints [])=.nils:=rfl
 unfold twoA at q45 q46
 unfold shortP at q47
 unfold spaceP at q48
 cases hone:ckA a != 0 with
 |true =>
  have h0:ckA a≠0:=by simpa using hone
  have h2:chkTwo a b=ckA a:=by unfold chkTwo;rw[firstOf,hone,br_true]
  have hb':(ckA a==0)=false:=by simpa[bne] using hone
  rw[h2] at q49
  rw[h2,hone,cond_true,zE] at q45 q46
  rw[hone,cond_true] at q47 q48
  have q43:=c43_bad (ckA a) (ckA a) h0 rfl
  have q36:=c36 true true [] [] (ckA a) (ckA a) (by decide)
  rw[listR_err h0,zN] at q36
  have q54:=c54 0 (ckA a) (ckA a) 0
  have hi:intg 0 (ckA a) (ckA a) 0=true:=by unfold intg;rw[hone,br_true];simp
  rw[hi] at q54
  rw[zE] at q43
  rw[zU a,zU b] at *
  unfold encN encFs at *
  simp (maxSteps:=2000000) +contextual only[go_sem,↓reduceIte,r7,aw,s1,s2,go_drcU d7_0,q45,q46,q47,q48,q49,q50,q43,q36,q54,hb',nn,nf,cn,cf,nn',nf',cn',cf']
 |false =>
  have h0:ckA a=0:=by simpa using hone
  have ha:=Auto.ok_of h0
  have q52:=c52 ha
  have q53:=c53 ha
  rw[hone,cond_false] at q47 q48
  rw[h0] at q50
  have hls:=list_sh a
  have hin:=intg_sp (spV a)
  have q36:=c36 true true (nIs (shP a)) (nIs (shP a)) (br ((shP a).length==0) 7 0) (br (!(yC a.fa fun s x=>!a.fa.fr s x).2.isSome) 7 0) (by rw[nIs_len];have:=shP_len ha;omega)
  rw[hls,show encS true (ints (nIs (shP a)))=encS true (nats (shP a)) from rfl] at q36
  have q54:=c54 (spV a:Nat) (br (spV a==0) 7 0) (br (((spV a:Nat):Int)==0) 7 0) (spV a:Nat)
  rw[hin] at q54
  have q37:=c37 (!(yC a.fa fun s x=>!a.fa.fr s x).2.isSome) 7
  have q37':=c37 (((spV a:Nat):Int)==0) 7
  generalize encS true (nats (shP a))=sg at *
  generalize (yC a.fa fun s x=>!a.fa.fr s x).2.isSome=is at *
  generalize br ((shP a).length==0) 7 0=e3 at *
  generalize br (spV a==0) 7 0=e4 at *
  generalize spV a=sp at *
  cases hbad:chkTwo a b != 0 with
  |true =>
   have h1:chkTwo a b≠0:=by simpa using hbad
   have hb':(chkTwo a b==0)=false:=by simpa[bne] using hbad
   rw[hbad,cond_true,zE] at q45 q46
   have q43:=c43_bad (chkTwo a b) (chkTwo a b) h1 rfl
   rw[zE] at q43
   generalize chkTwo a b=bad at *
   rw[zU a,zU b] at *
   unfold encN encFs at *
   simp (maxSteps:=2000000) +contextual only[go_sem,↓reduceIte,r7,aw,s1,s2,go_drcU d7_0,q45,q46,q47,q48,q49,q50,q52,q53,q37,q37',q43,q36,q54,hb',nn,nf,cn,cf,nn',nf',cn',cf']
  |false =>
   have h1:chkTwo a b=0:=by simpa using hbad
   obtain⟨_,hb,hlb⟩:=chkTwo_ok h1
   have h49:=hn49 ha hb
   have q51:=c51 ha hb hlb false
   have q51':=c51 ha hb hlb true
   have hok:=prodA_ok ha hb hlb (by omega) (joinF false)
   have hok':=prodA_ok ha hb hlb (by omega) (joinF true)
   have q41:=c41 hok
   have q41':=c41 hok'
   have q43:=c43_ok _ _ (c60_min hok)
   have q43':=c43_ok _ _ (c60_min hok')
   rw[h1] at q49
   rw[hbad,cond_false,←joinF_false] at q45
   rw[hbad,cond_false,←joinF_true] at q46
   generalize minAutR (prodA a b (joinF false))=M at *
   generalize minAutR (prodA a b (joinF true))=M' at *
   generalize prodA a b (joinF false)=A at *
   generalize prodA a b (joinF true)=A' at *
   have mn:=zH M.nNl (M.next.map zG)
   have mf:=zH M.fNl (M.fires.map zC)
   have mcn:=zD M.nNl (M.next.map zG)
   have mcf:=zD M.fNl (M.fires.map zC)
   have mn':=zH M'.nNl (M'.next.map zG)
   have mf':=zH M'.fNl (M'.fires.map zC)
   have mcn':=zD M'.nNl (M'.next.map zG)
   have mcf':=zD M'.fNl (M'.fires.map zC)
   rw[zU a] at s1 q45 q46 q47 q48 q49 q50 q51 q51' q52 q53
   rw[zU b] at s2 q45 q46 q49 q51 q51'
   rw[zU a,zU b]
   rw[zU M] at q45 q41 q43
   rw[zU M'] at q46 q41' q43'
   unfold encN encFs at *
   simp (maxSteps:=2000000) +contextual only[go_sem,↓reduceIte,r7,aw,s1,s2,go_drcU d7_0,q45,q46,q47,q48,q49,q50,q51,q51',q41,q41',q52,q53,q37,q37',q43,q43',q36,q54,nn,nf,cn,cf,nn',nf',cn',cf',mn,mf,mcn,mcf,mn',mf',mcn',mcf']
end Go.Am
