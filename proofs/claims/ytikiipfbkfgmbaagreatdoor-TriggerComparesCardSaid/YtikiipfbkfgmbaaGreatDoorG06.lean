/- A part of the proof of a statement of this seat: the machine on which the program is read, and what it computes; for every input. -/
import Derived.Test.YtikiipfbkfgmbaaGreatDoorG05
import Derived.Test.YtikiipfbkfgmbaaGreatDoorG04
set_option linter.all false
namespace Go.Am
open Go
variable [MaxLen]
set_option maxRecDepth 100000
set_option maxHeartbeats 8000000
theorem okR_false {a b:Auto}{C:List Nat}{c x n:Nat}(h:okx a b C c x=false)(hx:x<n):okR a b C c n=false:=by
 unfold okR
 rw[List.all_eq_false]
 exact⟨x,List.mem_range.2 hx,by rw[h];decide⟩
theorem l73c {ks:List K}{Post:Option AV→Prop}{a b:Auto}(ha:a.ok)(hb:b.ok)(hlb:a.lines=b.lines){nl:Bool}{l:List Pr}(hl:l.length≤65536)(hg:∀p∈l,badI a.fa.n b.fa.n p=false){c:Nat}(hc:c<(prodF a.fa b.fa).n)
  {e:Env}{s:St}(h2:Env.get e 2=encS nl (l.map encQ))(h3:Env.get e 3=.ptr 8 0)(h4:Env.get e 4=.ptr 9 0)(h9:Env.get e 9=.int .i64 ((c / b.fa.n:Nat):Int))(h10:Env.get e 10=.int .i64 ((c%b.fa.n:Nat):Int))(h11:Env.get e 11=.int .i64 (0:Nat))
  (gA:s.get 8=some (.cells [.int .i64 a.lines,encS a.nNl (a.next.map encRow),encS a.fNl (a.fires.map encFRow)] 72 false 0 0))(gB:s.get 9=some (.cells [.int .i64 b.lines,encS b.nNl (b.next.map encRow),encS b.fNl (b.fires.map encFRow)] 72 false 0 0))
  (hnx0:10≤s.next)(fr:Fr s)
  (hret:okCd a b (l.map (cdI b.fa.n)) c=false→Post (some (.int .i64 21)))
  (hk:okCd a b (l.map (cdI b.fa.n)) c=true→∀e' s',(∀t:Nat,t<11→t≠6→Env.get e' t=Env.get e t)→(∀j,j<s.next→s'.get j=s.get j)→s.next≤s'.next→Fr s'→Post (goN U (finP U [.tmp 6]) ks e' s')) :
  Post (goL U (finP U [.tmp 6]) (.bk 4::ks) r73_l1 e s):=by
 have hm16:=ha.m16
 have hsh:=bin_shl1 U 3 true .i64 (n:=a.lines) (by have:=ha.lines;omega)
 have hpw:((2:Int)^a.lines.toNat)=((2^a.lines.toNat:Nat):Int):=by simp
 rw[hpw] at hsh
 have hc1:c / b.fa.n<a.next.length:=Nat.div_lt_of_lt_mul (by rw[Nat.mul_comm];exact hc)
 have hc2:c%b.fa.n<b.next.length:=Nat.mod_lt _ hb.pos
 refine loop_ex (σ:=Nat) (fun x=>2^a.lines.toNat-x) (fun x e' s'=>x≤2^a.lines.toNat∧(∀t:Nat,t<11→t≠6→Env.get e' t=Env.get e t)∧Env.get e' 11=.int .i64 (x:Nat)∧okR a b (l.map (cdI b.fa.n)) c x=true∧(∀j,j<s.next→s'.get j=s.get j)∧s.next≤s'.next∧Fr s') 0 ?_
  ⟨Nat.zero_le _,fun _ _ _=>rfl,h11,rfl,fun _ _=>rfl,Nat.le_refl _,fr⟩
 rintro Lp x e' s' ⟨hx0,hold,q11,hok,hs,hnx,fr'⟩ IH
 have q2:=(hold 2 (by omega) (by omega)).trans h2
 have q3:=(hold 3 (by omega) (by omega)).trans h3
 have q4:=(hold 4 (by omega) (by omega)).trans h4
 have q9:=(hold 9 (by omega) (by omega)).trans h9
 have q10:=(hold 10 (by omega) (by omega)).trans h10
 have uA:=(hs 8 (by omega)).trans gA
 have uB:=(hs 9 (by omega)).trans gB
 have hne:∀t:Nat,t<11→∀k:Nat,11≤k→(k=t)=False:=fun t h1 k hk=>by simp;omega
 by_cases hd:x<2^a.lines.toNat
 ·have hw:=wrap_succ hd (by omega)
  have hpn:=pcell_nx hb hlb hc hd
  have n1:=ha.nxAt hc1 hd
  have n2:=hb.nxAt hc2 (by rw[←hlb];exact hd)
  have n3:=ha.frAt hc1 hd
  have n4:=hb.frAt hc2 (by rw[←hlb];exact hd)
  have r1:=ixa_rowI (nl:=a.nNl) hc1
  have r2:=ixa_rowI (nl:=b.nNl) hc2
  have r3:=ixa_rowB (nl:=a.fNl) (l:=a.fires) (i:=c / b.fa.n) (by rw[ha.fl];exact hc1)
  have r4:=ixa_rowB (nl:=b.fNl) (l:=b.fires) (i:=c%b.fa.n) (by rw[hb.fl];exact hc2)
  have hfk:=fr'.at
  have hp:=c144 (nl:=nl) hl (((((prodF a.fa b.fa).nx c x) / b.fa.n:Nat):Int),((((prodF a.fa b.fa).nx c x)%b.fa.n:Nat):Int))
  have hac:=any_code (na:=a.fa.n) (k:=b.fa.n) hb.pos ((prodF a.fa b.fa).nx c x) hg
  rw[hac] at hp
  have hp:calV U 144 [encS nl (l.map encQ),.agg (pcell b.fa.n ((prodF a.fa b.fa).nx c x))]=some (.bool (decide (idxN (l.map (cdI b.fa.n)) ((prodF a.fa b.fa).nx c x)<(l.map (cdI b.fa.n)).length))):=hp
  rw[hpn] at hp
  have hret':okx a b (l.map (cdI b.fa.n)) c x=false→Post (some (.int .i64 21)):=fun h=>hret (okR_false h hd)
  have key:∀(E:Env) (S:St),okx a b (l.map (cdI b.fa.n)) c x=true→(∀t:Nat,t<11→t≠6→Env.get E t=Env.get e' t)→Env.get E 11=.int .i64 ((x+1:Nat):Int)→(∀j,j<s'.next→S.get j=s'.get j)→s'.next≤S.next→Fr S→Post (goL U (finP U [.tmp 6]) (.bk 4::ks) Lp E S):=fun E S k0 k1 k2 k4 k5 k6 =>
   IH (x+1) _ _ (by omega) ⟨by omega,fun t h1 h2=>(k1 t h1 h2).trans (hold t h1 h2),k2,by rw[okR_succ,hok,k0];rfl,fun j hj=>(k4 j (by omega)).trans (hs j hj),by omega,k6⟩
  clear hret hk
  unfold okx at hret' key
  cases hq:(a.fa.fr (c / b.fa.n) x==b.fa.fr (c%b.fa.n) x) with
  |false =>
   rw[hq,Bool.false_and] at hret'
   have hq':(a.fa.fr (c / b.fa.n) x != b.fa.fr (c%b.fa.n) x)=true:=by rw[bne,hq];rfl
   simp (maxSteps:=2000000) +contextual only[go_sem,↓reduceIte,r73_l1,q2,q3,q4,q9,q10,q11,hsh,uA,uB,nat_lt_dec,hd,r1,r2,r3,r4,n1,n2,n3,n4,hfk,bin_neqb,hq']
   exact hret' rfl
  |true =>
   rw[hq,Bool.true_and] at hret' key
   have hq':(a.fa.fr (c / b.fa.n) x != b.fa.fr (c%b.fa.n) x)=false:=by rw[bne,hq];rfl
   cases hz:decide (idxN (l.map (cdI b.fa.n)) ((prodF a.fa b.fa).nx c x)<(l.map (cdI b.fa.n)).length) with
   |false =>
    rw[hz] at hp
    simp (maxSteps:=2000000) +contextual only[go_sem,↓reduceIte,r73_l1,q2,q3,q4,q9,q10,q11,hsh,uA,uB,nat_lt_dec,hd,r1,r2,r3,r4,n1,n2,n3,n4,hfk,bin_neqb,hq',hp]
    exact hret' hz
   |true =>
    rw[hz] at hp
    simp (maxSteps:=2000000) +contextual only[go_sem,↓reduceIte,r73_l1,q2,q3,q4,q9,q10,q11,hsh,uA,uB,nat_lt_dec,hd,hw,r1,r2,r3,r4,n1,n2,n3,n4,hfk,bin_neqb,hq',hp]
    refine key _ _ hz (fun t h1 h2=>?_) ?_ (fun j hj=>?_) ?_ ?_
    ·simp +contextual only[go_sem,↓reduceIte,hne t h1]
    ·simp +contextual only[go_sem,↓reduceIte]
    ·simp only[get_put,get_new,upto_get]
    ·simp only[next_put,next_new,upto_next];omega
    ·exact fr'.upto (by omega)
 ·have hxe:x=2^a.lines.toNat:=by omega
  subst hxe
  simp (maxSteps:=2000000) +contextual only[go_sem,↓reduceIte,r73_l1,q3,q11,uA,hsh,nat_lt_dec,Nat.lt_irrefl]
  refine hk hok _ _ (fun t h1 h2=>?_) hs hnx fr'
  simp +contextual only[go_sem,↓reduceIte,hne t h1]
  exact hold t h1 h2
theorem l73d {ks:List K}{Post:Option AV→Prop}{a b:Auto}(ha:a.ok)(hb:b.ok)(hlb:a.lines=b.lines){nl:Bool}{l:List Pr}(hl:l.length≤65536)(hg:∀p∈l,badI a.fa.n b.fa.n p=false)
  {e:Env}{s:St}(h2:Env.get e 2=encS nl (l.map encQ))(h3:Env.get e 3=.ptr 8 0)(h4:Env.get e 4=.ptr 9 0)(h8:Env.get e 8=.int .i64 (0:Nat))
  (gA:s.get 8=some (.cells [.int .i64 a.lines,encS a.nNl (a.next.map encRow),encS a.fNl (a.fires.map encFRow)] 72 false 0 0))(gB:s.get 9=some (.cells [.int .i64 b.lines,encS b.nNl (b.next.map encRow),encS b.fNl (b.fires.map encFRow)] 72 false 0 0))
  (hnx0:10≤s.next)(fr:Fr s)
  (hret:(l.map (cdI b.fa.n)).all (okCd a b (l.map (cdI b.fa.n)))=false→Post (some (.int .i64 21)))
  (hk:(l.map (cdI b.fa.n)).all (okCd a b (l.map (cdI b.fa.n)))=true→∀e' s',Fr s'→Post (goN U (finP U [.tmp 6]) ks e' s')) :
  Post (goL U (finP U [.tmp 6]) (.bk 2::ks) r73_l2 e s):=by
 have ll:=lenL_encS nl (l.map encQ)
 rw[List.length_map] at ll
 refine loop_ex (σ:=Nat) (fun i=>l.length-i) (fun i e' s'=>i≤l.length∧(∀t:Nat,t<8→t≠6→Env.get e' t=Env.get e t)∧Env.get e' 8=.int .i64 (i:Nat)∧((l.take i).map (cdI b.fa.n)).all (okCd a b (l.map (cdI b.fa.n)))=true∧(∀j,j<s.next→s'.get j=s.get j)∧s.next≤s'.next∧Fr s') 0 ?_
  ⟨Nat.zero_le _,fun _ _ _=>rfl,h8,by simp,fun _ _=>rfl,Nat.le_refl _,fr⟩
 rintro Lp i e' s' ⟨hi0,hold,q8,hok,hs,hnx,fr'⟩ IH
 have q2:=(hold 2 (by omega) (by omega)).trans h2
 have q3:=(hold 3 (by omega) (by omega)).trans h3
 have q4:=(hold 4 (by omega) (by omega)).trans h4
 have uA:=(hs 8 (by omega)).trans gA
 have uB:=(hs 9 (by omega)).trans gB
 have hne:∀t:Nat,t<8→∀k:Nat,8≤k→(k=t)=False:=fun t h1 k hk=>by simp;omega
 by_cases hd:i<l.length
 ·have hw:=wrap_succ hd (by omega)
  have ix:=ixa_encQ (nl:=nl) hd
  have hgi:=hg l[i] (List.getElem_mem hd)
  have hc:=cd_lt hgi
  have hcell:=cd_cell hgi
  unfold pcell at hcell
  simp only[List.cons.injEq,AV.int.injEq,true_and,and_true] at hcell
  obtain⟨hcell1,hcell2⟩:=hcell
  have hfk:=fr'.at
  have htk:((l.take (i+1)).map (cdI b.fa.n)).all (okCd a b (l.map (cdI b.fa.n)))=(((l.take i).map (cdI b.fa.n)).all (okCd a b (l.map (cdI b.fa.n)))&&okCd a b (l.map (cdI b.fa.n)) (cdI b.fa.n l[i])):=by
   rw[List.take_succ_eq_append_getElem hd,List.map_append,List.all_append]
   simp
  rw[hok,Bool.true_and] at htk
  have hall:okCd a b (l.map (cdI b.fa.n)) (cdI b.fa.n l[i])=false→Post (some (.int .i64 21)):=fun h=>hret (by
   rw[List.all_eq_false]
   exact⟨_,List.mem_map.2 ⟨l[i],List.getElem_mem hd,rfl⟩,by rw[h];decide⟩)
  simp (maxSteps:=2000000) +contextual only[go_sem,↓reduceIte,r73_l2,q2,q8,ll,nat_lt_dec,hd,ix,hfk]
  refine l73c (Post:=Post) ha hb hlb (nl:=nl) hl hg (c:=cdI b.fa.n l[i]) hc ?_ ?_ ?_ ?_ ?_ ?_ ?_ ?_ ?_ ?_ hall ?_
  case refine_11 =>
   intro hok2 e2 s2 E2 hs2 hn2 fr2
   have E8:Env.get e2 8=.int .i64 (i:Nat):=by
    rw[E2 8 (by omega) (by omega)]
    simp +contextual only[go_sem,↓reduceIte,q8]
   simp (maxSteps:=2000000) +contextual only[go_sem,↓reduceIte,E8,hw]
   rw[upto_next] at hn2
   refine IH (i+1) _ _ (by omega) ⟨by omega,fun t h1 h2=>?_,?_,by rw[htk];exact hok2,fun j h1=>?_,by omega,fr2⟩
   ·simp +contextual only[go_sem,↓reduceIte,hne t h1]
    rw[E2 t (by omega) h2]
    simp +contextual only[go_sem,↓reduceIte,hne t h1]
    exact hold t h1 h2
   ·simp +contextual only[go_sem,↓reduceIte]
   ·rw[hs2 j (by rw[upto_next];omega),upto_get,hs j h1]
  case refine_7=>rw[upto_get];exact uA
  case refine_8=>rw[upto_get];exact uB
  case refine_9=>rw[upto_next];omega
  case refine_10=>exact fr'.upto (by omega)
  all_goals simp +contextual only[go_sem,↓reduceIte,q2,q3,q4,hcell1,hcell2]
  all_goals rfl
 ·have hie:i=l.length:=by omega
  subst hie
  rw[List.take_length] at hok
  simp (maxSteps:=2000000) +contextual only[go_sem,↓reduceIte,r73_l2,q2,q8,ll,nat_lt_dec,Nat.lt_irrefl]
  exact hk hok _ _ fr'
theorem c73 {a b:Auto}(ha:a.ok)(hb:b.ok)(hlb:a.lines=b.lines){nl:Bool}{l:List Pr}(hl:l.length≤65536):calV U 73 [encA a,encA b,encS nl (l.map encQ)]=some (.int .i64 (ckQ a b l)):=by
 refine pure_go k73 (by kernel_rfl) (by simp[stills,still_encA,still_encS,still]) ?_
 have nn:=noAgg_encS a.nNl (a.next.map encRow)
 have nf:=noAgg_encS a.fNl (a.fires.map encFRow)
 have cn:=cells_encS a.nNl (a.next.map encRow)
 have cf:=cells_encS a.fNl (a.fires.map encFRow)
 have nn':=noAgg_encS b.nNl (b.next.map encRow)
 have nf':=noAgg_encS b.fNl (b.fires.map encFRow)
 have cn':=cells_encS b.nNl (b.next.map encRow)
 have cf':=cells_encS b.fNl (b.fires.map encFRow)
 have ll:=lenL_encS nl (l.map encQ)
 rw[List.length_map] at ll
 have d5:decide (((l.length:Nat):Int)>65536)=false:=decide_eq_false (by omega)
 have hp:=c144 (nl:=nl) hl (0,0)
 rw[show encQ (0,0)=.agg [.int .i64 0,.int .i64 0] from rfl] at hp
 rw[encA_eq a,encA_eq b]
 unfold encN encFs
 simp (maxSteps:=2000000) +contextual only[go_sem,↓reduceIte,r73,nn,nf,cn,cf,nn',nf',cn',cf',ll,d5]
 refine l73a (Post:=fun (o:Option AV)=>o=some (.int .i64 (ckQ a b l))) (nl:=nl) (l:=l) (na:=a.fa.n) (k:=b.fa.n) (la:=a.lines) (lb:=b.lines) (nla:=a.nNl) (nlb:=b.nNl) (ra:=a.next.map encRow) (rb:=b.next.map encRow) (fa:=encS a.fNl (a.fires.map encFRow)) (fb:=encS b.fNl (b.fires.map encFRow)) (Nat.le_trans ha.few (by decide)) (Nat.le_trans hb.few (by decide)) hl ?_ ?_ ?_ ?_ ?_ ?_ ?_ ?_ ?_ ?_ ?_ ?_
 case refine_11 =>
  intro hs
  have:(scanI a.fa.n b.fa.n none l != 0)=true:=by simpa using hs
  rw[ckQ,this,cond_true]
 case refine_12 =>
  intro hs hpre e' s' E hs' hn' fr'
  have hs0:(scanI a.fa.n b.fa.n none l != 0)=false:=by simpa using hs
  have hgood:∀p∈l,badI a.fa.n b.fa.n p=false:=by have:=hpre.good;rwa [List.take_length] at this
  have e2:Env.get e' 2=encS nl (l.map encQ):=by rw[E 2 (by omega) (by omega)];simp +contextual only[go_sem,↓reduceIte]
  have e3:Env.get e' 3=.ptr 8 0:=by rw[E 3 (by omega) (by omega)];simp +contextual only[go_sem,↓reduceIte]
  have e4:Env.get e' 4=.ptr 9 0:=by rw[E 4 (by omega) (by omega)];simp +contextual only[go_sem,↓reduceIte]
  have uA:=hs' 8 (by simp +contextual only[go_sem,↓reduceIte])
  have uB:=hs' 9 (by simp +contextual only[go_sem,↓reduceIte])
  rw[hd0_any hpre] at hp
  rw[ckQ,hs0,cond_false,prv]
  cases hh:hd0 l with
  |false =>
   rw[hh] at hp
   simp (maxSteps:=2000000) +contextual only[go_sem,↓reduceIte,e2,hp]
  |true =>
   rw[hh] at hp
   simp (maxSteps:=2000000) +contextual only[go_sem,↓reduceIte,e2,hp]
   refine l73d (Post:=fun (o:Option AV)=>o=some (.int .i64 (br (!(true&&(l.map (cdI b.fa.n)).all (okCd a b (l.map (cdI b.fa.n))))) 21 0))) ha hb hlb (nl:=nl) hl hgood ?_ ?_ ?_ ?_ ?_ ?_ ?_ fr' ?_ ?_
   case refine_8=>intro h;rw[h];rfl
   case refine_9 =>
    intro h e2 s2 fr2
    rw[h]
    simp (maxSteps:=2000000) +contextual only[go_sem,↓reduceIte]
   case refine_5=>rw[uA];simp +contextual only[go_sem,↓reduceIte]
   case refine_6=>rw[uB];simp +contextual only[go_sem,↓reduceIte]
   case refine_7=>simp +contextual only[go_sem,↓reduceIte] at hn';omega
   all_goals simp +contextual only[go_sem,↓reduceIte,e2,e3,e4]
   all_goals rfl
 case refine_7=>rw[List.length_map];rfl
 case refine_8=>rw[List.length_map];rfl
 case refine_10 =>
  repeat first|exact Fr.own|apply Fr.new|apply Fr.put|apply Fr.upto
  all_goals simp +contextual only[go_sem,↓reduceIte]
 all_goals simp +contextual only[go_sem,↓reduceIte]
 all_goals first|rfl|omega
theorem abv_code {k c d:Nat}(hk:0<k):abvI (((c / k:Nat):Int),((c%k:Nat):Int)) (((d / k:Nat):Int),((d%k:Nat):Int))=decide (d<c):=by
 have g:∀(N q r:Nat),q<N→r<k→badI N k ((q:Int),(r:Int))=false:=fun N q r h1 h2=>by
  rw[bad_iff]
  simp only
  omega
 have e:∀x:Nat,cdI k (((x / k:Nat):Int),((x%k:Nat):Int))=x:=fun x=>by
  obtain⟨p,q,h1,h2,h3,h4⟩:=cd_nat (g (x / k+1) (x / k) (x%k) (Nat.lt_succ_self _) (Nat.mod_lt x hk))
  rw[h4]
  have h5:=congrArg Prod.fst h1
  have h6:=congrArg Prod.snd h1
  simp only at h5 h6
  have h5:x / k=p:=Int.ofNat.inj h5
  have h6:x%k=q:=Int.ofNat.inj h6
  rw[←h5,←h6,Nat.mul_comm]
  exact Nat.div_add_mod x k
 have g1:=g (c / k+d / k+1) (c / k) (c%k) (Nat.lt_succ_of_le (Nat.le_add_right _ _)) (Nat.mod_lt c hk)
 have g2:=g (c / k+d / k+1) (d / k) (d%k) (Nat.lt_succ_of_le (Nat.le_add_left _ _)) (Nat.mod_lt d hk)
 have:=cd_abv g1 g2
 rw[e,e] at this
 rw[Bool.eq_iff_iff,this,decide_eq_true_eq]
theorem l72a {β:Type}{fin:Fl→β}{ks:List K}{Post:β→Prop}{k n b i:Nat}{cap:Option Nat}{L:List Nat}(hk0:0<k)(hL:L.length=n)(hi:i<n)(hn:n≤2^20)
  {e:Env}{s:St}(g9:Env.get e 9=.sl b 0 n cap 2)(g11:Env.get e 11=.int .i64 (i:Nat))(gb:s.get b=some (.cells (pcs k L) 116 false 0 0))(hb:b<s.next)(fr:Fr s)
  (hk:∀e' s',(∀t:Nat,t<43→t≠11→Env.get e' t=Env.get e t)→SrtR k b s (bub i L) s'→Post (goN U fin ks e' s')) :
  Post (goL U fin (.bk 2::ks) r72_l0 e s):=by
 refine loop_ex (σ:=Nat) (fun j=>j) (fun j e' s'=>j<n∧(∀t:Nat,t<43→t≠11→Env.get e' t=Env.get e t)∧Env.get e' 11=.int .i64 (j:Nat) ∧
   ∃L',L'.length=n∧SrtR k b s L' s'∧bub j L'=bub i L) i ?_
  ⟨hi,fun _ _ _=>rfl,g11,L,hL,⟨gb,fun _ _ _=>rfl,Nat.le_refl _,fr⟩,rfl⟩
 rintro Lp j e' s' ⟨hj,hold,q11,L',hL',⟨qb,hs,hnx,fr'⟩,hrun⟩ IH
 have q9:=(hold 9 (by omega) (by omega)).trans g9
 have hne:∀t:Nat,t<43→∀k:Nat,43≤k→(k=t)=False:=fun t h1 k hk=>by simp;omega
 have hfk:=fr'.at
 cases j with
 |zero =>
  rw[bub] at hrun
  subst hrun
  have d0:decide (((0:Nat):Int)>0)=false:=rfl
  simp (maxSteps:=2000000) +contextual only[go_sem,↓reduceIte,r72_l0,q9,q11,d0,hfk]
  refine hk _ _ (fun t h1 h2=>?_) ⟨?_,fun i h1 h2=>?_,?_,?_⟩
  ·simp +contextual only[go_sem,↓reduceIte,hne t h1]
   exact hold t h1 h2
  ·rw[upto_get];exact qb
  ·rw[upto_get];exact hs i h1 h2
  ·rw[upto_next];omega
  ·exact fr'.upto (by omega)
 |succ j =>
  have d0:decide (((j+1:Nat):Int)>0)=true:=decide_eq_true (by omega)
  have w1:IntKind.i64.wrap (((j+1:Nat):Int)-1)=((j:Nat):Int):=wrap_pred (j:=j) (by omega)
  have r1:=pcs_grab k L' (j+1) (by omega)
  have r2:=pcs_grab k L' j (by omega)
  unfold pcell at r1 r2
  have c1:=c143 (((L'[j] / k:Nat):Int),((L'[j]%k:Nat):Int)) (((L'[j+1] / k:Nat):Int),((L'[j+1]%k:Nat):Int))
  rw[abv_code hk0] at c1
  unfold encQ at c1
  simp only at c1
  have hj1:j+1<n:=hj
  have hj0:j<n:=by omega
  have b1:gt L' (j+1)=L'[j+1]:=gt_get (by omega)
  have b2:gt L' j=L'[j]:=gt_get (by omega)
  rw[bub,b1,b2] at hrun
  have y1:=pcs_set k L' (j+1) L'[j] (by omega)
  have y2:=pcs_set k (L'.set (j+1) L'[j]) j L'[j+1] (by simp;omega)
  unfold pcell at y1 y2
  cases hd:decide (L'[j+1]<L'[j]) with
  |true =>
   rw[hd] at c1 hrun
   rw[cond_true] at hrun
   simp (maxSteps:=2000000) +contextual only[go_sem,↓reduceIte,r72_l0,q9,q11,d0,qb,w1,r1,r2,c1,hj1,hj0,Nat.zero_add,y1,y2,hfk]
   refine IH j _ _ (by omega) ⟨by omega,fun t h1 h2=>?_,?_,(L'.set (j+1) L'[j]).set j L'[j+1],by simp[hL'],⟨?_,fun i h1 h2=>?_,?_,?_⟩,hrun⟩
   ·have n11:(11=t)=False:=by simp;omega
    simp +contextual only[go_sem,↓reduceIte,hne t h1,n11]
    exact hold t h1 h2
   ·simp +contextual only[go_sem,↓reduceIte]
   ·rw[get_put,if_pos rfl]
   ·rw[get_put,if_neg h2.symm,get_put,if_neg h2.symm,upto_get,upto_get];exact hs i h1 h2
   ·simp only[next_put,upto_next];omega
   ·repeat first|exact fr'|apply Fr.new|apply Fr.put|apply Fr.upto
    all_goals try simp only[next_put,next_new,upto_next]
    all_goals omega
  |false =>
   rw[hd] at c1 hrun
   rw[cond_false] at hrun
   simp (maxSteps:=2000000) +contextual only[go_sem,↓reduceIte,r72_l0,q9,q11,d0,qb,w1,r1,r2,c1,hj1,hj0,Nat.zero_add,hfk]
   subst hrun
   refine hk _ _ (fun t h1 h2=>?_) ⟨?_,fun i h1 h2=>?_,?_,?_⟩
   ·simp +contextual only[go_sem,↓reduceIte,hne t h1]
    exact hold t h1 h2
   ·rw[upto_get];exact qb
   ·rw[upto_get];exact hs i h1 h2
   ·rw[upto_next];omega
   ·exact fr'.upto (by omega)
theorem c71 {a b:Auto}(ha:a.ok)(hb:b.ok)(hlb:a.lines=b.lines):calV U 71 [encA a,encA b]=some (.tup [encS true (nats (endS (vsE a b))),.bool (vsE a b).2.isSome]):=by
 refine pure_go k71 (by kernel_rfl) (by simp[stills,still_encA,still]) ?_
 have h:=c120 ha hb hlb
 have nn:=noAgg_encS a.nNl (a.next.map encRow)
 have nf:=noAgg_encS a.fNl (a.fires.map encFRow)
 have cn:=cells_encS a.nNl (a.next.map encRow)
 have cf:=cells_encS a.fNl (a.fires.map encFRow)
 have nn':=noAgg_encS b.nNl (b.next.map encRow)
 have nf':=noAgg_encS b.fNl (b.fires.map encFRow)
 have cn':=cells_encS b.nNl (b.next.map encRow)
 have cf':=cells_encS b.fNl (b.fires.map encFRow)
 have nE:=noAgg_encS true (nats (endS (vsE a b)))
 have cE:=cells_encS true (nats (endS (vsE a b)))
 rw[encA_eq a,encA_eq b] at h ⊢
 unfold encN encFs at h ⊢
 simp (maxSteps:=2000000) +contextual only[go_sem,↓reduceIte,r71,nn,nf,cn,cf,nn',nf',cn',cf',h,nE,cE,frz_encS,frz_tup]
theorem ents_ix {k:Nat}{T:List Trip}{i c:Nat}(h:(codes T)[i]? = some c):ixRA 3 (.fz (ents k T)) (.int .i64 (i:Int))=some (.fp [.int .i64 ((c / k:Nat):Int),.int .i64 ((c%k:Nat):Int),encS true (nats (sigT T i i))] 0):=by
 have hi:i<T.length:=by
  have:=(List.getElem?_eq_some_iff.1 h).1
  rwa [codes_len] at this
 have hc:gt (codes T) i=c:=by
  rw[gt_get (by rw[codes_len];exact hi)]
  rw[List.getElem?_eq_getElem (by rw[codes_len];exact hi)] at h
  exact Option.some.inj h
 have hg:(ents k T)[i]? = some (.agg [.int .i64 ((c / k:Nat):Int),.int .i64 ((c%k:Nat):Int),encS true (nats (sigT T i i))]):=by
  unfold ents
  rw[List.getElem?_map,List.getElem?_range hi,Option.map_some,hc]
 have hl:(AV.agg [.int .i64 ((c / k:Nat):Int),.int .i64 ((c%k:Nat):Int),encS true (nats (sigT T i i))]).cells=[.int .i64 ((c / k:Nat):Int),.int .i64 ((c%k:Nat):Int),encS true (nats (sigT T i i))]:=by
  have:=cells_encS true (nats (sigT T i i))
  simp[AV.cells,this]
 have:=ixa_encS 3 false (ents k T) .i64 i _ (by omega) (by rw[Int.toNat_natCast];exact hg) (by rw[hl];rfl) (by decide)
 rw[encS_fz,hl] at this
 exact this
theorem ents_len (k:Nat)(T:List Trip):(ents k T).length=T.length:=by simp[ents]
theorem bub_end {L:List Nat}{c:Nat}(hs:L.Pairwise (·≤·)):(bub L.length (L++[c])).Perm (L++[c])∧(bub L.length (L++[c])).Pairwise (·≤·):=by
 obtain⟨A2,h1,h2,h3⟩:=bub_spec L.length L [] c rfl hs
 rw[List.append_nil] at h1
 rw[h1]
 exact⟨h2,h3⟩
theorem l72b {ks:List K}{Post:Option AV→Prop}{k:Nat}{T:List Trip}(hk0:0<k)(hT:T.length≤2^20)
  {e:Env}{s:St}(g6:Env.get e 6=.fz (ents k T))(g9:Env.get e 9=.nils)(g10:Env.get e 10=.int .i64 (0:Nat))(fr:Fr s)
  (hk:∀e' s' v,Env.get e' 9=v→RowI s' s.next 116 2 T.length (pcs k (sortL (codes T))) v→Fr s'→Post (goN U (finP U [.tmp 4,.tmp 5]) ks e' s')) :
  Post (goL U (finP U [.tmp 4,.tmp 5]) (.bk 0::ks) r72_l1 e s):=by
 have hel:=ents_len k T
 have ll:=lenL_encS false (ents k T)
 rw[encS_fz,hel] at ll
 refine loop_ex (σ:=Nat) (fun i=>T.length-i) (fun i e' s'=>i≤T.length∧Env.get e' 6=.fz (ents k T)∧Env.get e' 10=.int .i64 (i:Nat)∧(∀j,j<s.next→s'.get j=s.get j)∧s.next≤s'.next∧Fr s' ∧
   ∃v L,Env.get e' 9=v∧RowI s' s.next 116 2 i (pcs k L) v∧L.Perm ((codes T).take i)∧L.Pairwise (·≤·)) 0 ?_
  ⟨Nat.zero_le _,g6,g10,fun _ _=>rfl,Nat.le_refl _,fr,.nils,[],g9,RowI.nil _ _ _ _,List.Perm.refl _,List.Pairwise.nil⟩
 rintro Lp i e' s' ⟨hi,q6,q10,hs,hnx,fr',v,L,q9,hv,hp,hso⟩ IH
 have hLl:L.length=i:=by
  have:=hp.length_eq
  rw[List.length_take,codes_len] at this
  omega
 by_cases hd:i<T.length
 ·have hw:=wrap_succ hd (by omega)
  have hcl:i<(codes T).length:=by rw[codes_len];exact hd
  have hcx:(codes T)[i]? = some (codes T)[i]:=List.getElem?_eq_getElem hcl
  have ei:=ents_ix (k:=k) hcx
  have hpt:(L++[(codes T)[i]]).Perm ((codes T).take (i+1)):=by
   rw[List.take_succ_eq_append_getElem hcl]
   exact hp.append_right _
  generalize (codes T)[i]=c at *
  have hfk:=fr'.at
  have hl:=hv.lenA
  have hb1:(i+1)*16≤1099511627776:=by omega
  have hb2:i+1≤1099511627776:=by omega
  simp (maxSteps:=2000000) +contextual only[go_sem,↓reduceIte,r72_l1,q6,q9,q10,ll,nat_lt_dec,hd,ei,hl,hfk,Nat.mul_one,Nat.one_mul,appK_some,Nat.reducePow,hb1,hb2,Nat.zero_add]
  obtain⟨S2,hS2⟩:∃S2,S2=(s'.upto (s'.next+15)).put (s'.next+12) (.cells [.int .i64 ((c / k:Nat):Int),.int .i64 ((c%k:Nat):Int)] 116 false 0 0):=⟨_,rfl⟩
  rw[←hS2]
  have hSn:S2.next=s'.next+15:=by rw[hS2,next_put,upto_next]
  have kS:∀j,j<s'.next→S2.get j=s'.get j:=fun j h=>by rw[hS2,get_put,if_neg (by omega),upto_get]
  have frS:Fr S2:=by rw[hS2];exact (fr'.upto (by omega)).put (by rw[upto_next];omega) _
  have hv2:RowI S2 s.next 116 2 i (pcs k L) v:=by
   rcases hv with h|⟨a0,a1,b,a2,a3,a4,a5⟩
   ·exact .inl h
   ·exact .inr ⟨a0,a1,b,a2,by omega,a4,by rw[kS b a3];exact a5⟩
  obtain⟨s4,d1,d2,d3,d4,d5⟩:=hv2.app2 (by omega) (m:=1) (new:=[.int .i64 ((c / k:Nat):Int),.int .i64 ((c%k:Nat):Int)]) (by omega) rfl rfl
  rw[←pcs_app] at d3
  obtain⟨_,_,b4,hb4,hb5,hb6,gb4⟩:(i+1≠0)∧((pcs k (L++[c])).length=(i+1)*2)∧∃b4,s.next≤b4∧b4<s4.next∧b4=S2.next∧s4.get b4=some (.cells (pcs k (L++[c])) 116 false 0 0):=by
   rcases d3 with⟨h,_⟩|⟨a0,a1,b,a2,a3,a4,a5⟩
   ·omega
   ·cases a4
    exact⟨by omega,a1,_,a2,a3,rfl,a5⟩
  rw[d1]
  have wp:IntKind.i64.wrap (((i+1:Nat):Int)-1)=((i:Nat):Int):=wrap_pred (j:=i) (by omega)
  simp (maxSteps:=2000000) +contextual only[go_sem,↓reduceIte,wp]
  subst hb6
  refine l72a (Post:=Post) (k:=k) (n:=i+1) (b:=S2.next) (i:=i) (cap:=none) (L:=L++[c]) hk0 (by simp[hLl]) (by omega) (by omega) ?_ ?_ gb4 hb5 (d5 frS) ?_
  case refine_3 =>
   intro e2 s2 E2 hR
   obtain⟨r1,r2,r3,r4⟩:=hR
   have E10:Env.get e2 10=.int .i64 (i:Nat):=by
    rw[E2 10 (by omega) (by omega)]
    simp +contextual only[go_sem,↓reduceIte,q10]
   have E6:Env.get e2 6=.fz (ents k T):=by
    rw[E2 6 (by omega) (by omega)]
    simp +contextual only[go_sem,↓reduceIte,q6]
   have E9:Env.get e2 9=.sl S2.next 0 (i+1) none 2:=by
    rw[E2 9 (by omega) (by omega)]
    simp +contextual only[go_sem,↓reduceIte]
   have hbe:=bub_end (c:=c) hso
   rw[hLl] at hbe
   simp (maxSteps:=2000000) +contextual only[go_sem,↓reduceIte,E10,hw]
   refine IH (i+1) _ _ (by omega) ⟨by omega,?_,?_,fun j h1=>?_,by omega,r4,.sl S2.next 0 (i+1) none 2,bub i (L++[c]),?_,?_,hbe.1.trans hpt,hbe.2⟩
   ·simp +contextual only[go_sem,↓reduceIte,E6]
   ·simp +contextual only[go_sem,↓reduceIte]
   ·rw[r2 j (by omega) (by omega),d4 j (by omega) (hv2.far (.inr h1)),kS j (by omega),hs j h1]
   ·simp +contextual only[go_sem,↓reduceIte,E9]
   ·exact .inr ⟨by omega,by rw[pcs_len,bub_len];simp[hLl],S2.next,by omega,by omega,rfl,r1⟩
  all_goals simp +contextual only[go_sem,↓reduceIte]
 ·have hie:i=T.length:=by omega
  subst hie
  simp (maxSteps:=2000000) +contextual only[go_sem,↓reduceIte,r72_l1,q6,q10,ll,nat_lt_dec,Nat.lt_irrefl]
  rw[List.take_of_length_le (by rw[codes_len];exact Nat.le_refl _)] at hp
  have:=sorted_unique hp hso
  subst this
  exact hk _ _ v (by simp +contextual only[go_sem,↓reduceIte,q9]) hv fr'
theorem shortA_len {a:Auto}{n:Int}(h:shortA a n=true):a.next.length≤2^40∧(∀r∈a.next,r.2.length≤2^40)∧((a.next.length:Int)≤n∨256<a.next.length):=by
 unfold shortA at h
 cases hb:(decide ((a.next.length:Int)>n)&&decide ((a.next.length:Int)≤256))||(decide ((a.next.length:Int)>258)||decide ((a.fires.length:Int)>260)) with
 |true=>rw[hb] at h;cases h
 |false =>
  rw[hb,cond_false,Bool.and_eq_true] at h
  simp only[Bool.or_eq_false_iff,Bool.and_eq_false_iff,decide_eq_false_iff_not] at hb
  refine⟨by omega,fun r hr=>?_,by omega⟩
  have:=shortRows_ok h.1 r hr
  omega
theorem listR_err {e:Int}(h:e≠0):listR [] e e []=true:=by
 unfold listR
 have:(e != 0)=true:=by simpa using h
 rw[this];simp
theorem visRow_none {nx:Nat→Nat}{y:Nat→Bool}{i:Nat}:∀(r x:Nat) (T T':List Trip),visRow nx y i r x T=(T',none)→visRow nx (fun _=>true) i r x T=(T',none)
 |0,_,_,_,h=>h
 |r+1,x,T,T',h=>by
  rw[visRow] at h ⊢
  cases hy:y x with
  |false=>rw[hy,cond_false] at h;cases h
  |true =>
   rw[hy,cond_true] at h
   rw[cond_true]
   exact visRow_none r _ _ _ h
theorem visT_none {A:Fa}{y:Nat→Nat→Bool}:∀(f i:Nat) (T T':List Trip),visT A y f i T=(T',none)→visT A (fun _ _=>true) f i T=(T',none)
 |0,_,_,_,h=>h
 |f+1,i,T,T',h=>by
  rw[visT] at h ⊢
  cases ht:T[i]? with
  |none=>rw[ht] at h;exact h
  |some t =>
   rw[ht] at h
   simp only at h ⊢
   cases hr:visRow (A.nx t.1) (y t.1) i A.m 0 T with
   |mk T1 o =>
    rw[hr] at h
    cases o with
    |some x=>simp at h
    |none =>
     rw[visRow_none _ _ _ _ hr]
     exact visT_none f _ _ _ h
theorem vsE_none {a b:Auto}(h:(vsE a b).2=none):codes (vsE a b).1=prodT a b:=by
 have:vsE a b=((vsE a b).1,none):=by rw[←h]
 have:=visT_none _ _ _ _ this
 unfold prodT visAll
 rw[this]
theorem endS_zero {r:List Trip×Option (Nat×Nat)}:((endS r).length==0)=!r.2.isSome:=by
 unfold endS
 cases r.2 with
 |none=>rfl
 |some z=>simp
theorem endS_len {a b:Auto}(ha:a.ok)(hb:b.ok)(hlb:a.lines=b.lines):(endS (vsE a b)).length≤a.fa.n*b.fa.n:=by
 have h:=visAll_spec (prodF_okA ha hb hlb) (yeq a b)
 have hl:=h.inv.len
 have hn:(prodF a.fa b.fa).n=a.fa.n*b.fa.n:=rfl
 have hv:vsE a b=visAll (prodF a.fa b.fa) (yeq a b):=rfl
 rw[hv]
 unfold endS
 cases e:(visAll (prodF a.fa b.fa) (yeq a b)).2 with
 |none=>simp
 |some z =>
  obtain⟨k,x⟩:=z
  obtain⟨_,_,⟨t,ht,_⟩,_⟩:=h.stop k x e
  have:=(List.getElem?_eq_some_iff.1 ht).1
  have:=sigT_len (visAll (prodF a.fa b.fa) (yeq a b)).1 k k
  simp only[List.length_append,List.length_singleton]
  omega
theorem list_ds (a b:Auto):listR (nIs (endS (vsE a b))) (br ((endS (vsE a b)).length==0) 7 0) (br (!(vsE a b).2.isSome) 7 0) (nIs (endS (vsE a b)))=true:=by
 rw[←endS_zero]
 cases h:(endS (vsE a b)).length==0 with
 |true =>
  have h0:endS (vsE a b)=[]:=by simpa using h
  rw[h0];rfl
 |false =>
  rw[br_false]
  unfold listR
  rw[sameI_refl];rfl
def refR (a b:Auto):AV:=bif (vsE a b).2.isSome then .tup [.nils,.bool false] else .tup [.fz (prs b.fa.n (sortL (prodT a b))),.bool true]
theorem prs_len (k:Nat)(L:List Nat):(prs k L).length=L.length:=by simp[prs]
theorem ixa_prs {k:Nat}{L:List Nat}{i:Nat}(h:i<L.length):ixRA 2 (.fz (prs k L)) (.int .i64 (i:Int))=some (.fp [.int .i64 ((L[i] / k:Nat):Int),.int .i64 ((L[i]%k:Nat):Int)] 0):=by
 have:=ixa_encS 2 false (prs k L) .i64 i (.agg (pcell k L[i])) (by omega) (by simp[prs,h]) rfl (by decide)
 rw[encS_fz] at this
 exact this
theorem c72 {a b:Auto}(ha:a.ok)(hb:b.ok)(hlb:a.lines=b.lines):calV U 72 [encA a,encA b]=some (refR a b):=by
 refine pure_go k72 (by kernel_rfl) (by simp[stills,still_encA,still]) ?_
 have h120:=c120 ha hb hlb
 have nn:=noAgg_encS a.nNl (a.next.map encRow)
 have nf:=noAgg_encS a.fNl (a.fires.map encFRow)
 have cn:=cells_encS a.nNl (a.next.map encRow)
 have cf:=cells_encS a.fNl (a.fires.map encFRow)
 have nn':=noAgg_encS b.nNl (b.next.map encRow)
 have nf':=noAgg_encS b.fNl (b.fires.map encFRow)
 have cn':=cells_encS b.nNl (b.next.map encRow)
 have cf':=cells_encS b.fNl (b.fires.map encFRow)
 have hT:(vsE a b).1.length≤2^20:=by
  have h:=(visAll_spec (prodF_okA ha hb hlb) (yeq a b)).inv.len
  have hn:(prodF a.fa b.fa).n≤512*512:=Nat.mul_le_mul ha.few hb.few
  exact Nat.le_trans h (by omega)
 unfold refR
 rw[encA_eq a,encA_eq b] at h120 ⊢
 unfold encN encFs at h120 ⊢
 cases hs:(vsE a b).2.isSome with
 |true =>
  rw[hs] at h120
  simp (maxSteps:=2000000) +contextual only[go_sem,↓reduceIte,r72,nn,nf,cn,cf,nn',nf',cn',cf',h120,cond_true]
 |false =>
  rw[hs] at h120
  have hno:(vsE a b).2=none:=by simpa using hs
  rw[←vsE_none hno]
  simp (maxSteps:=2000000) +contextual only[go_sem,↓reduceIte,r72,nn,nf,cn,cf,nn',nf',cn',cf',h120,cond_false]
  refine l72b (Post:=fun (o:Option AV)=>o=some (.tup [.fz (prs b.fa.n (sortL (codes (vsE a b).1))),.bool true])) hb.pos hT ?_ ?_ ?_ ?_ ?_
  case refine_5 =>
   intro e' s' v q9 hv fr'
   have hP:=prodI ha hb hlb
   have hpo:=hP.pos
   rw[←vsE_none hno,codes_len] at hpo
   have hLn:(sortL (codes (vsE a b).1)).length=(vsE a b).1.length:=by
    rw[(sortL_spec _).1.length_eq,codes_len]
   rcases hv with⟨h,_⟩|⟨_,_,b4,_,_,rfl,gb⟩
   ·omega
   rw[←hLn] at q9
   have hfz:=frz_prs (d:=36) (cap:=none) gb
   rw[frz_sl] at hfz
   simp (maxSteps:=2000000) +contextual only[go_sem,↓reduceIte,q9]
   rw[hfz]
   rfl
  case refine_4 =>
   repeat first|exact Fr.own|apply Fr.new|apply Fr.put|apply Fr.upto
   all_goals simp +contextual only[go_sem,↓reduceIte]
  all_goals simp +contextual only[go_sem,↓reduceIte]
  all_goals rfl
theorem l13 {ks:List K}{Post:Option AV→Prop}{k:Nat}{L:List Nat}(hL:L.length≤65536){e:Env}{s:St}(g11:Env.get e 11=.fz (prs k L))(g17:Env.get e 17=.fz (prs k L))(g19:Env.get e 19=.int .i64 (0:Nat))(fr:Fr s)
  (hk:∀e' s',(∀t:Nat,t<19→Env.get e' t=Env.get e t)→(∀j,j<s.next→s'.get j=s.get j)→s.next≤s'.next→Fr s'→Post (goN U (finP U [.tmp 6]) ks e' s')) :
  Post (goL U (finP U [.tmp 6]) (.bk 0::ks) r13_l0 e s):=by
 have ll:=lenL_encS false (prs k L)
 rw[encS_fz,prs_len] at ll
 refine loop_ex (σ:=Nat) (fun i=>L.length-i) (fun i e' s'=>i≤L.length∧(∀t:Nat,t<19→Env.get e' t=Env.get e t)∧Env.get e' 19=.int .i64 (i:Nat)∧(∀j,j<s.next→s'.get j=s.get j)∧s.next≤s'.next∧Fr s') 0 ?_
  ⟨Nat.zero_le _,fun _ _=>rfl,g19,fun _ _=>rfl,Nat.le_refl _,fr⟩
 rintro Lp i e' s' ⟨hi,hold,q19,hs,hnx,fr'⟩ IH
 have q11:=(hold 11 (by omega)).trans g11
 have q17:=(hold 17 (by omega)).trans g17
 have hne:∀t:Nat,t<19→∀k:Nat,19≤k→(k=t)=False:=fun t h1 k hk=>by simp;omega
 by_cases hd:i<L.length
 ·have hw:=wrap_succ hd (by omega)
  have ix:=ixa_prs (k:=k) hd
  have hfk:=fr'.at
  have e0:=bin_neqP ((L[i] / k:Nat):Int) ((L[i]%k:Nat):Int) ((L[i] / k:Nat):Int) ((L[i]%k:Nat):Int)
  rw[beq_self_eq_true,beq_self_eq_true] at e0
  have e0:binA U .neq 116 false (.agg [.int .i64 ((L[i] / k:Nat):Int),.int .i64 ((L[i]%k:Nat):Int)]) (.agg [.int .i64 ((L[i] / k:Nat):Int),.int .i64 ((L[i]%k:Nat):Int)])=some (.bool false):=e0
  simp (maxSteps:=2000000) +contextual only[go_sem,↓reduceIte,r13_l0,q11,q17,q19,ll,nat_lt_dec,hd,hw,ix,hfk,e0]
  refine IH (i+1) _ _ (by omega) ⟨by omega,fun t ht=>?_,?_,fun j hj=>?_,?_,?_⟩
  ·simp +contextual only[go_sem,↓reduceIte,hne t ht]
   exact hold t ht
  ·simp +contextual only[go_sem,↓reduceIte]
  ·rw[upto_get];exact hs j hj
  ·rw[upto_next];omega
  ·exact fr'.upto (by omega)
 ·have hie:i=L.length:=by omega
  subst hie
  simp (maxSteps:=2000000) +contextual only[go_sem,↓reduceIte,r13_l0,q11,q17,q19,ll,nat_lt_dec,Nat.lt_irrefl]
  exact hk _ _ (fun t ht=>by
   simp +contextual only[go_sem,↓reduceIte,hne t ht]
   exact hold t ht) hs hnx fr'
theorem c13 (aw:calV U 16 []=some (.bool true))(a b:Auto)(nl:Bool)(l:List Pr):calV U 13 [encA a,encA b,encS nl (l.map encQ)]=some (.bool true):=by
 refine pure_go k13 (by kernel_rfl) (by simp[stills,still_encA,still_encS,still]) ?_
 have nn:=noAgg_encS a.nNl (a.next.map encRow)
 have nf:=noAgg_encS a.fNl (a.fires.map encFRow)
 have cn:=cells_encS a.nNl (a.next.map encRow)
 have cf:=cells_encS a.fNl (a.fires.map encFRow)
 have nn':=noAgg_encS b.nNl (b.next.map encRow)
 have nf':=noAgg_encS b.fNl (b.fires.map encFRow)
 have cn':=cells_encS b.nNl (b.next.map encRow)
 have cf':=cells_encS b.fNl (b.fires.map encFRow)
 have ll:=lenL_encS nl (l.map encQ)
 rw[List.length_map] at ll
 have s1:=c44 a 8
 have s2:=c44 b 8
 cases hsa:shortA a 8 with
 |false =>
  rw[hsa] at s1
  rw[encA_eq a,encA_eq b] at *
  unfold encN encFs at *
  simp (maxSteps:=2000000) +contextual only[go_sem,↓reduceIte,r13,aw,s1,nn,nf,cn,cf,nn',nf',cn',cf']
 |true =>
 rw[hsa] at s1
 cases hsb:shortA b 8 with
 |false =>
  rw[hsb] at s2
  rw[encA_eq a,encA_eq b] at *
  unfold encN encFs at *
  simp (maxSteps:=2000000) +contextual only[go_sem,↓reduceIte,r13,aw,s1,s2,nn,nf,cn,cf,nn',nf',cn',cf']
 |true =>
 rw[hsb] at s2
 cases hll:decide ((l.length:Int)>40) with
 |true =>
  rw[encA_eq a,encA_eq b] at *
  unfold encN encFs at *
  simp (maxSteps:=2000000) +contextual only[go_sem,↓reduceIte,r13,aw,s1,s2,ll,hll,nn,nf,cn,cf,nn',nf',cn',cf']
 |false =>
 have hl40:l.length≤40:=by simp at hll;omega
 obtain⟨la,ra,fa⟩:=shortA_len hsa
 obtain⟨lb,rb,fb⟩:=shortA_len hsb
 have hn64:chkTwo a b=0→a.fa.n*b.fa.n≤8*8:=fun h=>Nat.mul_le_mul (by have:=(chkTwo_256 h).1;show a.next.length≤8;omega) (by have:=(chkTwo_256 h).2;show b.next.length≤8;omega)
 have q68:=c68 a b la ra lb rb
 have q69:=c69 a b la ra lb rb fun h=>hn64 h
 have q70:=c70 a b la ra lb rb (nl:=nl) (l:=l) (by omega)
 have q49:=c49 a b
 unfold distP at q68
 unfold relP at q69
 unfold ckRel at q70
 have zN:encS true (ints [])=.nils:=rfl
 have l0:lenRL .nils=some (.int .i64 0):=rfl
 cases hbad:chkTwo a b != 0 with
 |true =>
  have h0:chkTwo a b≠0:=by simpa using hbad
  rw[hbad,cond_true] at q68 q69 q70
  have q36:=c36 true true [] [] (chkTwo a b) (chkTwo a b) (by decide)
  rw[listR_err h0,zN] at q36
  generalize chkTwo a b=bad at *
  have hbb:(bad==bad)=true:=by simp
  rw[encA_eq a,encA_eq b] at *
  unfold encN encFs at *
  simp (maxSteps:=2000000) +contextual only[go_sem,↓reduceIte,r13,aw,s1,s2,go_drcU d13_0,q68,q69,q70,q49,q36,ll,hll,hbad,hbb,l0,nn,nf,cn,cf,nn',nf',cn',cf']
 |false =>
  have h0:chkTwo a b=0:=by simpa using hbad
  obtain⟨ha,hb,hlb⟩:=chkTwo_ok h0
  have h64:=hn64 h0
  have q71:=c71 ha hb hlb
  have q72:=c72 ha hb hlb
  have q73:=c73 ha hb hlb (nl:=nl) (l:=l) (by omega)
  rw[hbad,cond_false] at q68 q69 q70
  rw[h0] at q49
  have hel:=endS_len ha hb hlb
  have hls:=list_ds a b
  have q36:=c36 true true (nIs (endS (vsE a b))) (nIs (endS (vsE a b))) (br ((endS (vsE a b)).length==0) 7 0) (br (!(vsE a b).2.isSome) 7 0) (by rw[nIs_len];omega)
  rw[hls,show encS true (ints (nIs (endS (vsE a b))))=encS true (nats (endS (vsE a b))) from rfl] at q36
  have q37:=c37 (!(vsE a b).2.isSome) 7
  have q37':=c37 (vsE a b).2.isSome 29
  unfold refR at q72
  have hz:decide ((endS (vsE a b)).length=0)=!(vsE a b).2.isSome:=by rw[←endS_zero];rw[Bool.eq_iff_iff];simp
  rw[hz] at q69
  have hP:=(prodI ha hb hlb).len
  have hps:(sortL (prodT a b)).length≤65536:=by
   have:=(sortL_spec (prodT a b)).1.length_eq
   omega
  generalize encS true (nats (endS (vsE a b)))=sg at *
  generalize br ((endS (vsE a b)).length==0) 7 0=e1 at *
  generalize sortL (prodT a b)=L at *
  have lp:=lenL_encS false (prs b.fa.n L)
  rw[encS_fz,prs_len] at lp
  have hLL:((L.length:Int) != (L.length:Int))=false:=by simp
  generalize ckQ a b l=cr at *
  have hcr:(cr==cr)=true:=by simp
  cases hs:(vsE a b).2.isSome with
  |true =>
   rw[hs] at q36 q37 q37' q69 q71 q72
   simp only[Bool.not_true,cond_true,cond_false,br_true,br_false] at q36 q37 q37' q69 q71 q72
   have d0:decide ((0:Int)<0)=false:=rfl
   rw[encA_eq a,encA_eq b] at *
   unfold encN encFs at *
   simp (maxSteps:=2000000) +contextual only[go_sem,↓reduceIte,r13,aw,s1,s2,go_drcU d13_0,q68,q69,q70,q49,q36,q37,q37',q71,q72,ll,hll,l0,nn,nf,cn,cf,nn',nf',cn',cf',Bool.not_true]
   rw[goL_eq]
   simp (maxSteps:=2000000) +contextual only[go_sem,↓reduceIte,r13_l0,l0,d0,q73,hcr,nn,nf,cn,cf,nn',nf',cn',cf']
  |false =>
   rw[hs] at q36 q37 q37' q69 q71 q72
   simp only[Bool.not_false,cond_true,cond_false,br_true,br_false] at q36 q37 q37' q69 q71 q72
   rw[encA_eq a,encA_eq b] at *
   unfold encN encFs at *
   simp (maxSteps:=2000000) +contextual only[go_sem,↓reduceIte,r13,aw,s1,s2,go_drcU d13_0,q68,q69,q70,q49,q36,q37,q37',q71,q72,ll,hll,lp,hLL,nn,nf,cn,cf,nn',nf',cn',cf',Bool.not_false]
   refine l13 (Post:=fun (o:Option AV)=>o=some (.bool true)) (k:=b.fa.n) (L:=L) hps ?_ ?_ ?_ ?_ ?_
   case refine_5 =>
    intro e' s' hE hs' hn' fr'
    have E13:Env.get e' 13=.int .i64 cr:=by rw[hE 13 (by omega)];simp +contextual only[go_sem,↓reduceIte]
    have E2:Env.get e' 2=encS nl (l.map encQ):=by rw[hE 2 (by omega)];simp +contextual only[go_sem,↓reduceIte]
    have E3:Env.get e' 3=.ptr 8 0:=by rw[hE 3 (by omega)];simp +contextual only[go_sem,↓reduceIte]
    have E4:Env.get e' 4=.ptr 9 0:=by rw[hE 4 (by omega)];simp +contextual only[go_sem,↓reduceIte]
    have uA:=hs' 8 (by simp +contextual only[go_sem,↓reduceIte])
    have uB:=hs' 9 (by simp +contextual only[go_sem,↓reduceIte])
    have uA:s'.get 8=some (.cells [.int .i64 a.lines,encS a.nNl (a.next.map encRow),encS a.fNl (a.fires.map encFRow)] 72 false 0 0):=by rw[uA];simp +contextual only[go_sem,↓reduceIte]
    have uB:s'.get 9=some (.cells [.int .i64 b.lines,encS b.nNl (b.next.map encRow),encS b.fNl (b.fires.map encFRow)] 72 false 0 0):=by rw[uB];simp +contextual only[go_sem,↓reduceIte]
    simp (maxSteps:=2000000) +contextual only[go_sem,↓reduceIte,E13,E2,E3,E4,uA,uB,q73,hcr,nn,nf,cn,cf,nn',nf',cn',cf']
   case refine_4 =>
    repeat first|exact Fr.own|apply Fr.new|apply Fr.put|apply Fr.upto
    all_goals simp +contextual only[go_sem,↓reduceIte]
   all_goals simp +contextual only[go_sem,↓reduceIte]
   all_goals rfl
end Go.Am
