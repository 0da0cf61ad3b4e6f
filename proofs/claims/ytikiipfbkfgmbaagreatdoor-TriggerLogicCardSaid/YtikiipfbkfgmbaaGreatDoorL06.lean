/- A part of the proof of a statement of this seat: the machine on which the program is read, and what it computes; for every input. -/
import Derived.Test.YtikiipfbkfgmbaaGreatDoorL05
import Derived.Test.YtikiipfbkfgmbaaGreatDoorL04
set_option linter.all false
namespace Go.Am
open Go
variable [MaxLen]
set_option maxRecDepth 100000
set_option maxHeartbeats 8000000
theorem pcs_app (k:Nat)(L:List Nat)(c:Nat):pcs k (L++[c])=pcs k L++[.int .i64 ((c / k:Nat):Int),.int .i64 ((c%k:Nat):Int)]:=by simp[pcs,pcell]
theorem scs_app (L:List (Int×Int))(p:Int×Int):scs (L++[p])=scs L++[.int .i64 p.1,.int .i64 p.2]:=by simp[scs]
theorem stp_app {T:List Trip}(h:0<T.length)(t:Trip):stp (T++[t])=stp T++[((t.2.1:Int),(t.2.2:Int))]:=by
 cases T with
 |nil=>simp at h
 |cons a l=>simp[stp]
theorem codes_app (T:List Trip)(t:Trip):codes (T++[t])=codes T++[t.1]:=by simp[codes]
theorem codes_len (T:List Trip):(codes T).length=T.length:=by simp[codes]
def rowC (c x:Nat):List (Nat×Nat):=(List.range x).map fun z=>(c,z)
theorem rowC_succ (c x:Nat):rowC c (x+1)=rowC c x++[(c,x)]:=by simp[rowC,List.range_succ]
theorem Vis.put {s s':St}{N:Nat}{a b:Auto}{f:Nat→Prop}{A0 B0 mp pt:Nat}{T:List Trip}{pv sv:AV}(h:Vis s N a b f A0 B0 mp pt T pv sv)(hT:0<T.length){c i x pb sb:Nat}(hn:s.next≤s'.next)
  (hm:s'.get mp=some (.map (entP b.fa.n (fun _=>.bool true) (codes T++[c]) 0) false))
  (hp:PrI s' N 186 (T.length+1) (pcs b.fa.n (codes T)++[.int .i64 ((c / b.fa.n:Nat):Int),.int .i64 ((c%b.fa.n:Nat):Int)]) (.sl pb 0 (T.length+1) none 2))
  (hs:PrI s' N 262 (T.length+1) (scs (stp T)++[.int .i64 (i:Int),.int .i64 (x:Int)]) (.sl sb 0 (T.length+1) none 2))
  (hpb:s.next≤pb)(hsb:s.next≤sb)(hg:∀j,j<s.next→j≠mp→¬isB2 pv j→¬isB2 sv j→s'.get j=s.get j)(hfl:∀j,f j→j<s.next) :
  Vis s' N a b f A0 B0 mp pt (T++[(c,i,x)]) (.sl pb 0 (T.length+1) none 2) (.sl sb 0 (T.length+1) none 2):=by
 obtain⟨n1,n2,n3,n4⟩:=h.ne
 obtain⟨gA,gB,gm,hp0,hs0,⟨l1,l2,l3,l4,l5,l6,l7,l8⟩,fA,fp,fs,np⟩:=h
 refine⟨(hg _ l1 n3 (fun h=>(n1 _ h).1 rfl) fun h=>(n2 _ h).1 rfl).trans gA,(hg _ l2 n4 (fun h=>(n1 _ h).2.1 rfl) fun h=>(n2 _ h).2.1 rfl).trans gB,?_,?_,?_,⟨by omega,by omega,by omega,by omega,l5,l6,l7,l8⟩,fA,fun j hj=>?_,fun j hj=>?_,np⟩
 ·rw[codes_app];exact hm
 ·rw[codes_app,pcs_app,List.length_append,List.length_singleton];exact hp
 ·rw[stp_app hT,scs_app,List.length_append,List.length_singleton];exact hs
 ·rw[isB2_sl] at hj;subst hj
  exact⟨fun h=>by have:=hfl _ h;omega,by omega⟩
 ·rw[isB2_sl] at hj;subst hj
  exact fun h=>by have:=hfl _ h;omega
theorem l114a {β:Type}{fin:Fl→β}{ks:List K}{Post:β→Prop}{a b:Auto}(ha:a.ok)(hb:b.ok)(hlb:a.lines=b.lines){fn:AV}{N:Nat}{G:Type}{CI:G→St→Prop}{fp:G→Nat→Prop}{dom:Nat→Nat→Prop}{y:Nat→Nat→Bool}{nxt:G→Nat→Nat→G→Prop}
  (Y:Yld fn b.fa.n N G CI fp dom y nxt){c i:Nat}(hc:c<(prodF a.fa b.fa).n)(hdom:∀x,x<2^a.lines.toNat→dom c x){T:List Trip}(hT:VisI (prodF a.fa b.fa) T)(hi:i<T.length){A0 B0 mp pt:Nat}{pv sv:AV}{g:G}{vr:List Trip×Option Nat}
  (hvr:visRow ((prodF a.fa b.fa).nx c) (y c) i (2^a.lines.toNat) 0 T=vr)
  {e:Env}{s:St}(g2:Env.get e 2=fn)(g3:Env.get e 3=.ptr A0 0)(g4:Env.get e 4=.ptr B0 0)(g8:Env.get e 8=.map mp)(g9:Env.get e 9=pv)(g10:Env.get e 10=sv)(g13:Env.get e 13=.int .i64 (i:Nat))(g14:Env.get e 14=.ptr pt 0)(g36:Env.get e 36=.int .i64 ((2^a.lines.toNat:Nat):Int))(g37:Env.get e 37=.int .i64 (0:Nat))
  (V:Vis s N a b (fp g) A0 B0 mp pt T pv sv)(gpt:s.get pt=some (.cells (pcell b.fa.n c) 186 false 0 0))(hci:CI g s)(fr:Fr s)(hN:N≤s.next)
  (hk:vr.2=none→∀e' s' pv' sv' g',(∀t:Nat,t<15→t≠9→t≠10→Env.get e' t=Env.get e t)→Env.get e' 9=pv'→Env.get e' 10=sv'→Vis s' N a b (fp g') A0 B0 mp pt vr.1 pv' sv'→Stps nxt g (rowC c (2^a.lines.toNat)) g'→CI g' s'→(∀j,j<N→¬fp g j→s'.get j=s.get j)→s.next≤s'.next→(∀j,fp g' j→fp g j∨N≤j)→Fr s'→Post (goN U fin ks e' s'))
  (hx:∀z,vr.2=some z→∀e' s' pv' sv' w g',(∀t:Nat,t<15→t≠9→t≠10→t≠11→t≠12→Env.get e' t=Env.get e t)→Env.get e' 9=pv'→Env.get e' 10=sv'→Env.get e' 11=.int .i64 (i:Nat)→Env.get e' 12=.sl w 0 1 (some 1) 1→s'.get w=some (.cells (nats [z]) 3 false 0 0)→s.next≤w→w<s'.next→¬fp g' w→Vis s' N a b (fp g') A0 B0 mp pt vr.1 pv' sv'→(∃l,Stps nxt g l g')→CI g' s'→(∀j,j<N→¬fp g j→s'.get j=s.get j)→s.next≤s'.next→(∀j,fp g' j→fp g j∨N≤j)→Fr s'→Post (goX U fin ks 0 e' s')) :
  Post (goL U fin (.bk 2::ks) r114_l0 e s):=by
 have hA:=prodF_ok ha.faok hb.faok (by show 2^a.lines.toNat=2^b.lines.toNat;rw[hlb])
 have hc1:c / b.fa.n<a.next.length:=Nat.div_lt_of_lt_mul (by rw[Nat.mul_comm];exact hc)
 have hc2:c%b.fa.n<b.next.length:=Nat.mod_lt _ hb.pos
 have hm16:=ha.m16
 have hnn:(prodF a.fa b.fa).n≤65536:=Nat.mul_le_mul ha.few hb.few
 refine loop_ex (σ:=Nat) (fun x=>2^a.lines.toNat-x) (fun x e' s'=>x≤2^a.lines.toNat∧(∀t:Nat,t<15∨t=36→t≠9→t≠10→Env.get e' t=Env.get e t)∧Env.get e' 37=.int .i64 (x:Nat) ∧
   (∀j,j<N→¬fp g j→s'.get j=s.get j)∧s.next≤s'.next∧Fr s'∧s'.get pt=some (.cells (pcell b.fa.n c) 186 false 0 0) ∧
   ∃T' pv' sv' g',visRow ((prodF a.fa b.fa).nx c) (y c) i (2^a.lines.toNat-x) x T'=vr∧VisI (prodF a.fa b.fa) T'∧i<T'.length∧Env.get e' 9=pv'∧Env.get e' 10=sv'∧Vis s' N a b (fp g') A0 B0 mp pt T' pv' sv'∧CI g' s'∧Stps nxt g (rowC c x) g'∧(∀j,fp g' j→fp g j∨N≤j)) 0 ?_
  ⟨Nat.zero_le _,fun _ _ _ _=>rfl,g37,fun _ _ _=>rfl,Nat.le_refl _,fr,gpt,T,pv,sv,g,by rw[Nat.sub_zero];exact hvr,hT,hi,g9,g10,V,hci,.nil g,fun j hj=>.inl hj⟩
 rintro Lp x e' s' ⟨hx0,hold,q37,hs,hnx,fr',qpt,T',pv',sv',g1,hrun,hT',hi',q9,q10,V',hci',hst,hfp⟩ IH
 have q2:=(hold 2 (by omega) (by omega) (by omega)).trans g2
 have q3:=(hold 3 (by omega) (by omega) (by omega)).trans g3
 have q4:=(hold 4 (by omega) (by omega) (by omega)).trans g4
 have q8:=(hold 8 (by omega) (by omega) (by omega)).trans g8
 have q13:=(hold 13 (by omega) (by omega) (by omega)).trans g13
 have q14:=(hold 14 (by omega) (by omega) (by omega)).trans g14
 have q36:=(hold 36 (by omega) (by omega) (by omega)).trans g36
 have hTl:=hT'.len
 unfold pcell at qpt
 by_cases hd:x<2^a.lines.toNat
 ·have hw:=wrap_succ hd (by omega)
  obtain⟨g2',s1,hcall,hnxt,hci1,hfp1,hs1,hn1,fr1⟩:=Y.call g1 c x s' (hdom x hd) hci' fr'
  unfold pcell at hcall
  have V1:Vis s1 N a b (fp g2') A0 B0 mp pt T' pv' sv':=V'.keep hn1 (fun j h1 _ h3=>hs1 j h1 h3) hfp1
  have hst1:Stps nxt g (rowC c (x+1)) g2':=by rw[rowC_succ];exact .snoc hst hnxt
  have hfp2:∀j,fp g2' j→fp g j∨N≤j:=fun j hj=>by
   rcases hfp1 j hj with h|h
   ·exact hfp j h
   ·exact .inr (by omega)
  have hs2:∀j,j<N→¬fp g j→s1.get j=s.get j:=fun j h1 h2=>(hs1 j (by omega) fun h=>by rcases hfp j h with h|h;exact h2 h;omega).trans (hs j h1 h2)
  have hpt1:s1.get pt=some (.cells [.int .i64 ((c / b.fa.n:Nat):Int),.int .i64 ((c%b.fa.n:Nat):Int)] 186 false 0 0):=(hs1 pt V'.lt.2.2.2.1 V'.fA.2.2.2).trans qpt
  have hlt1:=Y.lt g2' s1 hci1
  rw[show 2^a.lines.toNat-x=(2^a.lines.toNat-(x+1))+1 by omega,visRow] at hrun
  have hnt:∀t:Nat,t<15∨t=36→t≠9→t≠10→(9=t)=False∧(10=t)=False∧(15=t)=False∧(16=t)=False∧∀k:Nat,37≤k→(k=t)=False:=fun t h1 h2 h3=>⟨by simp;omega,by simp;omega,by simp;omega,by simp;omega,fun k hk=>by simp;omega⟩
  cases hy:y c x with
  |false =>
   rw[hy,cond_false] at hrun
   rw[hy] at hcall
   subst hrun
   simp (maxSteps:=2000000) +contextual only[go_sem,↓reduceIte,r114_l0,q2,q13,q14,q36,q37,qpt,nat_lt_dec,hd,hcall]
   refine hx x rfl _ _ pv' sv' s1.next g2' (fun t h1 h2 h3 h4 h5=>?_) ?_ ?_ ?_ ?_ ?_ (by omega) ?_ (fun h=>by have:=hlt1 _ h;omega) ?_ ⟨_,hst1⟩ ?_ (fun j h1 h2=>?_) ?_ hfp2 ?_
   ·obtain⟨n9,n10,n15,n16,n37⟩:=hnt t (.inl h1) h2 h3
    simp +contextual only[go_sem,↓reduceIte,n15,n37,eq_false h4.symm,eq_false h5.symm]
    exact hold t (.inl h1) h2 h3
   ·simp +contextual only[go_sem,↓reduceIte,q9]
   ·simp +contextual only[go_sem,↓reduceIte,q10]
   ·simp +contextual only[go_sem,↓reduceIte]
   ·simp +contextual only[go_sem,↓reduceIte]
   ·rw[get_new,if_pos rfl];rfl
   ·rw[next_new];omega
   ·exact V1.keep (by rw[next_new];omega) (fun j h1 _ _=>by rw[get_new,if_neg (by omega)]) fun j hj=>.inl hj
   ·exact Y.keep g2' s1 _ hci1 (by rw[next_new];omega) fun j h1 _=>by rw[get_new,if_neg (by omega)]
   ·rw[get_new,if_neg (by omega)];exact hs2 j h1 h2
   ·rw[next_new];omega
   ·exact fr1.new _
  |true =>
   rw[hy,cond_true] at hrun
   rw[hy] at hcall
   have lt3:(prodF a.fa b.fa).nx c x<(prodF a.fa b.fa).n:=hA.lt c x hc hd
   have hpn:=pcell_nx hb hlb hc hd
   have n1:=ha.nxAt hc1 hd
   have n2:=hb.nxAt hc2 (by rw[←hlb];exact hd)
   have r1:=ixa_rowI (nl:=a.nNl) hc1
   have r2:=ixa_rowI (nl:=b.nNl) hc2
   have hgA:=V1.gA
   have hgB:=V1.gB
   have hgm:=V1.gm
   obtain⟨l1,l2,l3,l4,l5,l6,l7,l8⟩:=V1.lt
   have lk:=fun (S:St) (h:S.get mp=some (.map (entP b.fa.n (fun _=>.bool true) (codes T') 0) false))=>lookup260 h ((prodF a.fa b.fa).nx c x)
   have up:=fun (S:St) (h:S.get mp=some (.map (entP b.fa.n (fun _=>.bool true) (codes T') 0) false))=>update260 h (c:=(prodF a.fa b.fa).nx c x)
   rw[hpn] at lk up
   generalize hcn:(prodF a.fa b.fa).nx c x=cn at *
   have hfk:=fr1.at
   have f1:∀q,(s1.next+q=A0)=False:=fun q=>by simp;omega
   have f2:∀q,(s1.next+q=B0)=False:=fun q=>by simp;omega
   have f3:∀q,(s1.next+q=mp)=False:=fun q=>by simp;omega
   have f4:∀q,(s1.next+q=pt)=False:=fun q=>by simp;omega
   have f5:∀q,(mp=s1.next+q)=False:=fun q=>by simp;omega
   by_cases hin:cn∈T'.map (·.1)
   ·have hin2:idxN (codes T') cn<(codes T').length:=(idxN_lt _ _).2 hin
    rw[decide_eq_true hin,cond_true] at hrun
    rw[decide_eq_true hin2] at lk
    simp (maxSteps:=2000000) +contextual only[go_sem,↓reduceIte,r114_l0,q2,q3,q4,q8,q13,q14,q36,q37,qpt,nat_lt_dec,hd,hcall,hgA,hgB,hgm,hpt1,r1,r2,n1,n2,hw,f1,f2,f3,f4,hfk,lk,Nat.add_assoc]
    have k4:∀j,j<s1.next→(((s1.upto (s1.next+21)).put (s1.next+19) (.cells [.int .i64 0,.int .i64 0] 186 false 0 0)).put (s1.next+19) (.cells [.int .i64 ((a.fa.nx (c / b.fa.n) x:Nat):Int),.int .i64 ((b.fa.nx (c%b.fa.n) x:Nat):Int)] 186 false 0 0)).get j=s1.get j:=fun j hj=>by
     rw[get_put,if_neg (by omega),get_put,if_neg (by omega),upto_get]
    refine IH (x+1) _ _ (by omega) ⟨by omega,fun t h1 h2 h3=>?_,?_,fun j h1 h2=>by rw[k4 j (by omega)];exact hs2 j h1 h2,by simp only[next_put,upto_next];omega,?_,by rw[k4 pt l4];exact hpt1,T',pv',sv',g2',?_,hT',hi',?_,?_,V1.keep (by simp only[next_put,upto_next];omega) (fun j h1 _ _=>k4 j h1) (fun j hj=>.inl hj),Y.keep g2' s1 _ hci1 (by simp only[next_put,upto_next];omega) (fun j h1 _=>k4 j h1),hst1,hfp2⟩
    ·obtain⟨n9,n10,n15,n16,n37⟩:=hnt t h1 h2 h3
     simp +contextual only[go_sem,↓reduceIte,n9,n10,n15,n16,n37]
     exact hold t h1 h2 h3
    ·simp +contextual only[go_sem,↓reduceIte]
    ·repeat first|exact fr1|apply Fr.new|apply Fr.put|apply Fr.upto
     all_goals try simp only[next_put,next_new,upto_next]
     all_goals omega
    ·exact hrun
    ·simp +contextual only[go_sem,↓reduceIte,q9]
    ·simp +contextual only[go_sem,↓reduceIte,q10]
   ·have hin2:¬idxN (codes T') cn<(codes T').length:=fun h=>hin ((idxN_lt _ _).1 h)
    rw[decide_eq_false hin,cond_false] at hrun
    rw[decide_eq_false hin2] at lk
    have up:=fun S h=>up S h hin
    have hlP:=V1.hp.lenA
    have hlS:=V1.hs.lenA
    have hb1:(T'.length+1)*16≤1099511627776:=by omega
    have hb2:T'.length+1≤1099511627776:=by omega
    simp (maxSteps:=2000000) +contextual only[go_sem,↓reduceIte,r114_l0,q2,q3,q4,q8,q9,q10,q13,q14,q36,q37,qpt,nat_lt_dec,hd,hcall,hgA,hgB,hgm,hpt1,r1,r2,n1,n2,hw,f1,f2,f3,f4,f5,hfk,lk,up,Nat.add_assoc,Nat.mul_one,Nat.one_mul,appK_some,Nat.reducePow,hlP,hb1,hb2]
    obtain⟨S,hS⟩:∃S,S=((((s1.upto (s1.next+21)).put (s1.next+19) (.cells [.int .i64 0,.int .i64 0] 186 false 0 0)).put (s1.next+19) (.cells [.int .i64 ((a.fa.nx (c / b.fa.n) x:Nat):Int),.int .i64 ((b.fa.nx (c%b.fa.n) x:Nat):Int)] 186 false 0 0)).put mp (.map (entP b.fa.n (fun _=>.bool true) (codes T'++[cn]) 0) false)).new (.cells [.int .i64 ((a.fa.nx (c / b.fa.n) x:Nat):Int),.int .i64 ((b.fa.nx (c%b.fa.n) x:Nat):Int)] 186 false 0 0):=⟨_,rfl⟩
    rw[←hS]
    have hSn:S.next=s1.next+22:=by rw[hS];simp only[next_put,next_new,upto_next]
    have kS:∀j,j<s1.next→j≠mp→S.get j=s1.get j:=fun j h1 h2=>by rw[hS,get_new,next_put,next_put,next_put,upto_next,if_neg (by omega),get_put,if_neg h2.symm,get_put,if_neg (by omega),get_put,if_neg (by omega),upto_get]
    have kSm:S.get mp=some (.map (entP b.fa.n (fun _=>.bool true) (codes T'++[cn]) 0) false):=by rw[hS,get_new,next_put,next_put,next_put,upto_next,if_neg (by omega),get_put,if_pos rfl]
    have frS:Fr S:=by
     rw[hS]
     repeat first|exact fr1|apply Fr.new|apply Fr.put|apply Fr.upto
     all_goals try simp only[next_put,next_new,upto_next]
     all_goals omega
    obtain⟨m1,m2,m3,m4⟩:=V1.ne
    have P1:PrI S N 186 T'.length (pcs b.fa.n (codes T')) pv':=V1.hp.keepB (by omega) fun j h1 h2=>kS j h1 (m1 j h2).2.2.1
    obtain⟨s4,d1,d2,d3,d4,d5⟩:=P1.appB (by omega) (.int .i64 ((a.fa.nx (c / b.fa.n) x:Nat):Int)) (.int .i64 ((b.fa.nx (c%b.fa.n) x:Nat):Int)) rfl rfl
    rw[d1]
    simp (maxSteps:=2000000) +contextual only[go_sem,↓reduceIte,q10,q13,Nat.mul_one,Nat.one_mul,appK_some,Nat.reducePow,hlS,hb1,hb2]
    have kQ:∀j,j<s1.next→j≠mp→¬isB2 pv' j→(s4.new (.cells [.int .i64 (i:Int),.int .i64 (x:Int)] 262 false 0 0)).get j=s1.get j:=fun j h1 h2 h3=>by rw[get_new,if_neg (by omega),d4 j (by omega) h3,kS j h1 h2]
    have P2:PrI (s4.new (.cells [.int .i64 (i:Int),.int .i64 (x:Int)] 262 false 0 0)) N 262 T'.length (scs (stp T')) sv':=V1.hs.keepB (by rw[next_new];omega) fun j h1 h2=>kQ j h1 (m2 j h2).2.2 fun h=>(m1 j h).2.2.2 h2
    obtain⟨s6,b1,b2,b3,b4,b5⟩:=P2.appB (by rw[next_new];omega) (.int .i64 (i:Int)) (.int .i64 (x:Int)) rfl rfl
    rw[b1]
    simp (maxSteps:=2000000) +contextual only[go_sem,↓reduceIte,q37,hw]
    rw[next_new] at b2 b3 b4
    have k6:∀j,j<s1.next→j≠mp→¬isB2 pv' j→¬isB2 sv' j→s6.get j=s1.get j:=fun j h1 h2 h3 h4=>by rw[b4 j (by omega) h4,kQ j h1 h2 h3]
    have hT2:0<T'.length:=by omega
    have nfp:∀j,fp g2' j∨j<N→j<s1.next→j≠mp∧¬isB2 pv' j∧¬isB2 sv' j:=fun j hj hl=>by
     rcases hj with hj|hj
     ·exact⟨fun e=>V1.fA.2.2.1 (e ▸ hj),fun h=>(V1.fp j h).1 hj,fun h=>V1.fs j h hj⟩
     ·exact⟨by omega,fun h=>by have:=(V1.hp.ltB h).1;omega,fun h=>by have:=(V1.hs.ltB h).1;omega⟩
    refine IH (x+1) _ _ (by omega) ⟨by omega,fun t h1 h2 h3=>?_,?_,fun j h1 h2=>?_,by omega,b5 ((d5 frS).new _),?_,T'++[(cn,i,x)],.sl S.next 0 (T'.length+1) none 2,.sl (s4.next+1) 0 (T'.length+1) none 2,g2',hrun,hT'.put lt3 hi' hd hin,by rw[List.length_append];omega,?_,?_,?_,Y.keep g2' s1 _ hci1 (by omega) (fun j h1 h2=>?_),hst1,hfp2⟩
    ·obtain⟨n9,n10,n15,n16,n37⟩:=hnt t h1 h2 h3
     simp +contextual only[go_sem,↓reduceIte,n9,n10,n15,n16,n37]
     exact hold t h1 h2 h3
    ·simp +contextual only[go_sem,↓reduceIte]
    ·obtain⟨a1,a2,a3⟩:=nfp j (.inr h1) (by omega)
     rw[k6 j (by omega) a1 a2 a3];exact hs2 j h1 h2
    ·rw[k6 pt l4 (fun e=>V1.np.2.2 e.symm) (fun h=>(V1.fp pt h).2 rfl) fun h=>blk_ne hpt1 (V1.hs.ltB h).2.2 (by decide) rfl];exact hpt1
    ·simp +contextual only[go_sem,↓reduceIte]
    ·simp +contextual only[go_sem,↓reduceIte]
    ·have hpc:pcell b.fa.n cn=[.int .i64 ((cn / b.fa.n:Nat):Int),.int .i64 ((cn%b.fa.n:Nat):Int)]:=rfl
     rw[hpn] at hpc
     rw[hpc] at d3
     refine V1.put hT2 (by omega) ?_ (d3.keepB (by omega) fun j h1 h2=>?_) b3 (by omega) (by omega) k6 hlt1
     ·rw[b4 mp (by omega) (fun h=>(m2 mp h).2.2 rfl),get_new,if_neg (by omega),d4 mp (by omega) fun h=>(m1 mp h).2.2.1 rfl];exact kSm
     ·rw[isB2_sl] at h2
      subst h2
      rw[b4 _ (by omega) fun h=>by have:=(V1.hs.ltB h).2.1;omega,get_new,if_neg (by omega)]
    ·obtain⟨a1,a2,a3⟩:=nfp j h2 h1
     exact k6 j h1 a1 a2 a3
 ·have hxe:x=2^a.lines.toNat:=by omega
  subst hxe
  rw[Nat.sub_self,visRow] at hrun
  subst hrun
  simp (maxSteps:=2000000) +contextual only[go_sem,↓reduceIte,r114_l0,q36,q37,nat_lt_dec,Nat.lt_irrefl]
  refine hk rfl _ _ pv' sv' g1 (fun t h1 h2 h3=>?_) ?_ ?_ V' hst hci' hs hnx hfp fr'
  ·have hne:∀k:Nat,37≤k→(k=t)=False:=fun k hk=>by simp;omega
   simp +contextual only[go_sem,↓reduceIte,hne]
   exact hold t (.inl h1) h2 h3
  ·simp +contextual only[go_sem,↓reduceIte,q9]
  ·simp +contextual only[go_sem,↓reduceIte,q10]
end Go.Am
namespace Go.Am
open Go
variable [MaxLen]
theorem visAll_true {A:Fa}(hA:A.ok):(visAll A fun _ _=>true).2=none:=by
 have h:=visAll_spec hA fun _ _=>true
 cases e:(visAll A fun _ _=>true).2 with
 |none=>rfl
 |some z =>
  obtain⟨k,x⟩:=z
  obtain⟨_,_,⟨t,_,h2⟩,_⟩:=h.stop k x e
  cases h2
def prodT (a b:Auto):List Nat:=codes (visAll (prodF a.fa b.fa) fun _ _=>true).1
def prodRow (a b:Auto)(c:Nat):List Nat:=(List.range (2^a.lines.toNat)).map fun x=>idxN (prodT a b) ((prodF a.fa b.fa).nx c x)
def prodFr (a b:Auto)(f:Bool→Bool→Bool)(c:Nat):List Bool:=(List.range (2^a.lines.toNat)).map fun x=>f (a.fa.fr (c / b.fa.n) x) (b.fa.fr (c%b.fa.n) x)
def prodA (a b:Auto)(f:Bool→Bool→Bool):Auto:=⟨a.lines,true,(prodT a b).map fun c=>(false,nIs (prodRow a b c)),true,(prodT a b).map fun c=>(false,prodFr a b f c)⟩
structure ProdI (a b:Auto)(T:List Nat):Prop where
 pos:0<T.length
 nd:T.Nodup
 lt:∀c∈T,c<(prodF a.fa b.fa).n
 cl:∀c∈T,∀x,x<2^a.lines.toNat→(prodF a.fa b.fa).nx c x∈T
 hd:T[0]? = some 0
theorem prodF_okA {a b:Auto}(ha:a.ok)(hb:b.ok)(hlb:a.lines=b.lines):(prodF a.fa b.fa).ok:=prodF_ok ha.faok hb.faok (by show 2^a.lines.toNat=2^b.lines.toNat;rw[hlb])
theorem visI_prodI {a b:Auto}(ha:a.ok)(hb:b.ok)(hlb:a.lines=b.lines){y:Nat→Nat→Bool}(hn:(visAll (prodF a.fa b.fa) y).2=none):ProdI a b (codes (visAll (prodF a.fa b.fa) y).1):=by
 have h:=visAll_spec (prodF_okA ha hb hlb) y
 refine⟨by rw[codes_len];exact h.inv.pos,h.inv.nd,fun c hc=>?_,fun c hc x hx=>?_,?_⟩
 ·obtain⟨t,ht,rfl⟩:=List.mem_map.1 hc
  exact h.inv.lt t ht
 ·obtain⟨t,ht,rfl⟩:=List.mem_map.1 hc
  obtain⟨k,hk,e⟩:=List.mem_iff_getElem.1 ht
  exact (h.go hn k t (Nat.zero_le _) (by rw[List.getElem?_eq_getElem hk,e]) x hx).2
 ·obtain⟨R,hR⟩:=h.pre
  rw[hR];rfl
theorem prodI {a b:Auto}(ha:a.ok)(hb:b.ok)(hlb:a.lines=b.lines):ProdI a b (prodT a b):=visI_prodI ha hb hlb (visAll_true (prodF_okA ha hb hlb))
theorem ProdI.len {a b:Auto}{T:List Nat}(h:ProdI a b T):T.length≤a.fa.n*b.fa.n:=nodup_few (κ:=id) (by rw[List.map_id];exact h.nd) h.lt
theorem prodA_ok {a b:Auto}(ha:a.ok)(hb:b.ok)(hlb:a.lines=b.lines)(hn:a.fa.n*b.fa.n≤256)(f:Bool→Bool→Bool):(prodA a b f).ok:=by
 have h:=prodI ha hb hlb
 have hl:=h.len
 refine⟨ha.lines,by simp only[prodA,List.length_map];exact h.pos,by simp only[prodA,List.length_map];omega,by simp only[prodA,List.length_map],fun i hi=>?_,fun i hi=>?_⟩
 ·have hi':i<(prodT a b).length:=by simpa only[prodA,List.length_map] using hi
  simp only[prodA,List.getElem_map,List.length_map]
  refine⟨by simp[nIs,prodRow],fun x hx=>?_⟩
  simp only[nIs,prodRow,List.map_map,List.mem_map,List.mem_range,Function.comp] at hx
  obtain⟨z,hz,rfl⟩:=hx
  have:=(idxN_lt _ _).2 (h.cl _ (List.getElem_mem hi') z hz)
  omega
 ·have hi':i<(prodT a b).length:=by simpa only[prodA,List.length_map] using hi
  simp[prodA,prodFr]
def mapT (φ:Nat→Nat)(T:List Trip):List Trip:=T.map fun t=>(φ t.1,t.2.1,t.2.2)
theorem visRow_map {nP nQ:Nat→Nat}{yP yQ:Nat→Bool}{φ:Nat→Nat}{n:Nat}(hinj:∀u v,u<n→v<n→φ u=φ v→u=v)(i:Nat):∀(r x:Nat) (T:List Trip),(∀t∈T,t.1<n)→(∀z,x≤z→z<x+r→nP z<n∧nQ z=φ (nP z)∧yQ z=yP z) →
  visRow nQ yQ i r x (mapT φ T)=(mapT φ (visRow nP yP i r x T).1,(visRow nP yP i r x T).2)
 |0,x,T,_,_=>rfl
 |r+1,x,T,hT,h=>by
  obtain⟨h1,h2,h3⟩:=h x (Nat.le_refl _) (by omega)
  have hiff:(nQ x∈(mapT φ T).map (·.1))↔nP x∈T.map (·.1):=by
   simp only[mapT,List.map_map,List.mem_map,Function.comp,h2]
   constructor
   ·rintro⟨t,ht,e⟩
    exact⟨t,ht,hinj _ _ (hT t ht) h1 e⟩
   ·rintro⟨t,ht,e⟩
    exact⟨t,ht,by rw[e]⟩
  have hdec:decide (nQ x∈(mapT φ T).map (·.1))=decide (nP x∈T.map (·.1)):=by simp only[hiff]
  rw[visRow,visRow,h3,hdec]
  cases yP x with
  |false=>rfl
  |true =>
   simp only[cond_true]
   have e:(bif decide (nP x∈T.map (·.1)) then mapT φ T else mapT φ T++[(nQ x,i,x)])=mapT φ (bif decide (nP x∈T.map (·.1)) then T else T++[(nP x,i,x)]):=by
    cases decide (nP x∈T.map (·.1)) with
    |true=>rfl
    |false=>simp[mapT,h2]
   rw[e]
   refine visRow_map hinj i r (x+1) _ (fun t ht=>?_) fun z hz1 hz2=>h z (by omega) (by omega)
   cases hd:decide (nP x∈T.map (·.1)) with
   |true=>rw[hd] at ht;exact hT t ht
   |false =>
    rw[hd,cond_false] at ht
    rcases List.mem_append.1 ht with ht|ht
    ·exact hT t ht
    ·rw[List.mem_singleton.1 ht];exact h1
theorem visT_map {A Q:Fa}(hA:A.ok){y yQ:Nat→Nat→Bool}{φ:Nat→Nat}(hinj:∀u v,u<A.n→v<A.n→φ u=φ v→u=v)(hm:Q.m=A.m)(h:∀s x,s<A.n→x<A.m→Q.nx (φ s) x=φ (A.nx s x)∧yQ (φ s) x=y s x) :
  ∀(f i:Nat) (T:List Trip),VisI A T→i≤T.length→visT Q yQ f i (mapT φ T)=(mapT φ (visT A y f i T).1,(visT A y f i T).2)
 |0,i,T,_,_=>rfl
 |f+1,i,T,hT,hi=>by
  rw[visT,visT]
  have e:(mapT φ T)[i]? = (T[i]?).map fun t=>(φ t.1,t.2.1,t.2.2):=by simp[mapT]
  rw[e]
  cases ht:T[i]? with
  |none=>rfl
  |some t =>
   simp only[Option.map_some]
   have hil:=(List.getElem?_eq_some_iff.1 ht).1
   have htn:=hT.lt t (List.mem_of_getElem? ht)
   rw[hm,visRow_map (n:=A.n) (φ:=φ) (nP:=A.nx t.1) (yP:=y t.1) hinj i A.m 0 T hT.lt fun z _ hz=>⟨hA.lt _ _ htn (by omega),(h _ _ htn (by omega)).1,(h _ _ htn (by omega)).2⟩]
   obtain⟨⟨i1,R,hR⟩,_,_⟩:=visRow_spec hA htn (y t.1) A.m 0 (T:=T) (i:=i) (by omega) hT hil
   generalize visRow (A.nx t.1) (y t.1) i A.m 0 T=v at *
   obtain⟨T1,o⟩:=v
   cases o with
   |some x=>rfl
   |none =>
    simp only at i1 hR
    exact visT_map hA hinj hm h f (i+1) T1 i1 (by rw[hR];simp;omega)
theorem visT_fuel {A:Fa}(hA:A.ok)(y:Nat→Nat→Bool):∀(f f' i:Nat) (T:List Trip),VisI A T→i≤T.length→A.n+1≤f+i→A.n+1≤f'+i→visT A y f i T=visT A y f' i T
 |0,f',i,T,hT,hi,hf,hf'=>by have:=hT.len;omega
 |f+1,0,i,T,hT,hi,hf,hf'=>by have:=hT.len;omega
 |f+1,f'+1,i,T,hT,hi,hf,hf'=>by
  rw[visT,visT]
  cases ht:T[i]? with
  |none=>rfl
  |some t =>
   simp only
   have hil:=(List.getElem?_eq_some_iff.1 ht).1
   have htn:=hT.lt t (List.mem_of_getElem? ht)
   obtain⟨⟨i1,R,hR⟩,_,_⟩:=visRow_spec hA htn (y t.1) A.m 0 (T:=T) (i:=i) (by omega) hT hil
   generalize visRow (A.nx t.1) (y t.1) i A.m 0 T=v at *
   obtain⟨T1,o⟩:=v
   cases o with
   |some x=>rfl
   |none =>
    simp only at i1 hR
    exact visT_fuel hA y f f' (i+1) T1 i1 (by rw[hR];simp;omega) (by omega) (by omega)
theorem sigT_map (φ:Nat→Nat)(T:List Trip):∀(f k:Nat),sigT (mapT φ T) f k=sigT T f k
 |0,k=>rfl
 |f+1,0=>rfl
 |f+1,k+1=>by
  rw[sigT,sigT]
  have e:(mapT φ T)[k+1]? = (T[k+1]?).map fun t=>(φ t.1,t.2.1,t.2.2):=by simp[mapT]
  rw[e]
  cases T[k+1]? with
  |none=>rfl
  |some t =>
   simp only[Option.map_some]
   rw[sigT_map φ T f t.2.1]
theorem visAll_map {A Q:Fa}(hA:A.ok){y yQ:Nat→Nat→Bool}{φ:Nat→Nat}(hinj:∀u v,u<A.n→v<A.n→φ u=φ v→u=v)(hm:Q.m=A.m)(hn:A.n≤Q.n)(h0:φ 0=0)(h:∀s x,s<A.n→x<A.m→Q.nx (φ s) x=φ (A.nx s x)∧yQ (φ s) x=y s x) :
  visAll Q yQ=(mapT φ (visAll A y).1,(visAll A y).2):=by
 have e:=visT_map hA hinj hm h (Q.n+1) 0 [(0,0,0)] (visI0 hA) (by simp)
 rw[visT_fuel hA y (Q.n+1) (A.n+1) 0 _ (visI0 hA) (by simp) (by omega) (by omega)] at e
 rw[visAll,visAll,←e]
 simp[mapT,h0]
theorem endS_map {A Q:Fa}(hA:A.ok){y yQ:Nat→Nat→Bool}{φ:Nat→Nat}(hinj:∀u v,u<A.n→v<A.n→φ u=φ v→u=v)(hm:Q.m=A.m)(hn:A.n≤Q.n)(h0:φ 0=0)(h:∀s x,s<A.n→x<A.m→Q.nx (φ s) x=φ (A.nx s x)∧yQ (φ s) x=y s x) :
  endS (visAll Q yQ)=endS (visAll A y):=by
 rw[visAll_map hA hinj hm hn h0 h]
 unfold endS
 cases (visAll A y).2 with
 |none=>rfl
 |some z=>simp only[sigT_map]
def stF (A:Fa)(l:List Int):Nat→Nat→Nat→Nat
 |0,_,s=>s
 |r+1,t,s=>stF A l r (t+1) (A.nx s (symN l t))
def fireAt (A:Fa)(l:List Int)(i:Nat):Bool:=A.fr (stF A l i 0 0) (symN l i)
theorem runF_filter (A:Fa)(l:List Int):∀(r t s:Nat),(runF A l r t s).1=((List.range r).filter fun i=>A.fr (stF A l i t s) (symN l (t+i))).map fun i=>((t+i:Nat):Int)
 |0,_,_=>rfl
 |r+1,t,s=>by
  have hp:((fun i=>A.fr (stF A l i t s) (symN l (t+i)))∘Nat.succ)=fun i=>A.fr (stF A l i (t+1) (A.nx s (symN l t))) (symN l (t+1+i)):=funext fun i=>by
   show A.fr (stF A l i (t+1) (A.nx s (symN l t))) (symN l (t+(i+1)))=_
   rw[show t+(i+1)=t+1+i by omega]
  have hg:((fun i=>((t+i:Nat):Int))∘Nat.succ)=fun i=>((t+1+i:Nat):Int):=funext fun i=>by
   show ((t+(i+1):Nat):Int)=_
   rw[show t+(i+1)=t+1+i by omega]
  rw[runF,runF_filter A l r (t+1),List.range_succ_eq_map,List.filter_cons,List.filter_map,hp]
  have e3:A.fr (stF A l 0 t s) (symN l (t+0))=A.fr s (symN l t):=rfl
  simp only[e3]
  cases A.fr s (symN l t) with
  |true =>
   simp only[cond_true,if_true,List.map_cons,List.map_map,hg]
   rfl
  |false =>
   simp only[cond_false,Bool.false_eq_true,if_false,List.map_map,hg]
theorem times_eq (A:Fa)(l:List Int):(runF A l l.length 0 0).1=((List.range l.length).filter (fireAt A l)).map fun i=>((i:Nat):Int):=by
 rw[runF_filter]
 simp only[Nat.zero_add]
 rfl
theorem stF_sim {A Q:Fa}{m:Nat}{R:Nat→Nat→Prop}{l:List Int}(h:∀s q x,R s q→x<m→R (A.nx s x) (Q.nx q x)):∀(r t s q:Nat),(∀i,i<r→symN l (t+i)<m)→R s q→R (stF A l r t s) (stF Q l r t q)
 |0,_,_,_,_,h0=>h0
 |r+1,t,s,q,hl,h0=>stF_sim h r (t+1) _ _ (fun i hi=>by have:=hl (i+1) (by omega);rwa [show t+(i+1)=t+1+i by omega] at this) (h _ _ _ h0 (by have:=hl 0 (by omega);rwa [Nat.add_zero] at this))
theorem idxN_at:∀{l:List Nat} {c:Nat},c∈l→l[idxN l c]? = some c
 |x::l,c,h=>by
  rw[idxN]
  cases hx:x==c with
  |true =>
   have:x=c:=by simpa using hx
   simp[this]
  |false =>
   have hne:¬x=c:=by simpa using hx
   simp only[cond_false,List.getElem?_cons_succ]
   refine idxN_at ?_
   rcases List.mem_cons.1 h with h|h
   ·exact absurd h.symm hne
   ·exact h
theorem numRow_at:∀(cs st:List Nat),(st.map id).Nodup→∀x,x<cs.length→(numRow id cs st).1[(numRow id cs st).2.getD x 0]? = cs[x]?
 |[],_,_,_,hx=>by simp at hx
 |c::cs,st,h,x,hx=>by
  have h2:=numRow_nd (c::cs) st h
  rw[numRow]
  cases hd:decide (idxN (st.map id) (id c)<st.length) with
  |true =>
   have hd':idxN (st.map id) (id c)<st.length:=by simpa using hd
   simp only[cond_true]
   obtain⟨n1,n2,n3,n4,n5⟩:=numRow_nd cs st h
   cases x with
   |zero =>
    simp only[List.getD_cons_zero,List.getElem?_cons_zero]
    rw[n3 _ hd']
    have hm:c∈st:=by
     have:=(idxN_lt (st.map id) (id c)).1 (by rw[List.length_map];exact hd')
     rwa [List.map_id] at this
    rw[List.map_id]
    exact idxN_at hm
   |succ x =>
    simp only[List.getD_cons_succ,List.getElem?_cons_succ]
    exact numRow_at cs st h x (by rw[List.length_cons] at hx;omega)
  |false =>
   have hd':¬idxN (st.map id) (id c)<(st.map id).length:=by rw[List.length_map];simpa using hd
   rw[idxN_lt,List.map_id] at hd'
   have hnd:((st++[c]).map id).Nodup:=by
    rw[List.map_id,List.nodup_append]
    rw[List.map_id] at h
    refine⟨h,by simp,fun a ha b hb=>?_⟩
    rw[List.mem_singleton] at hb
    rintro rfl
    rw[hb] at ha
    exact hd' ha
   simp only[cond_false]
   obtain⟨n1,n2,n3,n4,n5⟩:=numRow_nd cs (st++[c]) hnd
   cases x with
   |zero =>
    simp only[List.getD_cons_zero,List.getElem?_cons_zero]
    rw[n3 _ (by rw[List.length_append];simp)]
    simp
   |succ x =>
    simp only[List.getD_cons_succ,List.getElem?_cons_succ]
    exact numRow_at cs (st++[c]) hnd x (by rw[List.length_cons] at hx;omega)
theorem numRow_lt {n:Nat}:∀(cs st:List Nat),(∀a∈cs,a<n)→(∀a∈st,a<n)→∀a∈(numRow id cs st).1,a<n
 |[],st,_,h=>h
 |c::cs,st,h1,h2=>by
  rw[numRow]
  cases decide (idxN (st.map id) (id c)<st.length) with
  |true=>exact numRow_lt cs st (fun a ha=>h1 a (List.mem_cons_of_mem _ ha)) h2
  |false =>
   exact numRow_lt cs (st++[c]) (fun a ha=>h1 a (List.mem_cons_of_mem _ ha)) fun a ha=>by
    rcases List.mem_append.1 ha with h|h
    ·exact h2 a h
    ·rw[List.mem_singleton.1 h];exact h1 c (List.mem_cons_self ..)
theorem bfsN_spec {row:Nat→List Nat}{n:Nat}(hrow:∀a,a<n→∀b∈row a,b<n):∀(f i:Nat) (st:List Nat),(st.map id).Nodup→(∀a∈st,a<n)→i≤st.length→n+1≤f+i →
  ∃fin:List Nat,(∀j,j<st.length→fin[j]? = st[j]?)∧st.length≤fin.length∧fin.length≤n∧(∀a∈fin,a<n)∧(bfsN id row f i st).map (·.1)=fin.drop i∧∀e∈bfsN id row f i st,e.2.length=(row e.1).length∧∀x,x<(row e.1).length→fin[e.2.getD x 0]? = (row e.1)[x]?
 |0,i,st,h,hn,hi,hf=>by
  have:=nodup_few h hn
  omega
 |f+1,i,st,h,hn,hi,hf=>by
  rw[bfsN]
  cases hs:st[i]? with
  |none =>
   have:st.length≤i:=List.getElem?_eq_none_iff.1 hs
   exact⟨st,fun _ _=>rfl,Nat.le_refl _,nodup_few h hn,hn,by rw[List.drop_eq_nil_of_le this];rfl,fun e he=>by simp at he⟩
  |some s =>
   have hil:i<st.length:=(List.getElem?_eq_some_iff.1 hs).1
   have hsn:=hn s (List.mem_of_getElem? hs)
   obtain⟨n1,n2,n3,n4,n5⟩:=numRow_nd (row s) st h
   have hat:=numRow_at (row s) st h
   obtain⟨fin,p1,p2,p3,p4,p5,p6⟩:=bfsN_spec hrow f (i+1) (numRow id (row s) st).1 n1 (numRow_lt _ _ (hrow s hsn) hn) (by omega) (by omega)
   have e1:∀j,j<st.length→fin[j]? = st[j]? := fun j hj=>(p1 j (by omega)).trans (n3 j hj)
   refine⟨fin,e1,by omega,p3,p4,?_,fun e he=>?_⟩
   ·rw[List.map_cons,p5]
    have hif:i<fin.length:=by omega
    rw[List.drop_eq_getElem_cons hif]
    have:=e1 i hil
    rw[hs,List.getElem?_eq_getElem hif] at this
    rw[Option.some.inj this]
   ·rcases List.mem_cons.1 he with rfl|he
    ·refine⟨n4,fun x hx=>?_⟩
     simp only at hx ⊢
     rw[←hat x hx]
     refine p1 _ ?_
     rw[List.getD_eq_getElem?_getD,List.getElem?_eq_getElem (by rw[n4];exact hx)]
     exact n5 _ (List.getElem_mem _)
    ·exact p6 e he
structure MinS (a:Auto)(fin:List Nat):Prop where
 le:fin.length≤a.fa.n
 pos:0<fin.length
 lt:∀c∈fin,c<a.fa.n
 can:∀c∈fin,clsR a.fa c=c
 z:fin[0]? = some (clsR a.fa 0)
 len:(minR a.fa).length=fin.length
 key:∀i (h:i<(minR a.fa).length),fin[i]? = some (minR a.fa)[i].1
 row:∀i (h:i<(minR a.fa).length),(minR a.fa)[i].2.length=a.fa.m∧∀x,x<a.fa.m→fin[(minR a.fa)[i].2.getD x 0]? = some (clsR a.fa (a.fa.nx (minR a.fa)[i].1 x))
theorem bfsN_keys {Q:Nat→Prop}{row:Nat→List Nat}(hr:∀s,Q s→∀a∈row s,Q a):∀(f i:Nat) (st:List Nat),(∀a∈st,Q a)→∀x∈bfsN id row f i st,Q x.1
 |0,_,_,_,x,hx=>by simp[bfsN] at hx
 |f+1,i,st,h,x,hx=>by
  rw[bfsN] at hx
  cases hs:st[i]? with
  |none=>rw[hs] at hx;simp at hx
  |some s =>
   rw[hs] at hx
   have hq:=h s (List.mem_of_getElem? hs)
   rcases List.mem_cons.1 hx with rfl|hx
   ·exact hq
   ·refine bfsN_keys hr f (i+1) _ ?_ x hx
    have:=(numRow_rel (κ:=id) (ρ:=id) (Q:=Q) (fun _ _ _ _=>Iff.rfl) (row s) st (hr s hq) h).2
    exact this
theorem minS {a:Auto}(ha:a.ok):∃fin,MinS a fin:=by
 have hA:=ha.faok
 have hlt:∀s,s<a.fa.n→clsR a.fa s<a.fa.n:=fun s hs=>Nat.lt_of_le_of_lt ((clsR_can a.fa).le s) hs
 have hrow:∀s,s<a.fa.n→∀b∈(rowF a.fa s).map (clsR a.fa),b<a.fa.n:=fun s hs b hb=>by
  obtain⟨c,hc,rfl⟩:=List.mem_map.1 hb
  obtain⟨x,hx,rfl⟩:=List.mem_map.1 hc
  exact hlt _ (hA.lt s x hs (List.mem_range.1 hx))
 have hrl:∀s,((rowF a.fa s).map (clsR a.fa)).length=a.fa.m:=fun s=>by simp[rowF]
 obtain⟨fin,p1,p2,p3,p4,p5,p6⟩:=bfsN_spec (row:=fun c=>(rowF a.fa c).map (clsR a.fa)) (n:=a.fa.n) hrow (a.fa.n+1) 0 [clsR a.fa 0] (by simp) (fun c hc=>by rw[List.mem_singleton.1 hc];exact hlt 0 hA.pos) (by simp) (by omega)
 rw[List.drop_zero] at p5
 have hL:minR a.fa=bfsN id (fun c=>(rowF a.fa c).map (clsR a.fa)) (a.fa.n+1) 0 [clsR a.fa 0]:=rfl
 rw[←hL] at p5 p6
 have hlen:(minR a.fa).length=fin.length:=by rw[←p5,List.length_map]
 have hkeys:=bfsN_keys (Q:=fun c=>clsR a.fa c=c) (row:=fun c=>(rowF a.fa c).map (clsR a.fa)) (fun s _ b hb=>by
  obtain⟨c,hc,rfl⟩:=List.mem_map.1 hb
  exact (clsR_can a.fa).fix c) (a.fa.n+1) 0 [clsR a.fa 0] (fun c hc=>by rw[List.mem_singleton.1 hc];exact (clsR_can a.fa).fix 0)
 rw[←hL] at hkeys
 refine⟨fin,p3,by simp only[List.length_singleton] at p2;omega,p4,fun c hc=>?_,p1 0 (by simp),hlen,fun i hi=>?_,fun i hi=>?_⟩
 ·rw[←p5] at hc
  obtain⟨e,he,rfl⟩:=List.mem_map.1 hc
  exact hkeys e he
 ·rw[←p5,List.getElem?_map,List.getElem?_eq_getElem hi];rfl
 ·obtain⟨q1,q2⟩:=p6 _ (List.getElem_mem hi)
  rw[hrl] at q1 q2
  refine⟨q1,fun x hx=>?_⟩
  rw[q2 x hx]
  simp[rowF,hx]
theorem MinS.nx {a:Auto}{fin:List Nat}(h:MinS a fin){i x:Nat}(hi:i<fin.length)(hx:x<a.fa.m):(minAutR a).fa.nx i x=((minR a.fa)[i]'(by rw[h.len];exact hi)).2.getD x 0:=by
 have hi':i<(minR a.fa).length:=by rw[h.len];exact hi
 have hx':x<(minR a.fa)[i].2.length:=by rw[(h.row i hi').1];exact hx
 show ((((minR a.fa).map fun x=>(false,nIs x.2)).getD i (true,[])).2.getD x 0).toNat=_
 have e:((minR a.fa).map fun x=>(false,nIs x.2)).getD i (true,[])=(false,nIs (minR a.fa)[i].2):=by
  rw[getD_at (by rw[List.length_map];exact hi'),List.getElem_map]
 rw[e]
 show ((nIs (minR a.fa)[i].2).getD x 0).toNat=_
 rw[getD_at (by rw[nIs_len];exact hx'),getD_at hx']
 simp[nIs]
theorem MinS.fr {a:Auto}{fin:List Nat}(h:MinS a fin){i x:Nat}(hi:i<fin.length)(hx:x<a.fa.m):(minAutR a).fa.fr i x=a.fa.fr (fin[i]) x:=by
 have hi':i<(minR a.fa).length:=by rw[h.len];exact hi
 have hk:=h.key i hi'
 rw[List.getElem?_eq_getElem hi] at hk
 show (((minR a.fa).map fun x=>(false,frow a.fa x.1)).getD i (true,[])).2.getD x false=_
 have e:((minR a.fa).map fun x=>(false,frow a.fa x.1)).getD i (true,[])=(false,frow a.fa (minR a.fa)[i].1):=by
  rw[getD_at (by rw[List.length_map];exact hi'),List.getElem_map]
 rw[e,Option.some.inj hk]
 show (frow a.fa (minR a.fa)[i].1).getD x false=_
 rw[getD_at (by rw[frow_len];exact hx),frow_at _ _ hx]
theorem minAutR_ok {a:Auto}(ha:a.ok):(minAutR a).ok:=by
 obtain⟨fin,h⟩:=minS ha
 have hfew:=ha.few
 have hle:=h.le
 have hlen:=h.len
 have hpos:=h.pos
 have hn:a.fa.n=a.next.length:=rfl
 have hln:(minAutR a).next.length=(minR a.fa).length:=by simp[minAutR]
 refine⟨ha.lines,by omega,by omega,by simp[minAutR],fun i hi=>?_,fun i hi=>?_⟩
 ·have hi':i<(minR a.fa).length:=by omega
  obtain⟨r1,r2⟩:=h.row i hi'
  rw[hln]
  simp only[minAutR,List.getElem_map]
  refine⟨by rw[nIs_len,r1];rfl,fun y hy=>?_⟩
  simp only[nIs] at hy
  obtain⟨k,hk,rfl⟩:=List.mem_map.1 hy
  obtain⟨x,hx,rfl⟩:=List.mem_iff_getElem.1 hk
  have:=r2 x (by rw[←r1];exact hx)
  rw[getD_at hx] at this
  have:=(List.getElem?_eq_some_iff.1 this).1
  omega
 ·simp only[minAutR,List.getElem_map]
  rw[frow_len];rfl
def simM (a:Auto)(fin:List Nat)(s i:Nat):Prop:=s<a.fa.n∧∃h:i<fin.length,fin[i]=clsR a.fa s
theorem MinS.sim {a:Auto}(ha:a.ok){fin:List Nat}(h:MinS a fin){s i x:Nat}(hs:simM a fin s i)(hx:x<a.fa.m):(minAutR a).fa.fr i x=a.fa.fr s x∧simM a fin (a.fa.nx s x) ((minAutR a).fa.nx i x):=by
 have hA:=ha.faok
 obtain⟨hs1,hi,he⟩:=hs
 have hi':i<(minR a.fa).length:=by rw[h.len];exact hi
 refine⟨by rw[h.fr hi hx,he,min_fr hA hs1 hx],hA.lt s x hs1 hx,?_⟩
 have hlt:clsR a.fa s<a.fa.n:=Nat.lt_of_le_of_lt ((clsR_can a.fa).le s) hs1
 have hE:=((clsR_iff hA hlt hs1).1 ((clsR_can a.fa).fix s) x hx).2
 have hk:=h.key i hi'
 rw[List.getElem?_eq_getElem hi,he] at hk
 have hr:=(h.row i hi').2 x hx
 rw[←Option.some.inj hk,hE] at hr
 rw[h.nx hi hx]
 obtain⟨q1,q2⟩:=List.getElem?_eq_some_iff.1 hr
 exact⟨q1,q2⟩
theorem min_times {a:Auto}(ha:a.ok){l:List Int}(hl:∀i,i<l.length→symN l i<a.fa.m):(runF (minAutR a).fa l l.length 0 0).1=(runF a.fa l l.length 0 0).1:=by
 obtain⟨fin,h⟩:=minS ha
 rw[times_eq,times_eq]
 congr 1
 refine List.filter_congr fun i hi=>?_
 have hi:=List.mem_range.1 hi
 have h0:simM a fin 0 0:=⟨ha.faok.pos,h.pos,by have:=h.z;rw[List.getElem?_eq_getElem h.pos] at this;exact Option.some.inj this⟩
 have hs:=stF_sim (A:=a.fa) (Q:=(minAutR a).fa) (m:=a.fa.m) (R:=simM a fin) (l:=l) (fun s q x hq hx=>(h.sim ha hq hx).2) i 0 0 0 (fun j hj=>by rw[Nat.zero_add];exact hl j (by omega)) h0
 exact (h.sim ha hs (hl i hi)).1
section
variable {a b:Auto}{f:Bool→Bool→Bool}{i x:Nat}
theorem prodA_n:(prodA a b f).fa.n=(prodT a b).length:=by
 show ((prodT a b).map fun c=>(false,nIs (prodRow a b c))).length=_
 rw[List.length_map]
theorem prodA_nx (hi:i<(prodT a b).length)(hx:x<2^a.lines.toNat):(prodA a b f).fa.nx i x=idxN (prodT a b) ((prodF a.fa b.fa).nx (prodT a b)[i] x):=by
 have e:((prodT a b).map fun c=>(false,nIs (prodRow a b c))).getD i (true,[])=(false,nIs (prodRow a b (prodT a b)[i])):=by
  rw[getD_at (by rw[List.length_map];exact hi),List.getElem_map]
 show ((((prodT a b).map fun c=>(false,nIs (prodRow a b c))).getD i (true,[])).2.getD x 0).toNat=_
 rw[e]
 show ((nIs (prodRow a b (prodT a b)[i])).getD x 0).toNat=_
 have hl:x<(nIs (prodRow a b (prodT a b)[i])).length:=by rw[nIs_len];simp[prodRow];exact hx
 rw[getD_at hl]
 simp[nIs,prodRow]
theorem prodA_fr (hi:i<(prodT a b).length)(hx:x<2^a.lines.toNat):(prodA a b f).fa.fr i x=f (a.fa.fr ((prodT a b)[i] / b.fa.n) x) (b.fa.fr ((prodT a b)[i]%b.fa.n) x):=by
 have e:((prodT a b).map fun c=>(false,prodFr a b f c)).getD i (true,[])=(false,prodFr a b f (prodT a b)[i]):=by
  rw[getD_at (by rw[List.length_map];exact hi),List.getElem_map]
 show (((prodT a b).map fun c=>(false,prodFr a b f c)).getD i (true,[])).2.getD x false=_
 rw[e]
 show (prodFr a b f (prodT a b)[i]).getD x false=_
 have hl:x<(prodFr a b f (prodT a b)[i]).length:=by simp[prodFr];exact hx
 rw[getD_at hl]
 simp[prodFr]
theorem prodA_step (ha:a.ok)(hb:b.ok)(hlb:a.lines=b.lines)(hi:i<(prodT a b).length)(hx:x<2^a.lines.toNat):(prodT a b)[(prodA a b f).fa.nx i x]? = some ((prodF a.fa b.fa).nx (prodT a b)[i] x):=by
 rw[prodA_nx hi hx]
 exact idxN_at ((prodI ha hb hlb).cl _ (List.getElem_mem hi) x hx)
theorem prodT_0 (ha:a.ok)(hb:b.ok)(hlb:a.lines=b.lines):(prodT a b)[0]? = some 0:=by
 have h:=visAll_spec (prodF_okA ha hb hlb) fun _ _=>true
 obtain⟨R,hR⟩:=h.pre
 unfold prodT
 rw[hR]
 rfl
theorem prod_times (ha:a.ok)(hb:b.ok)(hlb:a.lines=b.lines){l:List Int}(hl:∀i,i<l.length→symN l i<2^a.lines.toNat) :
  (runF (prodA a b f).fa l l.length 0 0).1=((List.range l.length).filter fun i=>f (fireAt a.fa l i) (fireAt b.fa l i)).map fun i=>((i:Nat):Int):=by
 rw[times_eq]
 congr 1
 refine List.filter_congr fun i hi=>?_
 have hi:=List.mem_range.1 hi
 have hlt0:(prodA a b f).fa.m=2^a.lines.toNat:=rfl
 have h1:=stF_sim (A:=a.fa) (Q:=(prodA a b f).fa) (m:=2^a.lines.toNat) (R:=fun s q=>s<a.fa.n∧∃h:q<(prodT a b).length,(prodT a b)[q] / b.fa.n=s) (l:=l) (fun s q x hq hx=>by
  obtain⟨hs,h,e⟩:=hq
  refine⟨ha.faok.lt s x hs hx,?_⟩
  obtain⟨q1,q2⟩:=List.getElem?_eq_some_iff.1 (prodA_step (f:=f) ha hb hlb h hx)
  refine⟨q1,?_⟩
  rw[q2]
  have hc:(prodT a b)[q]<(prodF a.fa b.fa).n:=(prodI ha hb hlb).lt _ (List.getElem_mem h)
  have hb2:=hb.faok.lt ((prodT a b)[q]%b.fa.n) x (Nat.mod_lt _ hb.pos) (by show x<2^b.lines.toNat;rw[←hlb];exact hx)
  show (a.fa.nx ((prodT a b)[q] / b.fa.n) x*b.fa.n+b.fa.nx ((prodT a b)[q]%b.fa.n) x) / b.fa.n=_
  rw[pair_div hb2,e]) i 0 0 0 (fun j hj=>by rw[Nat.zero_add];exact hl j (by omega)) ⟨ha.faok.pos,(prodI ha hb hlb).pos,by
   have:=prodT_0 ha hb hlb
   rw[List.getElem?_eq_getElem (prodI ha hb hlb).pos] at this
   rw[Option.some.inj this];exact Nat.zero_div _⟩
 have h2:=stF_sim (A:=b.fa) (Q:=(prodA a b f).fa) (m:=2^a.lines.toNat) (R:=fun s q=>s<b.fa.n∧∃h:q<(prodT a b).length,(prodT a b)[q]%b.fa.n=s) (l:=l) (fun s q x hq hx=>by
  obtain⟨hs,h,e⟩:=hq
  have hxb:x<b.fa.m:=by show x<2^b.lines.toNat;rw[←hlb];exact hx
  refine⟨hb.faok.lt s x hs hxb,?_⟩
  obtain⟨q1,q2⟩:=List.getElem?_eq_some_iff.1 (prodA_step (f:=f) ha hb hlb h hx)
  refine⟨q1,?_⟩
  rw[q2]
  have hb2:=hb.faok.lt ((prodT a b)[q]%b.fa.n) x (Nat.mod_lt _ hb.pos) hxb
  show (a.fa.nx ((prodT a b)[q] / b.fa.n) x*b.fa.n+b.fa.nx ((prodT a b)[q]%b.fa.n) x)%b.fa.n=_
  rw[pair_mod hb2,e]) i 0 0 0 (fun j hj=>by rw[Nat.zero_add];exact hl j (by omega)) ⟨hb.faok.pos,(prodI ha hb hlb).pos,by
   have:=prodT_0 ha hb hlb
   rw[List.getElem?_eq_getElem (prodI ha hb hlb).pos] at this
   rw[Option.some.inj this];exact Nat.zero_mod _⟩
 obtain⟨_,h3,e1⟩:=h1
 obtain⟨_,_,e2⟩:=h2
 show (prodA a b f).fa.fr (stF (prodA a b f).fa l i 0 0) (symN l i)=_
 rw[prodA_fr h3 (hl i hi),e1,e2]
 rfl
end
theorem bfsN_fuel {row:Nat→List Nat}{n:Nat}(hrow:∀a,a<n→∀b∈row a,b<n):∀(f f' i:Nat) (st:List Nat),(st.map id).Nodup→(∀a∈st,a<n)→i≤st.length→n+1≤f+i→n+1≤f'+i→bfsN id row f i st=bfsN id row f' i st
 |0,_,i,st,h,hn,hi,hf,_=>by
  have:=nodup_few h hn
  omega
 |_+1,0,i,st,h,hn,hi,_,hf=>by
  have:=nodup_few h hn
  omega
 |f+1,f'+1,i,st,h,hn,hi,hf,hf'=>by
  rw[bfsN,bfsN]
  cases hs:st[i]? with
  |none=>rfl
  |some s =>
   have hil:i<st.length:=(List.getElem?_eq_some_iff.1 hs).1
   have hsn:=hn s (List.mem_of_getElem? hs)
   obtain⟨n1,n2,_⟩:=numRow_nd (row s) st h
   simp only
   rw[bfsN_fuel hrow f f' (i+1) _ n1 (numRow_lt _ _ (hrow s hsn) hn) (by omega) (by omega) (by omega)]
theorem min_same {a q:Auto}(ha:a.ok)(hq:q.ok)(hl:q.lines=a.lines){ψ:Nat→Nat}(h0:ψ 0=0)(hlt:∀i,i<q.fa.n→ψ i<a.fa.n)
  (hnx:∀i x,i<q.fa.n→x<a.fa.m→ψ (q.fa.nx i x)=a.fa.nx (ψ i) x)(hfr:∀i x,i<q.fa.n→x<a.fa.m→q.fa.fr i x=a.fa.fr (ψ i) x):minAutR q=minAutR a:=by
 have hA:=ha.faok
 have hQ:=hq.faok
 have hm:q.fa.m=a.fa.m:=by show 2^q.lines.toNat=2^a.lines.toNat;rw[hl]
 have hcls:∀i j,i<q.fa.n→j<q.fa.n→(clsR q.fa i=clsR q.fa j↔clsR a.fa (ψ i)=clsR a.fa (ψ j)):=fun i j hi hj=>by
  constructor
  ·intro h
   refine clsR_bis (A:=a.fa) (B:=fun u v=>∃i j,i<q.fa.n∧j<q.fa.n∧clsR q.fa i=clsR q.fa j∧u=ψ i∧v=ψ j) ⟨?_,?_,?_⟩ _ _ ⟨i,j,hi,hj,h,rfl,rfl⟩
   ·rintro u v ⟨i,j,hi,hj,_,rfl,rfl⟩;exact⟨hlt i hi,hlt j hj⟩
   ·rintro u v ⟨i,j,hi,hj,h,rfl,rfl⟩ x hx
    rw[←hfr i x hi hx,←hfr j x hj hx]
    exact ((clsR_iff hQ hi hj).1 h x (by rw[hm];exact hx)).1
   ·rintro u v ⟨i,j,hi,hj,h,rfl,rfl⟩ x hx
    have hx':x<q.fa.m:=by rw[hm];exact hx
    exact⟨_,_,hQ.lt i x hi hx',hQ.lt j x hj hx',((clsR_iff hQ hi hj).1 h x hx').2,(hnx i x hi hx).symm,(hnx j x hj hx).symm⟩
  ·intro h
   refine clsR_bis (A:=q.fa) (B:=fun u v=>u<q.fa.n∧v<q.fa.n∧clsR a.fa (ψ u)=clsR a.fa (ψ v)) ⟨fun u v k=>⟨k.1,k.2.1⟩,?_,?_⟩ _ _ ⟨hi,hj,h⟩
   ·rintro u v ⟨hu,hv,h⟩ x hx
    have hx':x<a.fa.m:=by rw[←hm];exact hx
    rw[hfr u x hu hx',hfr v x hv hx']
    exact ((clsR_iff hA (hlt u hu) (hlt v hv)).1 h x hx').1
   ·rintro u v ⟨hu,hv,h⟩ x hx
    have hx':x<a.fa.m:=by rw[←hm];exact hx
    refine⟨hQ.lt u x hu hx,hQ.lt v x hv hx,?_⟩
    rw[hnx u x hu hx',hnx v x hv hx']
    exact ((clsR_iff hA (hlt u hu) (hlt v hv)).1 h x hx').2
 obtain⟨e1,k1⟩:=min_eq hQ (cl:=clsR q.fa) fun _ _ _ _=>Iff.rfl
 have hr:∀s,s<q.fa.n→(fun c=>(rowF a.fa c).map (clsR a.fa)) (clsR a.fa (ψ s))=(rowF q.fa s).map (fun i=>clsR a.fa (ψ i))∧∀b∈rowF q.fa s,b<q.fa.n:=fun s hs=>by
  have hs':=hlt s hs
  refine⟨?_,fun b hb=>?_⟩
  ·have hl':clsR a.fa (ψ s)<a.fa.n:=Nat.lt_of_le_of_lt ((clsR_can a.fa).le _) hs'
   have he:=(clsR_iff hA hl' hs').1 ((clsR_can a.fa).fix (ψ s))
   simp only[rowF,List.map_map]
   rw[hm]
   refine List.map_congr_left fun x hx=>?_
   have hx:=List.mem_range.1 hx
   show clsR a.fa (a.fa.nx (clsR a.fa (ψ s)) x)=clsR a.fa (ψ (q.fa.nx s x))
   rw[(he x hx).2,hnx s x hs hx]
  ·obtain⟨x,hx,rfl⟩:=List.mem_map.1 hb
   exact hQ.lt s x hs (List.mem_range.1 hx)
 obtain⟨e2,_⟩:=bfsN_rel (κ:=clsR q.fa) (ρ:=fun i=>clsR a.fa (ψ i)) (Q:=fun i=>i<q.fa.n) hcls (row:=rowF q.fa) (row':=fun c=>(rowF a.fa c).map (clsR a.fa)) hr (q.fa.n+1+(a.fa.n+1)) 0 [0] fun b hb=>by rw[List.mem_singleton.1 hb];exact hQ.pos
 obtain⟨e3,k3⟩:=bfsN_rel (κ:=clsR q.fa) (ρ:=clsR q.fa) (Q:=fun i=>i<q.fa.n) (fun _ _ _ _=>Iff.rfl) (row:=rowF q.fa) (row':=fun c=>(rowF q.fa c).map (clsR q.fa)) (fun s hs=>by
  refine⟨?_,fun b hb=>?_⟩
  ·have hl':clsR q.fa s<q.fa.n:=Nat.lt_of_le_of_lt ((clsR_can q.fa).le _) hs
   have he:=(clsR_iff hQ hl' hs).1 ((clsR_can q.fa).fix s)
   simp only[rowF,List.map_map]
   refine List.map_congr_left fun x hx=>?_
   exact (he x (List.mem_range.1 hx)).2
  ·obtain⟨x,hx,rfl⟩:=List.mem_map.1 hb
   exact hQ.lt s x hs (List.mem_range.1 hx)) (q.fa.n+1+(a.fa.n+1)) 0 [0] fun b hb=>by rw[List.mem_singleton.1 hb];exact hQ.pos
 have hrowA:∀s,s<a.fa.n→∀b∈(rowF a.fa s).map (clsR a.fa),b<a.fa.n:=fun s hs b hb=>by
  obtain⟨c,hc,rfl⟩:=List.mem_map.1 hb
  obtain⟨x,hx,rfl⟩:=List.mem_map.1 hc
  exact Nat.lt_of_le_of_lt ((clsR_can a.fa).le _) (hA.lt s x hs (List.mem_range.1 hx))
 have hrowQ:∀s,s<q.fa.n→∀b∈(rowF q.fa s).map (clsR q.fa),b<q.fa.n:=fun s hs b hb=>by
  obtain⟨c,hc,rfl⟩:=List.mem_map.1 hb
  obtain⟨x,hx,rfl⟩:=List.mem_map.1 hc
  exact Nat.lt_of_le_of_lt ((clsR_can q.fa).le _) (hQ.lt s x hs (List.mem_range.1 hx))
 have m1:minR a.fa=(bfsN (clsR q.fa) (rowF q.fa) (q.fa.n+1+(a.fa.n+1)) 0 [0]).map fun x=>(clsR a.fa (ψ x.1),x.2):=by
  rw[←e2]
  show bfsN id (fun c=>(rowF a.fa c).map (clsR a.fa)) (a.fa.n+1) 0 [clsR a.fa 0]=bfsN id (fun c=>(rowF a.fa c).map (clsR a.fa)) (q.fa.n+1+(a.fa.n+1)) 0 [clsR a.fa (ψ 0)]
  rw[h0]
  exact bfsN_fuel hrowA _ _ 0 _ (by simp) (fun c hc=>by rw[List.mem_singleton.1 hc];exact Nat.lt_of_le_of_lt ((clsR_can a.fa).le _) hA.pos) (by simp) (by omega) (by omega)
 have m2:minR q.fa=(bfsN (clsR q.fa) (rowF q.fa) (q.fa.n+1+(a.fa.n+1)) 0 [0]).map fun x=>(clsR q.fa x.1,x.2):=by
  rw[←e3]
  show bfsN id (fun c=>(rowF q.fa c).map (clsR q.fa)) (q.fa.n+1) 0 [clsR q.fa 0]=bfsN id (fun c=>(rowF q.fa c).map (clsR q.fa)) (q.fa.n+1+(a.fa.n+1)) 0 [clsR q.fa 0]
  exact bfsN_fuel hrowQ _ _ 0 _ (by simp) (fun c hc=>by rw[List.mem_singleton.1 hc];exact Nat.lt_of_le_of_lt ((clsR_can q.fa).le _) hQ.pos) (by simp) (by omega) (by omega)
 unfold minAutR
 rw[m1,m2,hl]
 simp only[List.map_map,Function.comp_def]
 have hfre:∀x∈bfsN (clsR q.fa) (rowF q.fa) (q.fa.n+1+(a.fa.n+1)) 0 [0],frow q.fa (clsR q.fa x.1)=frow a.fa (clsR a.fa (ψ x.1)):=fun x hx=>by
  have hxn:=k3 x hx
  unfold frow
  rw[hm]
  refine List.map_congr_left fun y hy=>?_
  have hy:=List.mem_range.1 hy
  rw[min_fr hQ hxn (by rw[hm];exact hy),min_fr hA (hlt _ hxn) hy,hfr _ y hxn hy]
 congr 1
 exact List.map_congr_left fun x hx=>by rw[hfre x hx]
end Go.Am
namespace Go.Am
open Go
variable [MaxLen]
theorem prodT_diag {a:Auto}(ha:a.ok):∀c∈prodT a a,c%a.fa.n=c / a.fa.n:=by
 have hA:=ha.faok
 have key:visAll (prodF a.fa a.fa) (fun _ _=>true)=(mapT (fun s=>s*a.fa.n+s) (visAll a.fa fun _ _=>true).1,(visAll a.fa fun _ _=>true).2):=by
  refine visAll_map (φ:=fun s=>s*a.fa.n+s) hA (fun u v hu hv h=>?_) rfl ?_ (by simp) fun s x hs hx=>?_
  ·have h1:=pair_div (a:=u) (b:=u) hu
   have h2:=pair_div (a:=v) (b:=v) hv
   rw[h] at h1
   omega
  ·exact Nat.le_mul_of_pos_right _ hA.pos
  ·have h1:=pair_div (a:=s) (b:=s) hs
   have h2:=pair_mod (a:=s) (b:=s) hs
   refine⟨?_,rfl⟩
   show a.fa.nx ((s*a.fa.n+s) / a.fa.n) x*a.fa.n+a.fa.nx ((s*a.fa.n+s)%a.fa.n) x=_
   rw[h1,h2]
 intro c hc
 unfold prodT codes at hc
 rw[key] at hc
 simp only[mapT,List.map_map] at hc
 obtain⟨t,ht,rfl⟩:=List.mem_map.1 hc
 have hs:t.1<a.fa.n:=(visAll_spec hA fun _ _=>true).inv.lt t ht
 show (t.1*a.fa.n+t.1)%a.fa.n=(t.1*a.fa.n+t.1) / a.fa.n
 rw[pair_mod hs,pair_div hs]
theorem min_self {a:Auto}(ha:a.ok)(hn:a.fa.n*a.fa.n≤256){f:Bool→Bool→Bool}(hf:∀p,f p p=p):minAutR (prodA a a f)=minAutR a:=by
 have hA:=ha.faok
 have hP:=prodI ha ha rfl
 have hT0:=prodT_0 ha ha rfl
 have hg:∀i (h:i<(prodT a a).length),gt (prodT a a) i=(prodT a a)[i]:=fun i h=>gt_get h
 refine min_same ha (prodA_ok ha ha rfl hn f) rfl (ψ:=fun i=>gt (prodT a a) i / a.fa.n) ?_ (fun i hi=>?_) (fun i x hi hx=>?_) fun i x hi hx=>?_
 ·have h0:=hP.pos
  rw[List.getElem?_eq_getElem h0] at hT0
  simp only[hg 0 h0,Option.some.inj hT0,Nat.zero_div]
 ·rw[prodA_n] at hi
  simp only[hg i hi]
  exact Nat.div_lt_of_lt_mul (hP.lt _ (List.getElem_mem hi))
 ·rw[prodA_n] at hi
  obtain⟨q1,q2⟩:=List.getElem?_eq_some_iff.1 (prodA_step (f:=f) ha ha rfl hi hx)
  have hc:=hP.lt _ (List.getElem_mem hi)
  have hb2:=hA.lt ((prodT a a)[i]%a.fa.n) x (Nat.mod_lt _ ha.pos) hx
  simp only[hg i hi,hg _ q1,q2]
  show (a.fa.nx ((prodT a a)[i] / a.fa.n) x*a.fa.n+a.fa.nx ((prodT a a)[i]%a.fa.n) x) / a.fa.n=_
  rw[pair_div hb2]
 ·rw[prodA_n] at hi
  simp only[hg i hi]
  rw[prodA_fr hi hx,prodT_diag ha _ (List.getElem_mem hi),hf]
end Go.Am
namespace Go.Am
open Go
def sx (l:List Bool)(t:Nat):Prop:=l.getD t false=true
theorem sx_set {l:List Bool}{q t:Nat}(hq:q<l.length):sx (l.set q true) t↔sx l t∨t=q:=by
 unfold sx
 rw[List.getD_eq_getElem?_getD,List.getD_eq_getElem?_getD,List.getElem?_set]
 by_cases h:q=t
 ·subst h;simp[hq]
 ·simp[h];intro e;exact absurd e.symm h
def putL (z:List Bool×List Nat)(q:Nat):List Bool×List Nat:=bif z.1.getD q false then z else (z.1.set q true,z.2++[q])
def prow (A:Fa)(q:Nat):Nat→Nat→List Bool×List Nat→Option (List Bool×List Nat)
 |0,_,z=>some z
 |r+1,x,z=>bif A.fr q x then none else prow A q r (x+1) (putL z (A.nx q x))
def pround (A:Fa):List Nat→List Bool×List Nat→Option (List Bool×List Nat)
 |[],z=>some z
 |q::l,z=>match prow A q A.m 0 z with
  |none=>none
  |some z=>pround A l z
def ploop (A:Fa):Nat→Nat→List Bool×List Nat→Nat
 |0,_,_=>0
 |f+1,d,z=>match z.2 with
  |[]=>0
  |q::l=>match pround A (q::l) (z.1,[]) with
   |none=>d
   |some z=>ploop A f (d+1) z
def rrow (A:Fa)(q:Nat):Nat→Nat→List Bool→Option (List Bool)
 |0,_,z=>some z
 |r+1,x,z=>bif A.fr q x then none else rrow A q r (x+1) (z.set (A.nx q x) true)
def rround (A:Fa)(now:List Bool):Nat→Nat→List Bool×List Bool→Option (List Bool×List Bool)
 |0,_,z=>some z
 |r+1,s,z=>bif (!now.getD s false)||z.1.getD s false then rround A now r (s+1) z else match rrow A s A.m 0 z.2 with
  |none=>none
  |some nx=>rround A now r (s+1) (z.1.set s true,nx)
def rloop (A:Fa):Nat→Nat→List Bool×List Bool→Nat
 |0,_,_=>0
 |r+1,d,z=>match rround A z.2 A.n 0 (z.1,List.replicate A.n false) with
  |none=>d
  |some z=>rloop A r (d+1) z
theorem sx_rep (n t:Nat):¬sx (List.replicate n false) t:=by
 unfold sx
 rw[List.getD_eq_getElem?_getD,List.getElem?_replicate]
 by_cases h:t<n <;> simp[h]
structure PutS (n:Nat)(z z':List Bool×List Nat)(P:Nat→Prop):Prop where
 len:z'.1.length=n
 seen:∀t,sx z'.1 t↔sx z.1 t∨P t
 lay:∀t,t∈z'.2↔t∈z.2∨(P t∧¬sx z.1 t)
theorem PutS.trans {n:Nat}{z z1 z2:List Bool×List Nat}{P Q:Nat→Prop}(h:PutS n z z1 P)(h':PutS n z1 z2 Q):PutS n z z2 fun t=>P t∨Q t:=by
 refine⟨h'.len,fun t=>?_,fun t=>?_⟩
 ·rw[h'.seen,h.seen,or_assoc]
 ·rw[h'.lay,h.lay,h.seen]
  by_cases h1:P t <;> by_cases h2:Q t <;> by_cases h3:sx z.1 t <;> simp[h1,h2,h3]
theorem PutS.congr {n:Nat}{z z':List Bool×List Nat}{P Q:Nat→Prop}(h:PutS n z z' P)(e:∀t,P t↔Q t):PutS n z z' Q:=by
 have:P=Q:=funext fun t=>propext (e t)
 rw[←this];exact h
theorem putL_spec {n q:Nat}{z:List Bool×List Nat}(hl:z.1.length=n)(hq:q<n):PutS n z (putL z q) fun t=>t=q:=by
 unfold putL
 cases h:z.1.getD q false with
 |true =>
  rw[cond_true]
  refine⟨hl,fun t=>⟨.inl,?_⟩,fun t=>⟨.inl,?_⟩⟩
  ·rintro (h1|rfl)
   ·exact h1
   ·exact h
  ·rintro (h1|⟨rfl,h1⟩)
   ·exact h1
   ·exact absurd h h1
 |false =>
  rw[cond_false]
  refine⟨by rw[List.length_set];exact hl,fun t=>sx_set (by omega),fun t=>?_⟩
  rw[List.mem_append,List.mem_singleton]
  constructor
  ·rintro (h1|rfl)
   ·exact .inl h1
   ·exact .inr ⟨rfl,by unfold sx;rw[h];simp⟩
  ·rintro (h1|⟨h1,_⟩)
   ·exact .inl h1
   ·exact .inr h1
theorem prow_spec {A:Fa}(hA:A.ok){q:Nat}(hq:q<A.n):∀(r x:Nat) (z:List Bool×List Nat),z.1.length=A.n→x+r≤A.m→(prow A q r x z=none∧∃w,x≤w∧w<x+r∧A.fr q w=true)∨((∀w,x≤w→w<x+r→A.fr q w=false)∧∃z',prow A q r x z=some z'∧PutS A.n z z' fun t=>∃w,x≤w∧w<x+r∧A.nx q w=t)
 |0,x,z,hl,_=>.inr ⟨fun w h1 h2=>by omega,z,rfl,hl,fun t=>⟨.inl,fun h=>by rcases h with h|⟨w,h1,h2,_⟩;exact h;omega⟩,fun t=>⟨.inl,fun h=>by rcases h with h|⟨⟨w,h1,h2,_⟩,_⟩;exact h;omega⟩⟩
 |r+1,x,z,hl,hx=>by
  rw[prow]
  cases hf:A.fr q x with
  |true=>exact .inl ⟨rfl,x,Nat.le_refl _,by omega,hf⟩
  |false =>
   rw[cond_false]
   have h1:=putL_spec (z:=z) hl (hA.lt q x hq (by omega))
   rcases prow_spec hA hq r (x+1) _ h1.len (by omega) with⟨h2,w,h3,h4,h5⟩|⟨h2,z',h3,h4⟩
   ·exact .inl ⟨h2,w,by omega,by omega,h5⟩
   ·refine .inr ⟨fun w w1 w2=>?_,z',h3,(h1.trans h4).congr fun t=>?_⟩
    ·by_cases e:w=x
     ·rw[e];exact hf
     ·exact h2 w (by omega) (by omega)
    ·constructor
     ·rintro (rfl|⟨w,w1,w2,w3⟩)
      ·exact⟨x,Nat.le_refl _,by omega,rfl⟩
      ·exact⟨w,by omega,by omega,w3⟩
     ·rintro⟨w,w1,w2,w3⟩
      by_cases e:w=x
      ·subst e;exact .inl w3.symm
      ·exact .inr ⟨w,by omega,by omega,w3⟩
theorem pround_spec {A:Fa}(hA:A.ok):∀(l:List Nat) (z:List Bool×List Nat),(∀q∈l,q<A.n)→z.1.length=A.n→(pround A l z=none∧∃q∈l,∃w,w<A.m∧A.fr q w=true)∨((∀q∈l,∀w,w<A.m→A.fr q w=false)∧∃z',pround A l z=some z'∧PutS A.n z z' fun t=>∃q∈l,∃w,w<A.m∧A.nx q w=t)
 |[],z,_,hl=>.inr ⟨fun q hq=>by simp at hq,z,rfl,hl,fun t=>by simp,fun t=>by simp⟩
 |q::l,z,hln,hl=>by
  rw[pround]
  have hq:=hln q (List.mem_cons_self ..)
  rcases prow_spec hA hq A.m 0 z hl (by omega) with⟨h2,w,h3,h4,h5⟩|⟨h2,z1,h3,h4⟩
  ·rw[h2]
   exact .inl ⟨rfl,q,List.mem_cons_self ..,w,by omega,h5⟩
  ·rw[h3]
   simp only
   rcases pround_spec hA l z1 (fun a ha=>hln a (List.mem_cons_of_mem _ ha)) h4.len with⟨k2,p,k3,w,k4,k5⟩|⟨k2,z',k3,k4⟩
   ·exact .inl ⟨k2,p,List.mem_cons_of_mem _ k3,w,k4,k5⟩
   ·refine .inr ⟨fun p hp w hw=>?_,z',k3,(h4.trans k4).congr fun t=>?_⟩
    ·rcases List.mem_cons.1 hp with rfl|hp
     ·exact h2 w (Nat.zero_le _) (by omega)
     ·exact k2 p hp w hw
    ·constructor
     ·rintro (⟨w,_,w2,w3⟩|⟨p,hp,w,w2,w3⟩)
      ·exact⟨q,List.mem_cons_self ..,w,by omega,w3⟩
      ·exact⟨p,List.mem_cons_of_mem _ hp,w,w2,w3⟩
     ·rintro⟨p,hp,w,w2,w3⟩
      rcases List.mem_cons.1 hp with rfl|hp
      ·exact .inl ⟨w,Nat.zero_le _,by omega,w3⟩
      ·exact .inr ⟨p,hp,w,w2,w3⟩
theorem rrow_spec {A:Fa}(hA:A.ok){q:Nat}(hq:q<A.n):∀(r x:Nat) (z:List Bool),z.length=A.n→x+r≤A.m→(rrow A q r x z=none∧∃w,x≤w∧w<x+r∧A.fr q w=true)∨((∀w,x≤w→w<x+r→A.fr q w=false)∧∃z',rrow A q r x z=some z'∧z'.length=A.n∧∀t,sx z' t↔sx z t∨∃w,x≤w∧w<x+r∧A.nx q w=t)
 |0,x,z,hl,_=>.inr ⟨fun w h1 h2=>by omega,z,rfl,hl,fun t=>⟨.inl,fun h=>by rcases h with h|⟨w,h1,h2,_⟩;exact h;omega⟩⟩
 |r+1,x,z,hl,hx=>by
  rw[rrow]
  cases hf:A.fr q x with
  |true=>exact .inl ⟨rfl,x,Nat.le_refl _,by omega,hf⟩
  |false =>
   rw[cond_false]
   have hlt:=hA.lt q x hq (by omega)
   rcases rrow_spec hA hq r (x+1) (z.set (A.nx q x) true) (by rw[List.length_set];exact hl) (by omega) with⟨h2,w,h3,h4,h5⟩|⟨h2,z',h3,h4,h6⟩
   ·exact .inl ⟨h2,w,by omega,by omega,h5⟩
   ·refine .inr ⟨fun w w1 w2=>?_,z',h3,h4,fun t=>?_⟩
    ·by_cases e:w=x
     ·rw[e];exact hf
     ·exact h2 w (by omega) (by omega)
    ·rw[h6,sx_set (by omega)]
     constructor
     ·rintro ((h|rfl)|⟨w,w1,w2,w3⟩)
      ·exact .inl h
      ·exact .inr ⟨x,Nat.le_refl _,by omega,rfl⟩
      ·exact .inr ⟨w,by omega,by omega,w3⟩
     ·rintro (h|⟨w,w1,w2,w3⟩)
      ·exact .inl (.inl h)
      ·by_cases e:w=x
       ·subst e;exact .inl (.inr w3.symm)
       ·exact .inr ⟨w,by omega,by omega,w3⟩
theorem rround_spec {A:Fa}(hA:A.ok)(now:List Bool):∀(r s:Nat) (z:List Bool×List Bool),z.1.length=A.n→z.2.length=A.n→s+r≤A.n →
  (rround A now r s z=none∧∃q,s≤q∧q<s+r∧sx now q∧¬sx z.1 q∧∃w,w<A.m∧A.fr q w=true)∨((∀q,s≤q→q<s+r→sx now q→¬sx z.1 q→∀w,w<A.m→A.fr q w=false)∧∃z',rround A now r s z=some z'∧z'.1.length=A.n∧z'.2.length=A.n ∧
   (∀t,sx z'.1 t↔sx z.1 t∨(s≤t∧t<s+r∧sx now t))∧∀t,sx z'.2 t↔sx z.2 t∨∃q,s≤q∧q<s+r∧sx now q∧¬sx z.1 q∧∃w,w<A.m∧A.nx q w=t)
 |0,s,z,h1,h2,_=>.inr ⟨fun q a1 a2=>by omega,z,rfl,h1,h2,fun t=>⟨.inl,fun h=>by rcases h with h|h;exact h;omega⟩,fun t=>⟨.inl,fun h=>by rcases h with h|⟨q,a1,a2,_⟩;exact h;omega⟩⟩
 |r+1,s,z,h1,h2,hs=>by
  rw[rround]
  cases hg:(!now.getD s false)||z.1.getD s false with
  |true =>
   rw[cond_true]
   have hno:¬(sx now s∧¬sx z.1 s):=by
    rintro⟨a1,a2⟩
    unfold sx at a1 a2
    rw[a1] at hg
    simp at hg a2
    rw[a2] at hg;cases hg
   rcases rround_spec hA now r (s+1) z h1 h2 (by omega) with⟨k1,q,k2,k3,k4⟩|⟨k1,z',k2,k3,k4,k5,k6⟩
   ·exact .inl ⟨k1,q,by omega,by omega,k4⟩
   ·refine .inr ⟨fun q a1 a2 a3 a4=>?_,z',k2,k3,k4,fun t=>?_,fun t=>?_⟩
    ·by_cases e:q=s
     ·subst e;exact absurd ⟨a3,a4⟩ hno
     ·exact k1 q (by omega) (by omega) a3 a4
    ·rw[k5]
     constructor
     ·rintro (h|⟨a1,a2,a3⟩)
      ·exact .inl h
      ·exact .inr ⟨by omega,by omega,a3⟩
     ·rintro (h|⟨a1,a2,a3⟩)
      ·exact .inl h
      ·by_cases e:t=s
       ·subst e
        exact .inl (Classical.byContradiction fun h=>hno ⟨a3,h⟩)
       ·exact .inr ⟨by omega,by omega,a3⟩
    ·rw[k6]
     constructor
     ·rintro (h|⟨q,a1,a2,a3⟩)
      ·exact .inl h
      ·exact .inr ⟨q,by omega,by omega,a3⟩
     ·rintro (h|⟨q,a1,a2,a3,a4,a5⟩)
      ·exact .inl h
      ·by_cases e:q=s
       ·subst e;exact absurd ⟨a3,a4⟩ hno
       ·exact .inr ⟨q,by omega,by omega,a3,a4,a5⟩
  |false =>
   rw[cond_false]
   have hyes:sx now s∧¬sx z.1 s:=by
    unfold sx
    rw[Bool.or_eq_false_iff,Bool.not_eq_false'] at hg
    exact⟨hg.1,by rw[hg.2];simp⟩
   rcases rrow_spec hA (q:=s) (by omega) A.m 0 z.2 h2 (by omega) with⟨k1,w,k2,k3,k4⟩|⟨k1,nx,k2,k3,k4⟩
   ·rw[k1]
    exact .inl ⟨rfl,s,Nat.le_refl _,by omega,hyes.1,hyes.2,w,by omega,k4⟩
   ·rw[k2]
    simp only
    have hset:∀t,sx (z.1.set s true) t↔sx z.1 t∨t=s:=fun t=>sx_set (by omega)
    rcases rround_spec hA now r (s+1) (z.1.set s true,nx) (by simp only[List.length_set];exact h1) k3 (by omega) with⟨l1,q,l2,l3,l4,l5,l6⟩|⟨l1,z',l2,l3,l4,l5,l6⟩
    ·refine .inl ⟨l1,q,by omega,by omega,l4,fun h=>l5 ((hset q).2 (.inl h)),l6⟩
    ·simp only[hset] at l1 l5 l6
     refine .inr ⟨fun q a1 a2 a3 a4=>?_,z',l2,l3,l4,fun t=>?_,fun t=>?_⟩
     ·by_cases e:q=s
      ·subst e;exact fun w hw=>k1 w (Nat.zero_le _) (by omega)
      ·exact l1 q (by omega) (by omega) a3 (fun h=>by rcases h with h|h;exact a4 h;exact e h)
     ·rw[l5]
      constructor
      ·rintro ((h|rfl)|⟨a1,a2,a3⟩)
       ·exact .inl h
       ·exact .inr ⟨Nat.le_refl _,by omega,hyes.1⟩
       ·exact .inr ⟨by omega,by omega,a3⟩
      ·rintro (h|⟨a1,a2,a3⟩)
       ·exact .inl (.inl h)
       ·by_cases e:t=s
        ·exact .inl (.inr e)
        ·exact .inr ⟨by omega,by omega,a3⟩
     ·rw[l6,k4]
      constructor
      ·rintro ((h|⟨w,a1,a2,a3⟩)|⟨q,a1,a2,a3,a4,a5⟩)
       ·exact .inl h
       ·exact .inr ⟨s,Nat.le_refl _,by omega,hyes.1,hyes.2,w,by omega,a3⟩
       ·exact .inr ⟨q,by omega,by omega,a3,fun h=>a4 (.inl h),a5⟩
      ·rintro (h|⟨q,a1,a2,a3,a4,w,a5,a6⟩)
       ·exact .inl (.inl h)
       ·by_cases e:q=s
        ·subst e;exact .inl (.inr ⟨w,Nat.zero_le _,by omega,a6⟩)
        ·exact .inr ⟨q,by omega,by omega,a3,fun h=>(by rcases h with h|h;exact a4 h;exact e h),w,a5,a6⟩
theorem rloop_none {A:Fa}(hA:A.ok):∀(r d:Nat) (z:List Bool×List Bool),z.1.length=A.n→(∀t,sx z.2 t→sx z.1 t)→rloop A r d z=0
 |0,d,z,_,_=>rfl
 |r+1,d,z,h1,h=>by
  rw[rloop]
  rcases rround_spec hA z.2 A.n 0 (z.1,List.replicate A.n false) h1 (by simp) (by omega) with⟨_,q,_,_,k4,k5,_⟩|⟨_,z',k2,k3,k4,k5,k6⟩
  ·exact absurd (h q k4) k5
  ·rw[k2]
   refine rloop_none hA r (d+1) z' k3 fun t ht=>?_
   rcases (k6 t).1 ht with h'|⟨q,_,_,a3,a4,_⟩
   ·exact absurd h' (sx_rep _ _)
   ·exact absurd (h q a3) a4
theorem loops_eq {A:Fa}(hA:A.ok):∀(r d f:Nat) (p:List Bool×List Nat) (z:List Bool×List Bool),d+r=A.n+1→r<f→p.1.length=A.n→z.1.length=A.n→(∀t∈p.2,t<A.n)→(∀t,sx z.2 t→t<A.n) →
  (∀t,t∈p.2↔sx z.2 t∧¬sx z.1 t)→(∀t,sx p.1 t↔sx z.1 t∨t∈p.2)→(∃C:List Nat,C.Nodup∧C.length+1=d∧∀c∈C,c<A.n∧sx z.1 c)→ploop A f d p=rloop A r d z
 |r,d,0,p,z,_,hf,_,_,_,_,_,_,_=>by omega
 |r,d,f+1,p,z,hd,hf,hp,hz,hpn,hzn,h1,h2,hC=>by
  rw[ploop]
  cases hp2:p.2 with
  |nil =>
   simp only
   refine (rloop_none hA r d z hz fun t ht=>Classical.byContradiction fun h=>?_).symm
   have:=(h1 t).2 ⟨ht,h⟩
   rw[hp2] at this;simp at this
  |cons q l =>
   simp only
   rw[←hp2]
   obtain⟨C,c1,c2,c3⟩:=hC
   have hq:q∈p.2:=by rw[hp2];exact List.mem_cons_self ..
   have hqn:=hpn q hq
   obtain⟨q1,q2⟩:=(h1 q).1 hq
   have hnd:(q::C).Nodup:=List.nodup_cons.2 ⟨fun h=>q2 (c3 q h).2,c1⟩
   have hlen:=nodup_few (κ:=id) (st:=q::C) (by rw[List.map_id];exact hnd) (n:=A.n) fun c hc=>by
    rcases List.mem_cons.1 hc with rfl|hc
    ·exact hqn
    ·exact (c3 c hc).1
   rw[List.length_cons] at hlen
   cases r with
   |zero=>omega
   |succ r =>
    rw[rloop]
    have hiff:∀t,(0≤t∧t<0+A.n∧sx z.2 t∧¬sx z.1 t)↔t∈p.2:=fun t=>by
     rw[h1]
     exact⟨fun h=>h.2.2,fun h=>⟨Nat.zero_le _,by have:=hzn t h.1;omega,h⟩⟩
    rcases rround_spec hA z.2 A.n 0 (z.1,List.replicate A.n false) hz (by simp) (by omega) with⟨k1,q',a1,a2,k4,k5,w,k6,k7⟩|⟨k1,z',k2,k3,k4,k5,k6⟩
    ·rw[k1]
     rcases pround_spec hA p.2 (p.1,[]) hpn hp with⟨m1,_⟩|⟨m1,_⟩
     ·rw[m1]
     ·have:=m1 q' ((hiff q').1 ⟨a1,a2,k4,k5⟩) w k6
      rw[k7] at this;cases this
    ·rw[k2]
     rcases pround_spec hA p.2 (p.1,[]) hpn hp with⟨m1,q',m2,w,m3,m4⟩|⟨m1,p',m2,m3⟩
     ·obtain⟨a1,a2,a3,a4⟩:=(hiff q').2 m2
      have:=k1 q' a1 a2 a3 a4 w m3
      rw[m4] at this;cases this
     ·rw[m2]
      simp only
      have e1:∀t,sx z'.1 t↔sx p.1 t:=fun t=>by
       rw[k5,h2,h1]
       constructor
       ·rintro (h|⟨_,_,h⟩)
        ·exact .inl h
        ·by_cases hh:sx z.1 t
         ·exact .inl hh
         ·exact .inr ⟨h,hh⟩
       ·rintro (h|⟨h,_⟩)
        ·exact .inl h
        ·exact .inr ⟨Nat.zero_le _,by have:=hzn t h;omega,h⟩
      have e2:∀t,sx z'.2 t↔∃q∈p.2,∃w,w<A.m∧A.nx q w=t:=fun t=>by
       rw[k6]
       constructor
       ·rintro (h|⟨q,a1,a2,a3,a4,a5⟩)
        ·exact absurd h (sx_rep _ _)
        ·exact⟨q,(hiff q).1 ⟨a1,a2,a3,a4⟩,a5⟩
       ·rintro⟨q,a1,a5⟩
        obtain⟨b1,b2,b3,b4⟩:=(hiff q).2 a1
        exact .inr ⟨q,b1,b2,b3,b4,a5⟩
      have e3:∀t,sx z'.2 t→t<A.n:=fun t ht=>by
       obtain⟨q,a1,w,a2,rfl⟩:=(e2 t).1 ht
       exact hA.lt q w (hpn q a1) a2
      have e4:∀t,t∈p'.2↔sx z'.2 t∧¬sx z'.1 t:=fun t=>by
       rw[m3.lay,e2,e1]
       simp
      refine loops_eq hA r (d+1) f p' z' (by omega) (by omega) m3.len k3 (fun t ht=>e3 t ((e4 t).1 ht).1) e3 e4 (fun t=>?_) ⟨q::C,hnd,by rw[List.length_cons];omega,fun c hc=>?_⟩
      ·rw[m3.seen,e1,m3.lay]
       constructor
       ·rintro (h|h)
        ·exact .inl h
        ·by_cases hh:sx p.1 t
         ·exact .inl hh
         ·exact .inr (.inr ⟨h,hh⟩)
       ·rintro (h|h|⟨h,_⟩)
        ·exact .inl h
        ·simp at h
        ·exact .inr h
      ·rcases List.mem_cons.1 hc with rfl|hc
       ·exact⟨hqn,(e1 _).2 ((h2 _).2 (.inr hq))⟩
       ·exact⟨(c3 c hc).1,(e1 _).2 ((h2 _).2 (.inl (c3 c hc).2))⟩
end Go.Am
namespace Go.Am
open Go
variable [MaxLen]
def spN (A:Fa)(c x:Nat)(g:List Bool×List Nat):List Bool×List Nat:=bif A.fr (c / A.n) x then putL g (A.nx (c / A.n) x) else g
theorem stps_put {A:Fa}(hA:A.ok){g g':List Bool×List Nat}{l:List (Nat×Nat)}(h:Stps (fun g c x g'=>g'=spN A c x g) g l g')(hg:g.1.length=A.n)(hl:∀p∈l,p.1 / A.n<A.n∧p.2<A.m) :
  PutS A.n g g' fun t=>∃p∈l,A.fr (p.1 / A.n) p.2=true∧A.nx (p.1 / A.n) p.2=t:=by
 induction h with
 |nil=>exact⟨hg,fun t=>by simp,fun t=>by simp⟩
 |@snoc g1 g2 l c x h1 h2 ih =>
  have ih:=ih fun p hp=>hl p (List.mem_append_left _ hp)
  obtain⟨k1,k2⟩:=hl (c,x) (List.mem_append_right _ (List.mem_singleton.2 rfl))
  have hP:PutS A.n g1 g2 fun t=>A.fr (c / A.n) x=true∧A.nx (c / A.n) x=t:=by
   rw[h2]
   unfold spN
   cases hf:A.fr (c / A.n) x with
   |true =>
    rw[cond_true]
    exact (putL_spec ih.len (hA.lt _ _ k1 k2)).congr fun t=>⟨fun e=>⟨rfl,e.symm⟩,fun e=>e.2.symm⟩
   |false =>
    rw[cond_false]
    exact⟨ih.len,fun t=>by simp,fun t=>by simp⟩
  refine (ih.trans hP).congr fun t=>?_
  constructor
  ·rintro (⟨p,hp,e⟩|e)
   ·exact⟨p,List.mem_append_left _ hp,e⟩
   ·exact⟨(c,x),List.mem_append_right _ (List.mem_singleton.2 rfl),e⟩
  ·rintro⟨p,hp,e⟩
   rcases List.mem_append.1 hp with hp|hp
   ·exact .inl ⟨p,hp,e⟩
   ·rw[List.mem_singleton.1 hp] at e
    exact .inr e
def rnowR (A:Fa)(q:Nat):Nat→Nat→List Bool→List Bool
 |0,_,z=>z
 |r+1,x,z=>rnowR A q r (x+1) (bif A.fr q x then z.set (A.nx q x) true else z)
def rnow (A:Fa):List Nat→List Bool→List Bool
 |[],z=>z
 |c::l,z=>rnow A l (rnowR A (c / A.n) A.m 0 z)
theorem rnowR_spec {A:Fa}(hA:A.ok){q:Nat}(hq:q<A.n):∀(r x:Nat) (z:List Bool),z.length=A.n→x+r≤A.m→(rnowR A q r x z).length=A.n∧∀t,sx (rnowR A q r x z) t↔sx z t∨∃w,x≤w∧w<x+r∧A.fr q w=true∧A.nx q w=t
 |0,x,z,hl,_=>⟨hl,fun t=>⟨.inl,fun h=>by rcases h with h|⟨w,h1,h2,_⟩;exact h;omega⟩⟩
 |r+1,x,z,hl,hx=>by
  rw[rnowR]
  have hlt:=hA.lt q x hq (by omega)
  have h1:(bif A.fr q x then z.set (A.nx q x) true else z).length=A.n:=by cases A.fr q x <;> simp[hl]
  have h2:∀t,sx (bif A.fr q x then z.set (A.nx q x) true else z) t↔sx z t∨(A.fr q x=true∧A.nx q x=t):=fun t=>by
   cases hf:A.fr q x with
   |true =>
    rw[cond_true,sx_set (by omega)]
    exact⟨fun h=>h.imp id fun e=>⟨rfl,e.symm⟩,fun h=>h.imp id fun e=>e.2.symm⟩
   |false=>simp
  obtain⟨k1,k2⟩:=rnowR_spec hA hq r (x+1) _ h1 (by omega)
  refine⟨k1,fun t=>?_⟩
  rw[k2,h2]
  constructor
  ·rintro ((h|⟨a1,a2⟩)|⟨w,w1,w2,w3⟩)
   ·exact .inl h
   ·exact .inr ⟨x,Nat.le_refl _,by omega,a1,a2⟩
   ·exact .inr ⟨w,by omega,by omega,w3⟩
  ·rintro (h|⟨w,w1,w2,w3⟩)
   ·exact .inl (.inl h)
   ·by_cases e:w=x
    ·subst e;exact .inl (.inr w3)
    ·exact .inr ⟨w,by omega,by omega,w3⟩
theorem rnow_spec {A:Fa}(hA:A.ok):∀(l:List Nat) (z:List Bool),(∀c∈l,c / A.n<A.n)→z.length=A.n→(rnow A l z).length=A.n∧∀t,sx (rnow A l z) t↔sx z t∨∃c∈l,∃w,w<A.m∧A.fr (c / A.n) w=true∧A.nx (c / A.n) w=t
 |[],z,_,hl=>⟨hl,fun t=>by simp[rnow]⟩
 |c::l,z,hc,hl=>by
  obtain⟨k1,k2⟩:=rnowR_spec hA (hc c (List.mem_cons_self ..)) A.m 0 z hl (by omega)
  obtain⟨k3,k4⟩:=rnow_spec hA l _ (fun a ha=>hc a (List.mem_cons_of_mem _ ha)) k1
  refine⟨k3,fun t=>?_⟩
  rw[rnow,k4,k2]
  constructor
  ·rintro ((h|⟨w,_,w2,w3⟩)|⟨d,hd,w⟩)
   ·exact .inl h
   ·exact .inr ⟨c,List.mem_cons_self ..,w,by omega,w3⟩
   ·exact .inr ⟨d,List.mem_cons_of_mem _ hd,w⟩
  ·rintro (h|⟨d,hd,w,w2,w3⟩)
   ·exact .inl (.inl h)
   ·rcases List.mem_cons.1 hd with rfl|hd
    ·exact .inl (.inr ⟨w,Nat.zero_le _,by omega,w3⟩)
    ·exact .inr ⟨d,hd,w,w2,w3⟩
theorem spacing_eq {A:Fa}(hA:A.ok){T:List Nat}{m:Nat}(hm:m=A.m)(hT:∀c∈T,c / A.n<A.n){g:List Bool×List Nat}(h:Stps (fun g c x g'=>g'=spN A c x g) (List.replicate A.n false,[]) (T.flatMap fun c=>rowC c m) g) :
  ploop A (A.n+1) 1 g=rloop A A.n 1 (List.replicate A.n false,rnow A T (List.replicate A.n false)):=by
 subst hm
 have hmem:∀p:Nat×Nat,p∈(T.flatMap fun c=>rowC c A.m)↔p.1∈T∧p.2<A.m:=fun p=>by
  simp only[rowC,List.mem_flatMap,List.mem_map,List.mem_range]
  constructor
  ·rintro⟨c,hc,z,hz,rfl⟩
   exact⟨hc,hz⟩
  ·rintro⟨h1,h2⟩
   exact⟨p.1,h1,p.2,h2,rfl⟩
 have hp:=stps_put hA h (by simp) fun p hp=>⟨hT _ ((hmem p).1 hp).1,((hmem p).1 hp).2⟩
 obtain⟨r1,r2⟩:=rnow_spec hA T (List.replicate A.n false) hT (by simp)
 have e:∀t,t∈g.2↔sx (rnow A T (List.replicate A.n false)) t:=fun t=>by
  rw[hp.lay,r2]
  constructor
  ·rintro (h|⟨⟨p,h1,h2,h3⟩,_⟩)
   ·simp at h
   ·exact .inr ⟨p.1,((hmem p).1 h1).1,p.2,((hmem p).1 h1).2,h2,h3⟩
  ·rintro (h|⟨c,hc,w,w1,w2,w3⟩)
   ·exact absurd h (sx_rep _ _)
   ·exact .inr ⟨⟨(c,w),(hmem (c,w)).2 ⟨hc,w1⟩,w2,w3⟩,sx_rep _ _⟩
 have hlt:∀t,sx (rnow A T (List.replicate A.n false)) t→t<A.n:=fun t ht=>by
  rcases (r2 t).1 ht with h|⟨c,hc,w,w1,_,rfl⟩
  ·exact absurd h (sx_rep _ _)
  ·exact hA.lt _ _ (hT c hc) w1
 refine loops_eq hA A.n 1 (A.n+1) g (List.replicate A.n false,rnow A T (List.replicate A.n false)) (by omega) (by omega) hp.len (by simp) (fun t ht=>hlt t ((e t).1 ht)) hlt (fun t=>?_) (fun t=>?_) ⟨[],by simp,rfl,fun c hc=>by simp at hc⟩
 ·rw[e]
  exact⟨fun h=>⟨h,sx_rep _ _⟩,fun h=>h.1⟩
 ·rw[hp.seen,hp.lay]
  constructor
  ·rintro (h|h)
   ·exact absurd h (sx_rep _ _)
   ·exact .inr (.inr ⟨h,sx_rep _ _⟩)
  ·rintro (h|h|h)
   ·exact absurd h (sx_rep _ _)
   ·simp at h
   ·exact .inr h.1
theorem ckRows_ok {m:Nat}{n:Int}:∀(l:List (Bool×List Int)) (f:List (Bool×List Bool)),l.length=f.length→(∀r∈l,r.2.length=m∧∀x∈r.2,0≤x∧x<n)→(∀r∈f,r.2.length=m)→ckRows (m:Nat) n l f=0
 |[],_,_,_,_=>rfl
 |r::l,[],h,_,_=>by simp at h
 |r::l,g::f,h,h1,h2=>by
  obtain⟨e1,e2⟩:=h1 r (List.mem_cons_self ..)
  have e3:=h2 g (List.mem_cons_self ..)
  have b1:((r.2.length:Int) != (m:Nat)||((((g::f).headD (true,[])).2.length:Int) != (m:Nat)))=false:=by simp[e1,e3]
  have b2:(r.2.any fun x=>outside x 0 (n-1))=false:=by
   rw[List.any_eq_false]
   intro x hx
   have:=e2 x hx
   simp[outside];omega
  rw[ckRows,b1,b2,br_false,br_false]
  exact ckRows_ok l f (by simpa using h) (fun r hr=>h1 r (List.mem_cons_of_mem _ hr)) fun r hr=>h2 r (List.mem_cons_of_mem _ hr)
theorem ckA_ok {a:Auto}(h:a.ok):ckA a=0:=by
 have hl:=h.lines
 have hp:=h.pos
 have hf:=h.few
 have b1:outside a.lines 1 4=false:=by simp[outside];omega
 have b2:((a.next.length:Int)==0)=false:=by simp;intro e;rw[e] at hp;simp at hp
 have b3:decide ((a.next.length:Int)>256)=false:=by simp;omega
 have b4:((a.fires.length:Int) != a.next.length)=false:=by simp[h.fl]
 rw[ckA,b1,b2,b3,b4,br_false,br_false,br_false,br_false,mOf_nat]
 refine ckRows_ok _ _ h.fl.symm (fun r hr=>?_) fun r hr=>?_
 ·obtain⟨i,hi,rfl⟩:=List.mem_iff_getElem.1 hr
  exact h.row i hi
 ·obtain⟨i,hi,rfl⟩:=List.mem_iff_getElem.1 hr
  exact h.frow i hi
theorem stF_snoc (A:Fa)(l:List Int):∀(r t s:Nat),stF A l (r+1) t s=A.nx (stF A l r t s) (symN l (t+r))
 |0,_,_=>rfl
 |r+1,t,s=>by
  rw[stF,stF_snoc A l r (t+1)]
  show _=A.nx (stF A l r (t+1) (A.nx s (symN l t))) (symN l (t+(r+1)))
  rw[show t+1+r=t+(r+1) by omega]
def fpath (A:Fa):Nat→Nat→Prop
 |0,q=>∃x,x<A.m∧A.fr q x=true
 |k+1,q=>∃x,x<A.m∧fpath A k (A.nx q x)
theorem fpath_of {A:Fa}{l:List Int}(hl:∀i,i<l.length→symN l i<A.m):∀(k i:Nat),i+k<l.length→fireAt A l (i+k)=true→fpath A k (stF A l i 0 0)
 |0,i,h,hf=>⟨symN l i,hl i h,hf⟩
 |k+1,i,h,hf=>by
  refine⟨symN l i,hl i (by omega),?_⟩
  have e:=stF_snoc A l i 0 0
  rw[Nat.zero_add] at e
  rw[←e]
  exact fpath_of hl k (i+1) (by omega) (by rw[show i+1+k=i+(k+1) by omega];exact hf)
theorem no_fpath {A:Fa}{S:Nat→Prop}(h:∀q,S q→∀x,x<A.m→A.fr q x=false∧S (A.nx q x)):∀(k q:Nat),S q→¬fpath A k q
 |0,q,hq,⟨x,hx,hf⟩=>by rw[(h q hq x hx).1] at hf;cases hf
 |k+1,q,hq,⟨x,hx,hf⟩=>no_fpath h k _ (h q hq x hx).2 hf
theorem countP_lt {p q:Nat→Bool}(h:∀t,p t=true→q t=true){x:Nat}(hp:p x=false)(hq:q x=true):∀l:List Nat,l.countP p≤l.countP q∧(x∈l→l.countP p<l.countP q)
 |[]=>⟨Nat.le_refl _,fun h=>by simp at h⟩
 |y::l=>by
  obtain⟨h1,h2⟩:=countP_lt h hp hq l
  rw[List.countP_cons,List.countP_cons]
  cases hy:p y with
  |true =>
   rw[h y hy]
   refine⟨by simp;omega,fun hx=>?_⟩
   rcases List.mem_cons.1 hx with rfl|hx
   ·rw[hy] at hp;cases hp
   ·have:=h2 hx;simp;omega
  |false =>
   refine⟨by cases q y <;> simp <;> omega,fun hx=>?_⟩
   rcases List.mem_cons.1 hx with rfl|hx
   ·rw[hq];simp;omega
   ·have:=h2 hx
    cases q y <;> simp <;> omega
theorem countP_all {p:Nat→Bool}:∀(l:List Nat),l.length≤l.countP p→∀x∈l,p x=true
 |[],_,x,hx=>by simp at hx
 |y::l,h,x,hx=>by
  have hle:=List.countP_le_length (p:=p) (l:=l)
  rw[List.countP_cons,List.length_cons] at h
  cases hy:p y with
  |false=>rw[hy] at h;simp at h;omega
  |true =>
   rw[hy] at h
   simp at h
   rcases List.mem_cons.1 hx with rfl|hx
   ·exact hy
   ·exact countP_all l (by omega) x hx
theorem rloop_le {A:Fa}(hA:A.ok):∀(r d:Nat) (z:List Bool×List Bool),0<d→z.1.length=A.n→A.n≤r+(List.range A.n).countP (fun t=>z.1.getD t false)→(∀q,sx z.1 q→q<A.n)→(∀q,sx z.2 q→q<A.n) →
  (∀q,sx z.1 q→∀x,x<A.m→A.fr q x=false∧(sx z.1 (A.nx q x)∨sx z.2 (A.nx q x)))→∀q,(sx z.1 q∨sx z.2 q)→∀k,fpath A k q→0<rloop A r d z∧rloop A r d z≤d+k
 |0,d,z,hd,hl,hc,h1,h2,h3,q,hq,k,hk=>by
  exfalso
  have hall:=countP_all (List.range A.n) (p:=fun t=>z.1.getD t false) (by rw[List.length_range];omega)
  have hS:∀q,q<A.n→sx z.1 q:=fun q hq=>hall q (List.mem_range.2 hq)
  have hqn:q<A.n:=by rcases hq with h|h;exact h1 q h;exact h2 q h
  exact no_fpath (S:=fun q=>q<A.n) (fun q hq x hx=>⟨(h3 q (hS q hq) x hx).1,hA.lt q x hq hx⟩) k q hqn hk
 |r+1,d,z,hd,hl,hc,h1,h2,h3,q,hq,k,hk=>by
  rw[rloop]
  have hsp:=rround_spec hA z.2 A.n 0 (z.1,List.replicate A.n false) hl (by simp) (by omega)
  rcases hsp with⟨e,_⟩|⟨hnf,z',e,hl1,hl2,hs1,hs2⟩
  ·rw[e]
   exact⟨hd,by simp only;omega⟩
  rw[e]
  simp only
  have hs1:∀t,sx z'.1 t↔sx z.1 t∨sx z.2 t:=fun t=>by
   rw[hs1 t]
   exact or_congr Iff.rfl ⟨fun h=>h.2.2,fun h=>⟨Nat.zero_le _,by have:=h2 t h;omega,h⟩⟩
  have hs2:∀t,sx z'.2 t↔∃q,sx z.2 q∧¬sx z.1 q∧∃w,w<A.m∧A.nx q w=t:=fun t=>by
   rw[hs2 t]
   constructor
   ·rintro (h|⟨q,_,_,h⟩)
    ·exact absurd h (sx_rep _ _)
    ·exact⟨q,h⟩
   ·rintro⟨q,h⟩
    exact .inr ⟨q,Nat.zero_le _,by have:=h2 q h.1;omega,h⟩
  have hnf':∀q,sx z'.1 q→∀x,x<A.m→A.fr q x=false:=fun q h x hx=>by
   by_cases hin:sx z.1 q
   ·exact (h3 q hin x hx).1
   ·rcases (hs1 q).1 h with h|h
    ·exact absurd h hin
    ·exact hnf q (Nat.zero_le _) (by have:=h2 q h;omega) h hin x hx
  have hn1:∀q,sx z'.1 q→q<A.n:=fun q h=>by rcases (hs1 q).1 h with h|h;exact h1 q h;exact h2 q h
  have hn2:∀q,sx z'.2 q→q<A.n:=fun q h=>by
   obtain⟨u,hu,_,w,hw,rfl⟩:=(hs2 q).1 h
   exact hA.lt u w (h2 u hu) hw
  have h3':∀q,sx z'.1 q→∀x,x<A.m→A.fr q x=false∧(sx z'.1 (A.nx q x)∨sx z'.2 (A.nx q x)):=fun q h x hx=>by
   refine⟨hnf' q h x hx,?_⟩
   by_cases hin:sx z.1 q
   ·exact .inl ((hs1 _).2 (h3 q hin x hx).2)
   ·rcases (hs1 q).1 h with h|h
    ·exact absurd h hin
    ·exact .inr ((hs2 _).2 ⟨q,h,hin,x,hx,rfl⟩)
  have hq':sx z'.1 q:=(hs1 q).2 hq
  by_cases hex:∃t,sx z.2 t∧¬sx z.1 t
  ·obtain⟨t,ht,hnt⟩:=hex
   have hcnt:=(countP_lt (p:=fun t=>z.1.getD t false) (q:=fun t=>z'.1.getD t false) (fun t h=>(hs1 t).2 (.inl h)) (x:=t) (by cases h:z.1.getD t false with
    |false=>rfl
    |true=>exact absurd h hnt) ((hs1 t).2 (.inr ht)) (List.range A.n)).2 (List.mem_range.2 (h2 t ht))
   cases k with
   |zero =>
    obtain⟨x,hx,hf⟩:=hk
    rw[hnf' q hq' x hx] at hf;cases hf
   |succ k =>
    obtain⟨x,hx,hf⟩:=hk
    have:=rloop_le hA r (d+1) z' (by omega) hl1 (by omega) hn1 hn2 h3' (A.nx q x) (h3' q hq' x hx).2 k hf
    exact⟨this.1,by omega⟩
  ·exfalso
   have hsub:∀t,sx z.2 t→sx z.1 t:=fun t ht=>by
    by_cases h:sx z.1 t
    ·exact h
    ·exact absurd ⟨t,ht,h⟩ hex
   refine no_fpath (S:=sx z.1) (fun u hu x hx=>⟨(h3 u hu x hx).1,?_⟩) k q ?_ hk
   ·rcases (h3 u hu x hx).2 with h|h
    ·exact h
    ·exact hsub _ h
   ·rcases hq with h|h
    ·exact h
    ·exact hsub _ h
theorem reach_pair {a:Auto}(ha:a.ok){l:List Int}(hl:∀i,i<l.length→symN l i<a.fa.m){i:Nat}(hi:i≤l.length):∃c∈prodT a a,c / a.fa.n=stF a.fa l i 0 0:=by
 have h1:=stF_sim (A:=a.fa) (Q:=(prodA a a fun p _=>p).fa) (m:=a.fa.m) (R:=fun s q=>s<a.fa.n∧∃h:q<(prodT a a).length,(prodT a a)[q] / a.fa.n=s) (l:=l) (fun s q x hq hx=>by
  obtain⟨hs,h,e⟩:=hq
  refine⟨ha.faok.lt s x hs hx,?_⟩
  obtain⟨q1,q2⟩:=List.getElem?_eq_some_iff.1 (prodA_step (f:=fun p _=>p) ha ha rfl h hx)
  refine⟨q1,?_⟩
  rw[q2]
  have hb2:=ha.faok.lt ((prodT a a)[q]%a.fa.n) x (Nat.mod_lt _ ha.pos) hx
  show (a.fa.nx ((prodT a a)[q] / a.fa.n) x*a.fa.n+a.fa.nx ((prodT a a)[q]%a.fa.n) x) / a.fa.n=_
  rw[pair_div hb2,e]) i 0 0 0 (fun j hj=>by rw[Nat.zero_add];exact hl j (by omega)) ⟨ha.faok.pos,(prodI ha ha rfl).pos,by
   have:=prodT_0 ha ha rfl
   rw[List.getElem?_eq_getElem (prodI ha ha rfl).pos] at this
   rw[Option.some.inj this];exact Nat.zero_div _⟩
 obtain⟨_,h,e⟩:=h1
 exact⟨_,List.getElem_mem h,e⟩
def spN0 (a:Auto):Nat:=rloop a.fa a.fa.n 1 (List.replicate a.fa.n false,rnow a.fa (prodT a a) (List.replicate a.fa.n false))
theorem space_le {a:Auto}(ha:a.ok){l:List Int}(hl:∀i,i<l.length→symN l i<a.fa.m){i j:Nat}(hij:i<j)(hj:j<l.length)(fi:fireAt a.fa l i=true)(fj:fireAt a.fa l j=true):0<spN0 a∧spN0 a≤j-i:=by
 have hA:=ha.faok
 have hP:=prodI ha ha rfl
 obtain⟨r1,r2⟩:=rnow_spec hA (prodT a a) (List.replicate a.fa.n false) (fun c hc=>Nat.div_lt_of_lt_mul (hP.lt c hc)) (by simp)
 obtain⟨c,hc,he⟩:=reach_pair ha hl (i:=i) (by omega)
 have hs:=stF_snoc a.fa l i 0 0
 rw[Nat.zero_add] at hs
 have hnow:sx (rnow a.fa (prodT a a) (List.replicate a.fa.n false)) (stF a.fa l (i+1) 0 0):=(r2 _).2 (.inr ⟨c,hc,symN l i,hl i (by omega),by rw[he];exact fi,by rw[he,hs]⟩)
 have hlt:∀q,sx (rnow a.fa (prodT a a) (List.replicate a.fa.n false)) q→q<a.fa.n:=fun q hq=>by
  rcases (r2 q).1 hq with h|⟨c,hc,w,hw,_,rfl⟩
  ·exact absurd h (sx_rep _ _)
  ·exact hA.lt _ w (Nat.div_lt_of_lt_mul (hP.lt c hc)) hw
 have hk:=fpath_of hl (j-(i+1)) (i+1) (by omega) (by rw[show i+1+(j-(i+1))=j by omega];exact fj)
 have:=rloop_le hA a.fa.n 1 (List.replicate a.fa.n false,rnow a.fa (prodT a a) (List.replicate a.fa.n false)) (by omega) (by simp) (by omega) (fun q hq=>absurd hq (sx_rep _ _)) hlt (fun q hq=>absurd hq (sx_rep _ _)) _ (.inr hnow) _ hk
 exact⟨this.1,by have:=this.2;unfold spN0;omega⟩
end Go.Am
namespace Go.Am
open Go
variable [MaxLen]
set_option maxRecDepth 100000
set_option maxHeartbeats 8000000
theorem Vis.pt {s s':St}{N:Nat}{a b:Auto}{f:Nat→Prop}{A0 B0 mp pt:Nat}{T:List Trip}{pv sv:AV}(h:Vis s N a b f A0 B0 mp pt T pv sv)(hn:s.next<s'.next)(hg:∀j,j<s.next→s'.get j=s.get j)(hfl:∀j,f j→j<s.next):Vis s' N a b f A0 B0 mp s.next T pv sv:=by
 obtain⟨gA,gB,gm,hp,hs,⟨l1,l2,l3,l4,l5,l6,l7,l8⟩,⟨f1,f2,f3,f4⟩,fp,fs,np⟩:=h
 exact⟨(hg _ l1).trans gA,(hg _ l2).trans gB,(hg _ l3).trans gm,hp.keepB (by omega) fun j h1 _=>hg j h1,hs.keepB (by omega) fun j h1 _=>hg j h1,⟨by omega,by omega,by omega,hn,l5,l6,l7,by omega⟩,⟨f1,f2,f3,fun h=>by have:=hfl _ h;omega⟩,fun j hj=>⟨(fp j hj).1,by have:=(hp.ltB hj).2.1;omega⟩,fs,⟨by omega,by omega,by omega⟩⟩
theorem Stps.trans {G:Type}{nxt:G→Nat→Nat→G→Prop}{g g1 g2:G}{l l':List (Nat×Nat)}(h:Stps nxt g l g1)(h':Stps nxt g1 l' g2):Stps nxt g (l++l') g2:=by
 induction h' with
 |nil=>rw[List.append_nil];exact h
 |snoc h1 h2 ih=>rw[←List.append_assoc];exact .snoc ih h2
theorem pcs_grab (k:Nat):∀(L:List Nat) (i:Nat) (h:i<L.length),grab 2 (i*2) (pcs k L)=some (pcell k L[i])
 |c::l,0,_=>by
  rw[pcs,List.flatMap_cons,Nat.zero_mul]
  simp[pcell,grab_head,grab_zero]
 |c::l,i+1,h=>by
  have:=pcs_grab k l i (by rw[List.length_cons] at h;omega)
  rw[pcs,List.flatMap_cons,show (i+1)*2=i*2+2 by omega]
  exact this
theorem l114b {β:Type}{fin:Fl→β}{ks:List K}{Post:β→Prop}{a b:Auto}(ha:a.ok)(hb:b.ok)(hlb:a.lines=b.lines){fn:AV}{N:Nat}{G:Type}{CI:G→St→Prop}{fp:G→Nat→Prop}{dom:Nat→Nat→Prop}{y:Nat→Nat→Bool}{nxt:G→Nat→Nat→G→Prop}
  (Y:Yld fn b.fa.n N G CI fp dom y nxt)(hdom:∀c x,c<(prodF a.fa b.fa).n→x<2^a.lines.toNat→dom c x){A0 B0 mp pt:Nat}{pv sv:AV}{g:G}
  {e:Env}{s:St}(g2:Env.get e 2=fn)(g3:Env.get e 3=.ptr A0 0)(g4:Env.get e 4=.ptr B0 0)(g8:Env.get e 8=.map mp)(g9:Env.get e 9=pv)(g10:Env.get e 10=sv)(g13:Env.get e 13=.int .i64 (0:Nat))
  (V:Vis s N a b (fp g) A0 B0 mp pt [(0,0,0)] pv sv)(hci:CI g s)(fr:Fr s)(hN:N≤s.next)
  (hk:(visAll (prodF a.fa b.fa) y).2=none→∀e' s' pv' sv' pt' g',Env.get e' 11=Env.get e 11→Env.get e' 12=Env.get e 12→Env.get e' 9=pv'→Env.get e' 10=sv'→Vis s' N a b (fp g') A0 B0 mp pt' (visAll (prodF a.fa b.fa) y).1 pv' sv'→Stps nxt g ((codes (visAll (prodF a.fa b.fa) y).1).flatMap fun c=>rowC c (2^a.lines.toNat)) g'→CI g' s'→(∀j,j<N→¬fp g j→s'.get j=s.get j)→s.next≤s'.next→(∀j,fp g' j→fp g j∨N≤j)→Fr s'→Post (goN U fin ks e' s'))
  (hx:∀k z,(visAll (prodF a.fa b.fa) y).2=some (k,z)→∀e' s' pv' sv' pt' w g',Env.get e' 9=pv'→Env.get e' 10=sv'→Env.get e' 11=.int .i64 (k:Nat)→Env.get e' 12=.sl w 0 1 (some 1) 1→s'.get w=some (.cells (nats [z]) 3 false 0 0)→N≤w→w<s'.next→¬fp g' w→Vis s' N a b (fp g') A0 B0 mp pt' (visAll (prodF a.fa b.fa) y).1 pv' sv'→CI g' s'→(∀j,j<N→¬fp g j→s'.get j=s.get j)→s.next≤s'.next→(∀j,fp g' j→fp g j∨N≤j)→Fr s'→Post (goN U fin ks e' s')) :
  Post (goL U fin (.bk 0::ks) r114_l1 e s):=by
 have hA:=prodF_ok ha.faok hb.faok (by show 2^a.lines.toNat=2^b.lines.toNat;rw[hlb])
 have hnn:(prodF a.fa b.fa).n≤65536:=Nat.mul_le_mul ha.few hb.few
 have hsh:=bin_shl1 U 3 true .i64 (n:=a.lines) (by have:=ha.lines;omega)
 have hpw:((2:Int)^a.lines.toNat)=((2^a.lines.toNat:Nat):Int):=by simp
 rw[hpw] at hsh
 refine loop_ex (σ:=Nat) (fun i=>(prodF a.fa b.fa).n-i) (fun i e' s'=>Env.get e' 2=fn∧Env.get e' 3=.ptr A0 0∧Env.get e' 4=.ptr B0 0∧Env.get e' 8=.map mp∧Env.get e' 11=Env.get e 11∧Env.get e' 12=Env.get e 12∧Env.get e' 13=.int .i64 (i:Nat) ∧
   (∀j,j<N→¬fp g j→s'.get j=s.get j)∧s.next≤s'.next∧Fr s' ∧
   ∃T' pv' sv' pt' g',visT (prodF a.fa b.fa) y ((prodF a.fa b.fa).n+1-i) i T'=visAll (prodF a.fa b.fa) y∧VisI (prodF a.fa b.fa) T'∧i≤T'.length∧Env.get e' 9=pv'∧Env.get e' 10=sv'∧Vis s' N a b (fp g') A0 B0 mp pt' T' pv' sv'∧CI g' s'∧Stps nxt g (((codes T').take i).flatMap fun c=>rowC c (2^a.lines.toNat)) g'∧(∀j,fp g' j→fp g j∨N≤j)) 0 ?_
  ⟨g2,g3,g4,g8,rfl,rfl,g13,fun _ _ _=>rfl,Nat.le_refl _,fr,[(0,0,0)],pv,sv,pt,g,rfl,visI0 hA,Nat.zero_le _,g9,g10,V,hci,.nil g,fun j hj=>.inl hj⟩
 rintro Lp i e' s' ⟨q2,q3,q4,q8,q11,q12,q13,hs,hnx,fr',T',pv',sv',pt',g1,hrun,hT',hi,q9,q10,V',hci',hst,hfp⟩ IH
 have hTl:=hT'.len
 have hlen:=V'.hp.lenA
 obtain⟨bp,cap,hpv,hp2,hp3,hp4,hp5,hp6⟩:=V'.hp
 rw[show (prodF a.fa b.fa).n+1-i=((prodF a.fa b.fa).n-i)+1 by omega,visT] at hrun
 by_cases hd:i<T'.length
 ·have hwr:=wrap_succ hd (by omega)
  rw[List.getElem?_eq_getElem hd] at hrun
  simp only at hrun
  have hc:T'[i].1<(prodF a.fa b.fa).n:=hT'.lt _ (List.getElem_mem hd)
  have hcx:(codes T')[i]'(by rw[codes_len];exact hd)=T'[i].1:=by simp[codes]
  have gr:=pcs_grab b.fa.n (codes T') i (by rw[codes_len];exact hd)
  rw[hcx] at gr
  have hg9:=q9.trans hpv
  have hlt1:=Y.lt g1 s' hci'
  have hgA:=V'.gA
  obtain⟨l1,l2,l3,l4,l5,l6,l7,l8⟩:=V'.lt
  have f1:(s'.next=A0)=False:=by simp;omega
  generalize hcd:T'[i].1=c at *
  unfold pcell at gr
  simp (maxSteps:=2000000) +contextual only[go_sem,↓reduceIte,r114_l1,q3,q13,hg9,nat_lt_dec,hd,hp3,gr,hgA,hsh,f1]
  obtain⟨S,hS⟩:∃S,S=(s'.new (.cells [.int .i64 0,.int .i64 0] 186 false 0 0)).put s'.next (.cells [.int .i64 ((c / b.fa.n:Nat):Int),.int .i64 ((c%b.fa.n:Nat):Int)] 186 false 0 0):=⟨_,rfl⟩
  rw[←hS]
  have hSn:S.next=s'.next+1:=by rw[hS,next_put,next_new]
  have kS:∀j,j<s'.next→S.get j=s'.get j:=fun j h1=>by rw[hS,get_put,if_neg (by omega),get_new,if_neg (by omega)]
  have hpt:S.get s'.next=some (.cells (pcell b.fa.n c) 186 false 0 0):=by rw[hS,get_put,if_pos rfl];rfl
  have frS:Fr S:=by rw[hS];exact (fr'.new _).put (by rw[next_new];omega) _
  have VS:Vis S N a b (fp g1) A0 B0 mp s'.next T' pv' sv':=V'.pt (by omega) kS hlt1
  have hciS:CI g1 S:=Y.keep g1 s' S hci' (by omega) fun j h1 _=>kS j h1
  have hVR:=visRow_spec hA hc (y c) (prodF a.fa b.fa).m 0 (T:=T') (i:=i) (by omega) hT' hd
  refine l114a (Post:=Post) ha hb hlb Y hc (fun x hx=>hdom c x hc hx) hT' hd (vr:=visRow ((prodF a.fa b.fa).nx c) (y c) i (2^a.lines.toNat) 0 T') rfl ?_ ?_ ?_ ?_ ?_ ?_ ?_ ?_ ?_ ?_ VS hpt hciS frS (by omega) ?_ ?_
  case refine_11 =>
   intro hnone e2 s2 pv2 sv2 g2' hold p9 p10 V2 hst2 hci2 hs2 hn2 hfp2 fr2
   have hm:(prodF a.fa b.fa).m=2^a.lines.toNat:=rfl
   rw[hm] at hrun hVR
   generalize visRow ((prodF a.fa b.fa).nx c) (y c) i (2^a.lines.toNat) 0 T'=v at *
   obtain⟨T2,o2⟩:=v
   simp only at hnone hrun V2 hVR
   subst hnone
   obtain⟨⟨i1,R,hR⟩,_,_⟩:=hVR
   have E2:∀t:Nat,t<14→t≠9→t≠10→Env.get e2 t=Env.get e' t:=fun t h1 h2 h3=>by
    rw[hold t (by omega) h2 h3]
    have hne:∀k:Nat,14≤k→(k=t)=False:=fun k hk=>by simp;omega
    simp +contextual only[go_sem,↓reduceIte,hne]
   have p2:=(E2 2 (by omega) (by omega) (by omega)).trans q2
   have p3:=(E2 3 (by omega) (by omega) (by omega)).trans q3
   have p4:=(E2 4 (by omega) (by omega) (by omega)).trans q4
   have p8:=(E2 8 (by omega) (by omega) (by omega)).trans q8
   have p11:=(E2 11 (by omega) (by omega) (by omega)).trans q11
   have p12:=(E2 12 (by omega) (by omega) (by omega)).trans q12
   have p13:=(E2 13 (by omega) (by omega) (by omega)).trans q13
   have hlT:i+1≤T2.length:=by rw[hR,List.length_append];omega
   have htk:(codes T2).take (i+1)=(codes T').take i++[c]:=by
    rw[hR]
    have e1:codes (T'++R)=codes T'++codes R:=by simp[codes]
    have hlc:=codes_len T'
    rw[e1,List.take_append_of_le_length (by omega),List.take_succ_eq_append_getElem (by omega),hcx]
   simp (maxSteps:=2000000) +contextual only[go_sem,↓reduceIte,p13,hwr]
   have hle2:=i1.len
   refine IH (i+1) _ _ (by omega) ⟨?_,?_,?_,?_,?_,?_,?_,fun j h1 h2=>?_,by omega,fr2,T2,pv2,sv2,s'.next,g2',?_,i1,hlT,?_,?_,V2,hci2,?_,fun j hj=>?_⟩
   case refine_8 =>
    rw[hs2 j h1 fun h=>by rcases hfp j h with h|h;exact h2 h;omega,kS j (by omega),hs j h1 h2]
   case refine_9=>rw[show (prodF a.fa b.fa).n+1-(i+1)=(prodF a.fa b.fa).n-i by omega];exact hrun
   case refine_12 =>
    rw[htk,List.flatMap_append,List.flatMap_singleton]
    exact hst.trans hst2
   case refine_13 =>
    rcases hfp2 j hj with h|h
    ·exact hfp j h
    ·exact .inr h
   all_goals simp +contextual only[go_sem,↓reduceIte,p2,p3,p4,p8,p9,p10,p11,p12]
  case refine_12 =>
   intro z hz e2 s2 pv2 sv2 w g2' hold p9 p10 p11 p12 hw hw1 hw2 hw3 V2 hst2 hci2 hs2 hn2 hfp2 fr2
   have hm:(prodF a.fa b.fa).m=2^a.lines.toNat:=rfl
   rw[hm] at hrun
   generalize visRow ((prodF a.fa b.fa).nx c) (y c) i (2^a.lines.toNat) 0 T'=v at *
   obtain⟨T2,o2⟩:=v
   simp only at hz hrun V2
   subst hz
   simp only at hrun
   rw[←hrun] at hx
   simp (maxSteps:=2000000) +contextual only[go_sem,↓reduceIte]
   refine hx i z rfl _ _ pv2 sv2 s'.next w g2' p9 p10 p11 p12 hw (by omega) hw2 hw3 V2 hci2 (fun j h1 h2=>?_) (by omega) (fun j hj=>?_) fr2
   ·rw[hs2 j h1 fun h=>by rcases hfp j h with h|h;exact h2 h;omega,kS j (by omega),hs j h1 h2]
   ·rcases hfp2 j hj with h|h
    ·exact hfp j h
    ·exact .inr h
  all_goals simp +contextual only[go_sem,↓reduceIte,q2,q3,q4,q8,q9,q10,q13]
  all_goals rfl
 ·have hie:i=T'.length:=by omega
  rw[List.getElem?_eq_none (by omega)] at hrun
  simp only at hrun
  have hle:decide ((i:Int)<(T'.length:Int))=false:=by rw[nat_lt_dec];simp;omega
  have hg9:=q9.trans hpv
  simp (maxSteps:=2000000) +contextual only[go_sem,↓reduceIte,r114_l1,q13,hg9,hle]
  rw[←hrun] at hk
  rw[List.take_of_length_le (by rw[codes_len];omega)] at hst
  refine hk rfl _ _ pv' sv' pt' g1 ?_ ?_ ?_ ?_ V' hst hci' hs hnx hfp fr'
  ·simp +contextual only[go_sem,↓reduceIte,q11]
  ·simp +contextual only[go_sem,↓reduceIte,q12]
  ·simp +contextual only[go_sem,↓reduceIte,q9]
  ·simp +contextual only[go_sem,↓reduceIte,q10]
theorem scs_get:∀(l:List (Int×Int)) (i:Nat) (h:i<l.length),(scs l)[i*2]? = some (.int .i64 l[i].1)∧(scs l)[i*2+1]? = some (.int .i64 l[i].2)
 |p::l,0,_=>⟨rfl,rfl⟩
 |p::l,i+1,h=>by
  have:=scs_get l i (by rw[List.length_cons] at h;omega)
  rw[show (i+1)*2=i*2+2 by omega]
  exact this
theorem stp_get {T:List Trip}{k:Nat}{t:Trip}(h:T[k+1]? = some t):∃h':k+1<(stp T).length,(stp T)[k+1]=((t.2.1:Int),(t.2.2:Int)):=by
 cases T with
 |nil=>simp at h
 |cons a l =>
  rw[List.getElem?_cons_succ] at h
  obtain⟨h1,h2⟩:=List.getElem?_eq_some_iff.1 h
  exact⟨by simp[stp,h1],by simp[stp,h2]⟩
theorem l114c {β:Type}{fin:Fl→β}{ks:List K}{Post:β→Prop}{A:Fa}{T:List Trip}(hT:VisI A T)(hTl:T.length≤65536){N k w:Nat}{cap:Option Nat}{sv:AV}{L:List Nat}(hk:k<T.length)(hcap:cap=none∨cap=some L.length)(hL:k+L.length≤2^20)
  {e:Env}{s:St}(g10:Env.get e 10=sv)(g11:Env.get e 11=.int .i64 (k:Nat))(g12:Env.get e 12=.sl w 0 L.length cap 1)(hs:PrI s N 262 T.length (scs (stp T)) sv)(gw:s.get w=some (.cells (nats L) 3 false 0 0))(nw:w<s.next)(fr:Fr s)
  (hk:∀e' s' w' cap',Env.get e' 9=Env.get e 9→Env.get e' 12=.sl w' 0 (L++(sigT T k k).reverse).length cap' 1→s'.get w'=some (.cells (nats (L++(sigT T k k).reverse)) 3 false 0 0)→(w'=w∨s.next≤w')→w'<s'.next→(∀j,j<s.next→j≠w→s'.get j=s.get j)→s.next≤s'.next→Fr s'→Post (goN U fin ks e' s')) :
  Post (goL U fin (.bk 4::ks) r114_l2 e s):=by
 have hk0:=hk
 generalize hR:L++(sigT T k k).reverse=R at *
 refine loop_ex (σ:=Nat) (fun k=>k) (fun k' e' s'=>k'<T.length∧Env.get e' 9=Env.get e 9∧Env.get e' 10=sv∧Env.get e' 11=.int .i64 (k':Nat)∧PrI s' N 262 T.length (scs (stp T)) sv∧(∀j,j<s.next→j≠w→s'.get j=s.get j)∧s.next≤s'.next∧Fr s' ∧
   ∃L' w' cap',Env.get e' 12=.sl w' 0 L'.length cap' 1∧(cap'=none∨cap'=some L'.length)∧L'++(sigT T k' k').reverse=R∧k'+L'.length≤2^20∧s'.get w'=some (.cells (nats L') 3 false 0 0)∧(w'=w∨s.next≤w')∧w'<s'.next) k ?_
  ⟨by omega,rfl,g10,g11,hs,fun _ _ _=>rfl,Nat.le_refl _,fr,L,w,cap,g12,hcap,hR,hL,gw,.inl rfl,nw⟩
 rintro Lp k' e' s' ⟨hk',q9,q10,q11,hs',hsf,hnx,fr',L',w',cap',q12,hcap',hR',hL',gw',hw',nw'⟩ IH
 cases k' with
 |zero =>
  have hR':L'=R:=by rw[←hR'];simp[sigT]
  subst hR'
  have hd:decide (((0:Nat):Int)>0)=false:=rfl
  simp (maxSteps:=2000000) +contextual only[go_sem,↓reduceIte,r114_l2,q11,hd]
  refine hk0 _ _ w' cap' ?_ ?_ gw' hw' nw' hsf hnx fr'
  ·simp +contextual only[go_sem,↓reduceIte,q9]
  ·simp +contextual only[go_sem,↓reduceIte,q12]
 |succ k' =>
  have ht:T[k'+1]? = some T[k'+1]:=List.getElem?_eq_getElem hk'
  obtain⟨f1,f2⟩:=hT.fr k' _ ht
  obtain⟨hst,hst2⟩:=stp_get ht
  obtain⟨c1,c2⟩:=scs_get (stp T) (k'+1) hst
  rw[hst2] at c1 c2
  simp only at c1 c2
  have hsg:sigT T (k'+1) (k'+1)=sigT T T[k'+1].2.1 T[k'+1].2.1++[T[k'+1].2.2]:=by
   rw[sigT,ht]
   simp only
   rw[sigT_fuel hT k' _ f1 (by omega)]
  rw[hsg,List.reverse_append,List.reverse_singleton,←List.append_assoc] at hR'
  generalize T[k'+1].2.1=fm at *
  generalize T[k'+1].2.2=x at *
  have hd:decide (((k'+1:Nat):Int)>0)=true:=by simp
  obtain⟨bs,caps,rfl,hp2,hp3,hp4,hp5,hp6⟩:=hs'
  have hws:w'≠bs:=blk_ne gw' hp3 (by decide)
  have hkT:k'+1<T.length:=hk'
  have hb3:(L'.length+1)*8≤1099511627776:=by omega
  have hb4:L'.length+1≤1099511627776:=by omega
  simp (maxSteps:=2000000) +contextual only[go_sem,↓reduceIte,r114_l2,q10,q11,q12,hd,hkT,hp3,c1,c2,Nat.zero_add,Nat.mul_one,Nat.one_mul,appK_some,Nat.reducePow,hb3,hb4]
  obtain⟨s4,d1,d2,d3,d4,d5⟩:=appC (b:=w') (L:=L') (s:=s'.new (.cells [.int .i64 (x:Int)] 3 false 0 0)) hcap' rfl (by rw[get_new,if_neg (by omega)];exact gw') (by rw[next_new];omega) x
  simp only[next_new] at d1 d2 d3 d4
  rw[d1]
  have k4:∀j,j<s'.next→j≠w'→s4.get j=s'.get j:=fun j h1 h2=>by rw[d4 j (by omega) h2,get_new,if_neg (by omega)]
  have u3:=(k4 bs hp6 hws.symm).trans hp3
  simp (maxSteps:=2000000) +contextual only[go_sem,↓reduceIte,q10,q11,hkT,u3,c1,Nat.zero_add,Nat.mul_one]
  refine IH fm _ _ (by omega) ⟨by omega,?_,?_,?_,⟨bs,caps,rfl,hp2,u3,hp4,hp5,by omega⟩,fun j h1 h2=>by rw[k4 j (by omega) (by omega),hsf j h1 h2],by omega,d5 (fr'.new _),L'++[x],s'.next+1,none,?_,.inl rfl,hR',by rw[List.length_append,List.length_singleton];omega,d3,.inr (by omega),by omega⟩
  ·simp +contextual only[go_sem,↓reduceIte,q9]
  ·simp +contextual only[go_sem,↓reduceIte,q10]
  ·simp +contextual only[go_sem,↓reduceIte]
  ·simp +contextual only[go_sem,↓reduceIte,List.length_append,List.length_singleton]
theorem c178 {s:St}{w:Nat}{L:List Nat}{cap:Option Nat}(hL:L≠[])(hlen:L.length≤2^30)(hg:s.get w=some (.cells (nats L) 3 false 0 0))(hw:w<s.next)(fr:Fr s) :
  ∃v s',cal U 178 [.sl w 0 L.length cap 1] s=some (v,s')∧s'.get w=some (.cells (nats L.reverse) 3 false 0 0)∧(∀j,j<s.next→j≠w→s'.get j=s.get j)∧s.next≤s'.next∧Fr s':=by
 suffices hgo:∃x,go U (finB U []) [] r178 (bindArgs 0 [.sl w 0 L.length cap 1] .nil) s=some x∧x.2.get w=some (.cells (nats L.reverse) 3 false 0 0)∧(∀j,j<s.next→j≠w→x.2.get j=s.get j)∧s.next≤x.2.next∧Fr x.2 by
  obtain⟨x,h1,h2⟩:=hgo
  exact⟨x.1,x.2,kept_go k178 (by kernel_rfl) h1,h2⟩
 obtain⟨m,hm⟩:∃m,L.length=m+1:=⟨L.length-1,by have:=List.length_pos_iff.2 hL;omega⟩
 have hwr:IntKind.i64.wrap ((L.length:Int)-1)=(m:Int):=by rw[wrap_i64] <;> omega
 simp (maxSteps:=2000000) +contextual only[go_sem,↓reduceIte,r178,hwr]
 refine loop_ex (Post:=fun (o:Option (AV×St))=>∃x,o=some x∧x.2.get w=some (.cells (nats L.reverse) 3 false 0 0)∧(∀j,j<s.next→j≠w→x.2.get j=s.get j)∧s.next≤x.2.next∧Fr x.2) (σ:=Nat×Nat) (fun p=>p.2) (fun p e' s'=>p.1+p.2+1=L.length∧Env.get e' 0=.sl w 0 L.length cap 1∧Env.get e' 2=.int .i64 (p.1:Nat)∧Env.get e' 3=.int .i64 (p.2:Nat)∧(∀j,j<s.next→j≠w→s'.get j=s.get j)∧s.next≤s'.next∧Fr s' ∧
   ∃M:List Nat,M.length=L.length∧s'.get w=some (.cells (nats M) 3 false 0 0)∧∀x,x<L.length→M[x]? = if x<p.1∨L.length≤x+p.1 then L[L.length-1-x]? else L[x]?) (0,m) ?_
  ⟨by simp only;omega,?_,?_,?_,fun _ _ _=>rfl,Nat.le_refl _,fr,L,rfl,hg,fun x hx=>by simp only;rw[if_neg (by omega)]⟩
 ·rintro Lp ⟨i,j⟩ e' s' ⟨hij,q0,q2,q3,hsf,hnx,fr',M,hM,gM,hMx⟩ IH
  simp only at hij q2 q3 hMx
  by_cases hd:i<j
  ·have hw1:=wrap_succ hd (by omega)
   have hw2:IntKind.i64.wrap ((j:Int)-1)=((j-1:Nat):Int):=by rw[wrap_i64] <;> omega
   have hi:i<L.length:=by omega
   have hj:j<L.length:=by omega
   have o1:=nats_get (l:=M) (i:=i) (by omega)
   have o2:=nats_get (l:=M) (i:=j) (by omega)
   have y1:=nats_lay (l:=M) (i:=i) (gt M j) (by omega)
   have y2:=nats_lay (l:=M.set i (gt M j)) (i:=j) (gt M i) (by rw[List.length_set];omega)
   have hws:w<s'.next:=by omega
   have f1:∀q,(s'.next+q=w)=False:=fun q=>by simp;omega
   have f2:∀q,(w=s'.next+q)=False:=fun q=>by simp;omega
   simp (maxSteps:=2000000) +contextual only[go_sem,↓reduceIte,r178_l0,q0,q2,q3,nat_lt_dec,hd,hi,hj,gM,o1,o2,y1,y2,Nat.zero_add,Nat.mul_one,hw1,hw2,f1,f2]
   have gj:M[j]? = some (gt M j):=by rw[gt_get (by omega)];exact List.getElem?_eq_getElem _
   have gi:M[i]? = some (gt M i):=by rw[gt_get (by omega)];exact List.getElem?_eq_getElem _
   have mj:=hMx j hj
   have mi:=hMx i hi
   rw[if_neg (by omega)] at mj mi
   refine IH (i+1,j-1) _ _ (by simp only;omega) ⟨by simp only;omega,?_,?_,?_,fun k h1 h2=>?_,?_,?_,(M.set i (gt M j)).set j (gt M i),by simp[hM],?_,fun x hx=>?_⟩
   ·simp +contextual only[go_sem,↓reduceIte,q0]
   ·simp +contextual only[go_sem,↓reduceIte]
   ·simp +contextual only[go_sem,↓reduceIte]
   ·rw[get_put,if_neg h2.symm,get_put,if_neg h2.symm,upto_get];exact hsf k h1 h2
   ·simp only[next_put,upto_next];omega
   ·repeat first|exact fr'|apply Fr.new|apply Fr.put|apply Fr.upto
    all_goals try simp only[next_put,next_new,upto_next]
    all_goals omega
   ·rw[get_put,if_pos rfl]
   ·simp only
    rw[List.getElem?_set,List.getElem?_set]
    by_cases e1:j=x
    ·subst e1
     rw[if_pos rfl,if_pos (by rw[List.length_set];omega),if_pos (by omega),show L.length-1-j=i by omega,←mi,gi]
    ·rw[if_neg e1]
     by_cases e2:i=x
     ·subst e2
      rw[if_pos rfl,if_pos (by omega),if_pos (by omega),show L.length-1-i=j by omega,←mj,gj]
     ·rw[if_neg e2,hMx x hx]
      by_cases e3:x<i∨L.length≤x+i
      ·rw[if_pos e3,if_pos (by omega)]
      ·rw[if_neg e3,if_neg (by omega)]
  ·simp (maxSteps:=2000000) +contextual only[go_sem,↓reduceIte,r178_l0,q2,q3,nat_lt_dec,hd]
   have hMe:M=L.reverse:=by
    refine List.ext_getElem? fun x=>?_
    by_cases hx:x<L.length
    ·rw[List.getElem?_reverse hx,hMx x hx]
     by_cases e3:x<i∨L.length≤x+i
     ·rw[if_pos e3]
     ·rw[if_neg e3,show L.length-1-x=x by omega]
    ·rw[List.getElem?_eq_none (by omega),List.getElem?_eq_none (by rw[List.length_reverse];omega)]
   rw[←hMe]
   exact⟨_,rfl,gM,hsf,hnx,fr'⟩
 all_goals simp +contextual only[go_sem,↓reduceIte]
 all_goals rfl
theorem k178' (args:List AV)(s:St):callK U (calV U 178 args) 178 args s=cal U 178 args s:=(callK_eq U 178 args s).symm
theorem k114' (args:List AV)(s:St):callK U (calV U 114 args) 114 args s=cal U 114 args s:=(callK_eq U 114 args s).symm
theorem c178n (s:St):∃v,cal U 178 [.nils] s=some (v,s):=by
 suffices hgo:∃v,go U (finB U []) [] r178 (bindArgs 0 [.nils] .nil) s=some (v,s) by
  obtain⟨v,h1⟩:=hgo
  exact⟨v,kept_go k178 (by kernel_rfl) h1⟩
 have hwr:IntKind.i64.wrap ((0:Int)-1) = -1:=rfl
 have hd:decide ((0:Int) < -1)=false:=rfl
 simp (maxSteps:=2000000) +contextual only[go_sem,↓reduceIte,r178,hwr]
 rw[goL_eq]
 simp (maxSteps:=2000000) +contextual only[go_sem,↓reduceIte,r178_l0,hwr,hd]
 exact⟨_,rfl⟩
theorem sigT_len (T:List Trip):∀(f k:Nat),(sigT T f k).length≤f
 |0,k=>by simp[sigT]
 |f+1,0=>by simp[sigT]
 |f+1,k+1=>by
  rw[sigT]
  cases T[k+1]? with
  |none=>simp
  |some t =>
   have:=sigT_len T f t.2.1
   simp only[List.length_append,List.length_singleton]
   omega
def EndI (s:St)(N:Nat)(L:List Nat)(v:AV):Prop:=(v=.nils∧L=[])∨∃w cap,v=.sl w 0 L.length cap 1∧s.get w=some (.cells (nats L) 3 false 0 0)∧N≤w∧w<s.next∧L≠[]
structure VisR {G:Type}(a b:Auto)(y:Nat→Nat→Bool)(CI:G→St→Prop)(fp:G→Nat→Prop)(nxt:G→Nat→Nat→G→Prop)(g:G)(s:St)(pv ev:AV)(s':St)(g':G):Prop where
 pairs:PrI s' s.next 186 (visAll (prodF a.fa b.fa) y).1.length (pcs b.fa.n (codes (visAll (prodF a.fa b.fa) y).1)) pv
 ends:EndI s' s.next (endS (visAll (prodF a.fa b.fa) y)) ev
 stps:(visAll (prodF a.fa b.fa) y).2=none→Stps nxt g ((codes (visAll (prodF a.fa b.fa) y).1).flatMap fun c=>rowC c (2^a.lines.toNat)) g'
 ci:CI g' s'
 same:∀j,j<s.next→¬fp g j→s'.get j=s.get j
 next:s.next≤s'.next
 foot:∀j,fp g' j→fp g j∨s.next≤j
 own:∀j,isB2 pv j→¬fp g' j
 fr:Fr s'
theorem c114 {a b:Auto}(ha:a.ok)(hb:b.ok)(hlb:a.lines=b.lines){fn:AV}{s:St}{G:Type}{CI:G→St→Prop}{fp:G→Nat→Prop}{dom:Nat→Nat→Prop}{y:Nat→Nat→Bool}{nxt:G→Nat→Nat→G→Prop}
  (Y:Yld fn b.fa.n s.next G CI fp dom y nxt)(hdom:∀c x,c<(prodF a.fa b.fa).n→x<2^a.lines.toNat→dom c x){g:G}(hci:CI g s)(fr:Fr s) :
  ∃pv ev s' g',cal U 114 [encA a,encA b,fn] s=some (.tup [pv,ev],s')∧VisR a b y CI fp nxt g s pv ev s' g':=by
 suffices hgo:∃x,go U (finB U [.tmp 6,.tmp 7]) [] r114 (bindArgs 0 [encA a,encA b,fn] .nil) s=some x∧∃pv ev g',x.1=.tup [pv,ev]∧VisR a b y CI fp nxt g s pv ev x.2 g' by
  obtain⟨x,h1,pv,ev,g',h2,h3⟩:=hgo
  exact⟨pv,ev,x.2,g',by rw[←h2];exact kept_go k114 (by kernel_rfl) h1,h3⟩
 have hP:=prodF_ok ha.faok hb.faok (by show 2^a.lines.toNat=2^b.lines.toNat;rw[hlb])
 have hnn:(prodF a.fa b.fa).n≤65536:=Nat.mul_le_mul ha.few hb.few
 have hV:=visAll_spec hP y
 have hVl:=hV.inv.len
 have hltg:=Y.lt g s hci
 have nn:=noAgg_encS a.nNl (a.next.map encRow)
 have nf:=noAgg_encS a.fNl (a.fires.map encFRow)
 have cn:=cells_encS a.nNl (a.next.map encRow)
 have cf:=cells_encS a.fNl (a.fires.map encFRow)
 have nn':=noAgg_encS b.nNl (b.next.map encRow)
 have nf':=noAgg_encS b.fNl (b.fires.map encFRow)
 have cn':=cells_encS b.nNl (b.next.map encRow)
 have cf':=cells_encS b.fNl (b.fires.map encFRow)
 have hz:pcell b.fa.n 0=[.int .i64 0,.int .i64 0]:=by simp[pcell]
 have up:=fun (S:St) (m:Nat) (h:S.get m=some (.map [] false))=>update260 (m:=m) (k:=b.fa.n) (ks:=[]) (c:=0) h (by simp)
 rw[hz] at up
 rw[encA_eq a,encA_eq b]
 unfold encN encFs
 simp (maxSteps:=2000000) +contextual only[go_sem,↓reduceIte,r114,nn,nf,cn,cf,nn',nf',cn',cf',up,Nat.add_assoc]
 obtain⟨S,hS⟩:∃S,S=((((((s.new (.cells [.int .i64 a.lines,encS a.nNl (a.next.map encRow),encS a.fNl (a.fires.map encFRow)] 69 false 0 0)).new (.cells [.int .i64 b.lines,encS b.nNl (b.next.map encRow),encS b.fNl (b.fires.map encFRow)] 69 false 0 0)).new (.map [] false)).put (s.next+2) (.map (entP b.fa.n (fun _=>.bool true) [0] 0) false)).new (.cells [.int .i64 0,.int .i64 0] 186 false 0 0)).new (.cells [.int .i64 (-1),.int .i64 0] 262 false 0 0)):=⟨_,rfl⟩
 rw[←hS]
 have hSn:S.next=s.next+5:=by rw[hS];simp only[next_new,next_put]
 have kS:∀j,j<s.next→S.get j=s.get j:=fun j h1=>by rw[hS];simp only[get_new,next_new,next_put,get_put];rw[if_neg (by omega),if_neg (by omega),if_neg (by omega),if_neg (by omega),if_neg (by omega),if_neg (by omega)]
 have u0:S.get s.next=some (.cells [.int .i64 a.lines,encS a.nNl (a.next.map encRow),encS a.fNl (a.fires.map encFRow)] 69 false 0 0):=by rw[hS];simp only[get_new,next_new,next_put,get_put];rw[if_neg (by omega),if_neg (by omega),if_neg (by omega),if_neg (by omega),if_neg (by omega)];exact if_pos trivial
 have u1:S.get (s.next+1)=some (.cells [.int .i64 b.lines,encS b.nNl (b.next.map encRow),encS b.fNl (b.fires.map encFRow)] 69 false 0 0):=by rw[hS];simp only[get_new,next_new,next_put,get_put];rw[if_neg (by omega),if_neg (by omega),if_neg (by omega),if_neg (by omega)];exact if_pos trivial
 have u2:S.get (s.next+2)=some (.map (entP b.fa.n (fun _=>.bool true) [0] 0) false):=by rw[hS];simp only[get_new,next_new,next_put,get_put];rw[if_neg (by omega),if_neg (by omega)];exact if_pos trivial
 have u3:S.get (s.next+3)=some (.cells [.int .i64 0,.int .i64 0] 186 false 0 0):=by rw[hS];simp only[get_new,next_new,next_put,get_put];rw[if_neg (by omega)];exact if_pos trivial
 have u4:S.get (s.next+4)=some (.cells [.int .i64 (-1),.int .i64 0] 262 false 0 0):=by rw[hS];simp only[get_new,next_new,next_put,get_put];exact if_pos trivial
 have frS:Fr S:=by
  rw[hS]
  repeat first|exact fr|apply Fr.new|apply Fr.put|apply Fr.upto
  all_goals try simp only[next_put,next_new,upto_next]
  all_goals omega
 have nfp:∀q,¬fp g (s.next+q):=fun q h=>by have:=hltg _ h;omega
 have V:Vis S s.next a b (fp g) s.next (s.next+1) (s.next+2) (s.next+4) [(0,0,0)] (.sl (s.next+3) 0 1 (some 1) 2) (.sl (s.next+4) 0 1 (some 1) 2):=by
  refine⟨u0,u1,u2,⟨s.next+3,some 1,rfl,.inr rfl,?_,rfl,by omega,by omega⟩,⟨s.next+4,some 1,rfl,.inr rfl,u4,rfl,by omega,by omega⟩,by omega,⟨nfp 0,nfp 1,nfp 2,nfp 4⟩,fun j hj=>?_,fun j hj=>?_,by omega⟩
  ·rw[u3]
   simp[pcs,codes,hz]
  ·rw[isB2_sl] at hj;subst hj;exact⟨nfp 3,by omega⟩
  ·rw[isB2_sl] at hj;subst hj;exact nfp 4
 have hciS:CI g S:=Y.keep g s S hci (by omega) fun j h1 _=>kS j h1
 refine l114b (Post:=fun (o:Option (AV×St))=>∃x,o=some x∧∃pv ev g',x.1=.tup [pv,ev]∧VisR a b y CI fp nxt g s pv ev x.2 g') ha hb hlb Y hdom ?_ ?_ ?_ ?_ ?_ ?_ ?_ V hciS frS (by omega) ?_ ?_
 case refine_8 =>
  intro hnone e2 s2 pv2 sv2 pt2 g2 p11 p12 p9 p10 V2 hst2 hci2 hs2 hn2 hfp2 fr2
  have p11:Env.get e2 11=.int .i64 (-1):=by rw[p11];simp +contextual only[go_sem,↓reduceIte]
  have p12:Env.get e2 12=.nils:=by rw[p12];simp +contextual only[go_sem,↓reduceIte]
  have hd:decide ((-1:Int)>0)=false:=rfl
  obtain⟨v,h178⟩:=c178n s2
  simp (maxSteps:=2000000) +contextual only[go_sem,↓reduceIte]
  rw[goL_eq]
  simp (maxSteps:=2000000) +contextual only[go_sem,↓reduceIte,r114_l2,p11,p12,p9,hd,k178',h178]
  refine⟨_,rfl,pv2,.nils,g2,rfl,⟨V2.hp,.inl ⟨rfl,by unfold endS;rw[hnone]⟩,fun _=>hst2,hci2,fun j h1 h2=>by rw[hs2 j h1 h2,kS j h1],Nat.le_trans (by omega:s.next≤S.next) hn2,hfp2,fun j hj=>(V2.fp j hj).1,fr2⟩⟩
 case refine_9 =>
  intro k z hkz e2 s2 pv2 sv2 pt2 w g2 p9 p10 p11 p12 hw hw1 hw2 hw3 V2 hci2 hs2 hn2 hfp2 fr2
  obtain⟨_,_,⟨t,ht,_⟩,_⟩:=hV.stop k z hkz
  have hkl:=(List.getElem?_eq_some_iff.1 ht).1
  simp (maxSteps:=2000000) +contextual only[go_sem,↓reduceIte]
  refine l114c (Post:=fun (o:Option (AV×St))=>∃x,o=some x∧∃pv ev g',x.1=.tup [pv,ev]∧VisR a b y CI fp nxt g s pv ev x.2 g') hV.inv (by omega) (L:=[z]) (cap:=some 1) hkl (.inr rfl) (by simp;omega) p10 p11 p12 V2.hs hw hw2 fr2 ?_
  intro e3 s3 w3 cap3 p39 p312 hw3' hw31 hw32 hs3 hn3 fr3
  generalize hL:[z]++(sigT (visAll (prodF a.fa b.fa) y).1 k k).reverse=L at *
  have hend:endS (visAll (prodF a.fa b.fa) y)=L.reverse:=by
   unfold endS
   rw[hkz,←hL]
   simp
  have hLn:L≠[]:=by rw[←hL];simp
  have hLl:L.length≤2^30:=by
   have h1:(sigT (visAll (prodF a.fa b.fa) y).1 k k).length≤k:=sigT_len _ k k
   rw[←hL]
   simp
   omega
  obtain⟨v,s5,h178,k51,k52,k53,k54⟩:=c178 (cap:=cap3) hLn hLl hw3' hw32 fr3
  have nf3:∀j,fp g2 j→j<s2.next∧j≠w:=fun j hj=>⟨Y.lt g2 s2 hci2 j hj,fun e=>hw3 (e ▸ hj)⟩
  have k5:∀j,j<s2.next→j≠w→s5.get j=s2.get j:=fun j h1 h2=>by rw[k52 j (by omega) (by omega),hs3 j h1 h2]
  have nB:∀j,isB2 pv2 j→j≠w:=fun j h1=>blk_ne (V2.hp.ltB h1).2.2 hw (by decide)
  have hP5:PrI s5 s.next 186 (visAll (prodF a.fa b.fa) y).1.length (pcs b.fa.n (codes (visAll (prodF a.fa b.fa) y).1)) pv2:=V2.hp.keepB (by omega) fun j h1 h2=>k5 j h1 (nB j h2)
  have hci5:CI g2 s5:=Y.keep g2 s2 s5 hci2 (by omega) fun j h1 h2=>k5 j h1 (by
   rcases h2 with h2|h2
   ·exact (nf3 j h2).2
   ·omega)
  simp (maxSteps:=2000000) +contextual only[go_sem,↓reduceIte,p312,p39,p9,k178',h178]
  refine⟨_,rfl,pv2,_,g2,rfl,⟨hP5,.inr ⟨w3,cap3,by rw[hend,List.length_reverse],by rw[hend];exact k51,by omega,Nat.lt_of_lt_of_le hw32 k53,by rw[hend];exact fun h=>hLn (List.reverse_eq_nil_iff.1 h)⟩,fun h=>(by rw[hkz] at h;cases h),hci5,fun j h1 h2=>?_,Nat.le_trans (Nat.le_trans (Nat.le_trans (by omega:s.next≤S.next) hn2) hn3) k53,hfp2,fun j hj=>(V2.fp j hj).1,k54⟩⟩
  exact (k5 j (by omega) (by omega)).trans (by rw[hs2 j h1 h2,kS j h1])
 all_goals simp +contextual only[go_sem,↓reduceIte]
 all_goals rfl
theorem c177 (p q x:Int)(s:St):cal U 177 [.agg [.int .i64 p,.int .i64 q],.int .i64 x] s=some (.bool true,s.new (.cells [.int .i64 p,.int .i64 q] 186 false 0 0)):=by
 refine kept_go k177 (by kernel_rfl) ?_
 simp (maxSteps:=2000000) +contextual only[go_sem,↓reduceIte,r177]
theorem yld177 (k B0:Nat):Yld (.fn (.func 177) [] []) k B0 Unit (fun _ _=>True) (fun _ _=>False) (fun _ _=>True) (fun _ _=>true) (fun _ _ _ _=>True):=by
 refine⟨fun g c x s _ _ hf=>⟨(),s.new (.cells (pcell k c) 186 false 0 0),?_,trivial,trivial,fun j hj=>hj.elim,fun j hj _=>by rw[get_new,if_neg (by omega)],by rw[next_new];omega,hf.new _⟩,fun _ _ _ _ _ _=>trivial,fun _ _ _ _ h=>h.elim⟩
 rw[calv_fn,←callK_eq]
 exact c177 _ _ _ s
theorem c115 {a:Auto}(ha:a.ok){s:St}{bx c x:Nat}(hc:c / a.fa.n<a.next.length)(hx:x<2^a.lines.toNat)(hb:bx<s.next)(hg:s.get bx=some (.cells [.int .i64 a.lines,encS a.nNl (a.next.map encRow),encS a.fNl (a.fires.map encFRow)] 69 false 0 0)) :
  cal U 115 [.agg (pcell a.fa.n c),.int .i64 (x:Int),.ptr bx 0] s=some (.bool (!a.fa.fr (c / a.fa.n) x),s.new (.cells (pcell a.fa.n c) 186 false 0 0)):=by
 refine kept_go k115 (by kernel_rfl) ?_
 have hq':c / a.fa.n<a.fires.length:=by rw[ha.fl];exact hc
 have r2:=ixa_rowB (nl:=a.fNl) hq'
 have n2:=ha.frAt hc hx
 have f1:(s.next=bx)=False:=by simp;omega
 unfold pcell
 simp (maxSteps:=2000000) +contextual only[go_sem,↓reduceIte,r115,hg,r2,n2,f1]
theorem yld115 {a:Auto}(ha:a.ok){bx B0:Nat}(hb:bx<B0):Yld (.fn (.func 115) [] [.ptr bx 0]) a.fa.n B0 Unit (fun _ s=>bx<s.next∧s.get bx=some (.cells [.int .i64 a.lines,encS a.nNl (a.next.map encRow),encS a.fNl (a.fires.map encFRow)] 69 false 0 0)) (fun _ _=>False) (fun c x=>c / a.fa.n<a.next.length∧x<2^a.lines.toNat) (fun c x=>!a.fa.fr (c / a.fa.n) x) (fun _ _ _ _=>True):=by
 refine⟨fun g c x s hd hci hf=>⟨(),s.new (.cells (pcell a.fa.n c) 186 false 0 0),?_,trivial,⟨by rw[next_new];omega,by rw[get_new,if_neg (by omega)];exact hci.2⟩,fun j hj=>hj.elim,fun j hj _=>by rw[get_new,if_neg (by omega)],by rw[next_new];omega,hf.new _⟩,fun g s s' hci hn hs=>⟨by omega,(hs bx hci.1 (.inr hb)).trans hci.2⟩,fun _ _ _ _ h=>h.elim⟩
 have:=c115 ha hd.1 hd.2 hci.1 hci.2
 rw[calv_fn,←callK_eq]
 exact this
theorem l111a {β:Type}{fin:Fl→β}{ks:List K}{Post:β→Prop}{k N mp:Nat}{L:List Nat}{pv:AV}(hnd:L.Nodup)(hLl:L.length≤2^20)
  {e:Env}{s:St}(g11:Env.get e 11=.map mp)(g35:Env.get e 35=pv)(g36:Env.get e 36=.int .i64 L.length)(g37:Env.get e 37=.int .i64 (0:Nat))
  (hp:PrI s N 186 L.length (pcs k L) pv)(gm:s.get mp=some (.map [] false))(nm:mp<s.next)(fr:Fr s)
  (hk:∀e' s',(∀t:Nat,t<12→Env.get e' t=Env.get e t)→s'.get mp=some (.map (entP k (fun i=>.int .i64 (i:Int)) L 0) false)→(∀j,j<s.next→j≠mp→s'.get j=s.get j)→s.next≤s'.next→Fr s'→Post (goN U fin ks e' s')) :
  Post (goL U fin (.bk 0::ks) r111_l0 e s):=by
 obtain⟨bp,cap,hpv,hp2,hp3,hp4,hp5,hp6⟩:=hp
 rw[hpv] at g35
 have hmb:bp≠mp:=by rintro rfl;rw[gm] at hp3;cases hp3
 refine loop_ex (σ:=Nat) (fun i=>L.length-i) (fun i e' s'=>i≤L.length∧(∀t:Nat,t<12∨t=35∨t=36→Env.get e' t=Env.get e t)∧Env.get e' 37=.int .i64 (i:Nat)∧s'.get mp=some (.map (entP k (fun i=>.int .i64 (i:Int)) (L.take i) 0) false)∧(∀j,j<s.next→j≠mp→s'.get j=s.get j)∧s.next≤s'.next∧Fr s') 0 ?_
  ⟨Nat.zero_le _,fun _ _=>rfl,g37,gm,fun _ _ _=>rfl,Nat.le_refl _,fr⟩
 rintro Lp i e' s' ⟨hi,hold,q37,qm,hs,hnx,fr'⟩ IH
 have q11:=(hold 11 (by omega)).trans g11
 have q35:=(hold 35 (by omega)).trans g35
 have q36:=(hold 36 (by omega)).trans g36
 by_cases hd:i<L.length
 ·have hwr:=wrap_succ hd (by omega)
  have gr:=pcs_grab k L i hd
  have hb:=(hs bp hp6 hmb).trans hp3
  have hin:L[i]∉L.take i:=fun h=>by
   obtain⟨j,hj,e⟩:=List.mem_iff_getElem.1 h
   rw[List.length_take] at hj
   rw[List.getElem_take] at e
   have:=(List.getElem_inj hnd).1 e
   omega
  have htk:L.take (i+1)=L.take i++[L[i]]:=List.take_succ_eq_append_getElem hd
  have hl:(L.take i).length=i:=by rw[List.length_take];omega
  have up:=fun (S:St) (h:S.get mp=some (.map (entP k (fun i=>.int .i64 (i:Int)) (L.take i) 0) false))=>update259 h hin
  rw[hl] at up
  rw[←htk] at up
  generalize L[i]=c at *
  unfold pcell at gr up
  have f1:(s'.next=mp)=False:=by simp;omega
  have f2:(mp=s'.next)=False:=by simp;omega
  simp (maxSteps:=2000000) +contextual only[go_sem,↓reduceIte,r111_l0,q11,q35,q36,q37,nat_lt_dec,hd,hb,gr,grabK_some,hwr,up,f1,f2,qm,Nat.zero_add]
  refine IH (i+1) _ _ (by omega) ⟨by omega,fun t ht=>?_,?_,?_,fun j h1 h2=>?_,?_,?_⟩
  ·have hne:∀k:Nat,37≤k→(k=t)=False:=fun k hk=>by simp;omega
   have h12:(12=t)=False:=by simp;omega
   have h13:(13=t)=False:=by simp;omega
   simp +contextual only[go_sem,↓reduceIte,hne,h12,h13]
   exact hold t ht
  ·simp +contextual only[go_sem,↓reduceIte]
  ·rw[get_put,if_pos rfl]
  ·rw[get_put,if_neg h2.symm,get_put,if_neg (by omega),get_new,if_neg (by omega)];exact hs j h1 h2
  ·simp only[next_put,next_new];omega
  ·repeat first|exact fr'|apply Fr.new|apply Fr.put|apply Fr.upto
   all_goals try simp only[next_put,next_new,upto_next]
   all_goals omega
 ·have hie:i=L.length:=by omega
  subst hie
  rw[List.take_length] at qm
  simp (maxSteps:=2000000) +contextual only[go_sem,↓reduceIte,r111_l0,q36,q37,nat_lt_dec,Nat.lt_irrefl]
  refine hk _ _ (fun t ht=>?_) qm hs hnx fr'
  have hne:∀k:Nat,12≤k→(k=t)=False:=fun k hk=>by simp;omega
  simp +contextual only[go_sem,↓reduceIte,hne]
  exact hold t (.inl ht)
theorem l111q {β:Type}{fin:Fl→β}{ks:List K}{Post:β→Prop}{a b:Auto}(ha:a.ok)(hb:b.ok)(hlb:a.lines=b.lines){f:Bool→Bool→Bool}{fn:AV}(hfn:∀(p q:Bool) (s:St),calv U fn [.bool p,.bool q] s=some (.bool (f p q),s)){N A0 B0 mp pt p2 x c:Nat}{T:List Nat}{cR cF:List AV}{rv lv:AV}
  (hc:c<(prodF a.fa b.fa).n)(hx:x<2^a.lines.toNat)(hT:(prodF a.fa b.fa).nx c x∈T)
  {e:Env}{s:St}(g2:Env.get e 2=fn)(g3:Env.get e 3=.ptr A0 0)(g4:Env.get e 4=.ptr B0 0)(g11:Env.get e 11=.map mp)(g16:Env.get e 16=.ptr pt 0)(g17:Env.get e 17=rv)(g18:Env.get e 18=lv)(g19:Env.get e 19=.int .i64 (x:Nat))(g20:Env.get e 20=.ptr p2 0)
  (gA:s.get A0=some (.cells [.int .i64 a.lines,encS a.nNl (a.next.map encRow),encS a.fNl (a.fires.map encFRow)] 69 false 0 0))(gB:s.get B0=some (.cells [.int .i64 b.lines,encS b.nNl (b.next.map encRow),encS b.fNl (b.fires.map encFRow)] 69 false 0 0))(gm:s.get mp=some (.map (entP b.fa.n (fun i=>.int .i64 (i:Int)) T 0) false))(gpt:s.get pt=some (.cells (pcell b.fa.n c) 186 false 0 0))(gp2:s.get p2=some (.cells (pcell b.fa.n ((prodF a.fa b.fa).nx c x)) 186 false 0 0))
  (hlt:A0<s.next∧B0<s.next∧mp<s.next∧pt<s.next∧p2<s.next∧N≤s.next)(hr:RowI s N 3 1 x cR rv)(hl:RowI s N 4 1 x cF lv)(fr:Fr s)
  (hk:∀e' s' rv' lv',(∀t:Nat,t<17∨20<t∧t<80→Env.get e' t=Env.get e t)→Env.get e' 17=rv'→Env.get e' 18=lv'→RowI s' N 3 1 (x+1) (cR++[.int .i64 ((idxN T ((prodF a.fa b.fa).nx c x):Nat):Int)]) rv'→RowI s' N 4 1 (x+1) (cF++[.bool (f (a.fa.fr (c / b.fa.n) x) (b.fa.fr (c%b.fa.n) x))]) lv' →
   (∀j,j<s.next→¬isB rv j→¬isB lv j→s'.get j=s.get j)→s.next≤s'.next→Fr s'→Post (goN U fin ks e' s')) :
  Post (go U fin ks (.raw q111_0) e s):=by
 have hc1:c / b.fa.n<a.next.length:=Nat.div_lt_of_lt_mul (by rw[Nat.mul_comm];exact hc)
 have hc2:c%b.fa.n<b.next.length:=Nat.mod_lt _ hb.pos
 have hxb:x<2^b.lines.toNat:=by rw[←hlb];exact hx
 have hm16:=ha.m16
 have lk:=lookup259 gm ((idxN_lt _ _).2 hT)
 have hpn:=pcell_nx hb hlb hc hx
 have lk:=fun (S:St) (h:S.get mp=some (.map (entP b.fa.n (fun i=>.int .i64 (i:Int)) T 0) false))=>lookup259 h ((idxN_lt _ _).2 hT)
 rw[hpn] at gp2 lk
 generalize hv:idxN T ((prodF a.fa b.fa).nx c x)=v at *
 unfold pcell at gpt
 have n1:=ha.frAt hc1 hx
 have n2:=hb.frAt hc2 hxb
 have r1:=ixa_rowB (nl:=a.fNl) (l:=a.fires) (i:=c / b.fa.n) (by rw[ha.fl];exact hc1)
 have r2:=ixa_rowB (nl:=b.fNl) (l:=b.fires) (i:=c%b.fa.n) (by rw[hb.fl];exact hc2)
 generalize a.fa.fr (c / b.fa.n) x=fp at *
 generalize b.fa.fr (c%b.fa.n) x=fq at *
 rw[go_drcU d111_0]
 have hfk:=fr.at
 have hnt:∀t:Nat,t<17∨20<t∧t<80→((17=t)=False∧(18=t)=False∧∀k:Nat,80≤k→(k=t)=False):=fun t ht=>⟨by simp;omega,by simp;omega,fun k hk=>by simp;omega⟩
 have hN1:∀j q,j<s.next→(j=s.next+q)=False:=fun j q hj=>by simp;omega
 have hN2:∀j q,j<s.next→(s.next+q=j)=False:=fun j q hj=>by simp;omega
 have hN3:∀q,q≠0→(s.next+q=s.next)=False:=fun q hq=>by simp;omega
 have hN4:∀q,q≠0→(s.next=s.next+q)=False:=fun q hq=>by simp;omega
 obtain⟨l1,l2,l3,l4,l5,l6⟩:=hlt
 have hb1:(x+1)*8≤1099511627776:=by omega
 have hb2:x+1≤1099511627776:=by omega
 have hb3:(x+1)*1≤1099511627776:=by omega
 have key:∀(E:Env) (S:St),(∀t:Nat,t<17∨20<t∧t<80→Env.get E t=Env.get e t)→Env.get E 17=.sl (s.next+31) 0 (x+1) none 1→Env.get E 18=.sl (s.next+32) 0 (x+1) none 1 →
   S.get (s.next+31)=some (.cells (cR++[.int .i64 (v:Int)]) 3 false 0 0)→S.get (s.next+32)=some (.cells (cF++[.bool (f fp fq)]) 4 false 0 0) →
   (∀j,j<s.next→¬isB rv j→¬isB lv j→S.get j=s.get j)→s.next+32<S.next→Fr S→cR.length=x→cF.length=x→Post (goN U fin ks E S):=by
  intro E S k1 k2 k3 k4 k5 k6 k7 k8 k9 k10
  exact hk E S (.sl (s.next+31) 0 (x+1) none 1) (.sl (s.next+32) 0 (x+1) none 1) k1 k2 k3 (.inr ⟨by omega,by simp[k9],s.next+31,by omega,by omega,rfl,k4⟩) (.inr ⟨by omega,by simp[k10],s.next+32,by omega,by omega,rfl,k5⟩) k6 (by omega) k8
 rcases hr with⟨i0,rfl,rfl⟩|⟨i0,hcR,bv,v1,v2,rfl,v4⟩
 ·rcases hl with⟨_,rfl,rfl⟩|⟨i1,_⟩
  ·subst i0
   simp (maxSteps:=2000000) +contextual only[go_sem,↓reduceIte,g2,g3,g4,g11,g16,g17,g18,g19,g20,gA,gB,gm,gpt,gp2,lk,n1,n2,r1,r2,hfn,appD_nils,appK_some,Nat.mul_one,Nat.one_mul,Nat.reducePow,Nat.zero_add,Nat.add_assoc,hfk,l1,l2,l3,l4,l5,hN1,hN2,hN3,hN4,hb1,hb2,hb3]
   refine key _ _ (fun t ht=>?_) ?_ ?_ ?_ ?_ (fun j h1 h3 h4=>?_) ?_ ?_ rfl rfl
   ·obtain⟨n17,n18,hne⟩:=hnt t ht
    simp +contextual only[go_sem,↓reduceIte,n17,n18,hne]
   ·simp +contextual only[go_sem,↓reduceIte,Nat.zero_add]
   ·simp +contextual only[go_sem,↓reduceIte,Nat.zero_add]
   ·simp +contextual [go_sem,↓reduceIte,hN1,hN2,Nat.add_assoc]
   ·simp +contextual [go_sem,↓reduceIte,hN1,hN2,Nat.add_assoc]
   ·have e0:∀q,(s.next+q=j)=False:=fun q=>by simp;omega
    simp +contextual only[get_put,get_new,next_put,next_new,upto_next,upto_get,Nat.add_assoc,Nat.reduceAdd,e0,if_false]
   ·simp only[next_put,next_new,upto_next];omega
   ·repeat first|exact fr|apply Fr.new|apply Fr.put|apply Fr.upto
    all_goals try simp only[next_put,next_new,upto_next]
    all_goals omega
  ·omega
 ·rcases hl with⟨i1,_⟩|⟨_,hcF,bw,w1,w2,rfl,w4⟩
  ·omega
  ·rw[Nat.mul_one] at hcR hcF
   have z1:∀j c' t',s.get j=some (.cells c' t' false 0 0)→t'≠3→(bv=j)=False:=fun j c' t' h h'=>eq_false (blk_ne v4 h fun e=>h' e.symm)
   have z2:∀j c' t',s.get j=some (.cells c' t' false 0 0)→t'≠4→(bw=j)=False:=fun j c' t' h h'=>eq_false (blk_ne w4 h fun e=>h' e.symm)
   have y1:=z1 A0 _ _ gA (by decide)
   have y2:=z1 B0 _ _ gB (by decide)
   have y3:=z1 pt _ _ gpt (by decide)
   have y4:=z1 p2 _ _ gp2 (by decide)
   have y5:=z1 bw _ _ w4 (by decide)
   have y6:=z2 A0 _ _ gA (by decide)
   have y7:=z2 B0 _ _ gB (by decide)
   have y8:=z2 pt _ _ gpt (by decide)
   have y9:=z2 p2 _ _ gp2 (by decide)
   have y10:(bv=mp)=False:=by simp;rintro rfl;rw[gm] at v4;cases v4
   have y11:(bw=mp)=False:=by simp;rintro rfl;rw[gm] at w4;cases w4
   have y12:=z2 bv _ _ v4 (by decide)
   have a1:=fun (S:St) (h:S.get bv=some (.cells cR 3 false 0 0))=>appX1 hcR h (.int .i64 (v:Int)) rfl
   have a2:=fun (S:St) (h:S.get bw=some (.cells cF 4 false 0 0))=>appX1 hcF h (.bool (f fp fq)) rfl
   simp (maxSteps:=2000000) +contextual only[go_sem,↓reduceIte,g2,g3,g4,g11,g16,g17,g18,g19,g20,gA,gB,gm,gpt,gp2,lk,n1,n2,r1,r2,hfn,appK_some,Nat.mul_one,Nat.one_mul,Nat.reducePow,Nat.zero_add,Nat.add_assoc,hfk,l1,l2,l3,l4,l5,hN1,hN2,hN3,hN4,hb1,hb2,hb3,v2,w2,v4,w4,y1,y2,y3,y4,y5,y6,y7,y8,y9,y10,y11,y12,a1,a2]
   refine key _ _ (fun t ht=>?_) ?_ ?_ ?_ ?_ (fun j h1 h3 h4=>?_) ?_ ?_ hcR hcF
   ·obtain⟨n17,n18,hne⟩:=hnt t ht
    simp +contextual only[go_sem,↓reduceIte,n17,n18,hne]
   ·simp +contextual only[go_sem,↓reduceIte,Nat.zero_add]
   ·simp +contextual only[go_sem,↓reduceIte,Nat.zero_add]
   ·simp +contextual [go_sem,↓reduceIte,hN1,hN2,Nat.add_assoc,v2,w2]
   ·simp +contextual [go_sem,↓reduceIte,hN1,hN2,Nat.add_assoc,v2,w2]
   ·have e0:∀q,(s.next+q=j)=False:=fun q=>by simp;omega
    rw[isB_sl] at h3 h4
    simp +contextual only[get_put,get_new,next_put,next_new,upto_next,upto_get,Nat.add_assoc,Nat.reduceAdd,e0,eq_false h3,eq_false h4,if_false]
   ·simp only[next_put,next_new,upto_next];omega
   ·repeat first|exact fr|apply Fr.new|apply Fr.put|apply Fr.upto
    all_goals try simp only[next_put,next_new,upto_next]
    all_goals omega
def rowT (a b:Auto)(T:List Nat)(c:Nat):Nat→List Nat:=fun x=>(List.range x).map fun z=>idxN T ((prodF a.fa b.fa).nx c z)
def rowB (a b:Auto)(f:Bool→Bool→Bool)(c:Nat):Nat→List Bool:=fun x=>(List.range x).map fun z=>f (a.fa.fr (c / b.fa.n) z) (b.fa.fr (c%b.fa.n) z)
theorem rowT_succ (a b:Auto)(T:List Nat)(c x:Nat):nats (rowT a b T c x)++[.int .i64 ((idxN T ((prodF a.fa b.fa).nx c x):Nat):Int)]=nats (rowT a b T c (x+1)):=by
 unfold rowT
 rw[List.range_succ,List.map_append]
 simp[nats,nIs,ints]
theorem rowB_succ (a b:Auto)(f:Bool→Bool→Bool)(c x:Nat):bools (rowB a b f c x)++[.bool (f (a.fa.fr (c / b.fa.n) x) (b.fa.fr (c%b.fa.n) x))]=bools (rowB a b f c (x+1)):=by
 unfold rowB
 rw[List.range_succ,List.map_append]
 simp[bools]
theorem l111b {β:Type}{fin:Fl→β}{ks:List K}{Post:β→Prop}{a b:Auto}(ha:a.ok)(hb:b.ok)(hlb:a.lines=b.lines){f:Bool→Bool→Bool}{fn:AV}(hfn:∀(p q:Bool) (s:St),calv U fn [.bool p,.bool q] s=some (.bool (f p q),s)){A0 B0 mp pt c:Nat}{T:List Nat}
  (hc:c<(prodF a.fa b.fa).n)(hT:∀x,x<2^a.lines.toNat→(prodF a.fa b.fa).nx c x∈T)
  {e:Env}{s:St}(g2:Env.get e 2=fn)(g3:Env.get e 3=.ptr A0 0)(g4:Env.get e 4=.ptr B0 0)(g11:Env.get e 11=.map mp)(g16:Env.get e 16=.ptr pt 0)(g17:Env.get e 17=.nils)(g18:Env.get e 18=.nils)(g57:Env.get e 57=.int .i64 ((2^a.lines.toNat:Nat):Int))(g58:Env.get e 58=.int .i64 (0:Nat))
  (gA:s.get A0=some (.cells [.int .i64 a.lines,encS a.nNl (a.next.map encRow),encS a.fNl (a.fires.map encFRow)] 69 false 0 0))(gB:s.get B0=some (.cells [.int .i64 b.lines,encS b.nNl (b.next.map encRow),encS b.fNl (b.fires.map encFRow)] 69 false 0 0))(gm:s.get mp=some (.map (entP b.fa.n (fun i=>.int .i64 (i:Int)) T 0) false))(gpt:s.get pt=some (.cells (pcell b.fa.n c) 186 false 0 0))
  (hlt:A0<s.next∧B0<s.next∧mp<s.next∧pt<s.next)(fr:Fr s)
  (hk:∀e' s' rv lv,(∀t:Nat,t<17→Env.get e' t=Env.get e t)→(∀t:Nat,20<t→t<57→Env.get e' t=Env.get e t)→Env.get e' 17=rv→Env.get e' 18=lv→RowI s' s.next 3 1 (2^a.lines.toNat) (nats (rowT a b T c (2^a.lines.toNat))) rv→RowI s' s.next 4 1 (2^a.lines.toNat) (bools (rowB a b f c (2^a.lines.toNat))) lv →
   (∀j,j<s.next→s'.get j=s.get j)→s.next≤s'.next→Fr s'→Post (goN U fin ks e' s')) :
  Post (goL U fin (.bk 4::ks) r111_l1 e s):=by
 have hm16:=ha.m16
 have hc1:c / b.fa.n<a.next.length:=Nat.div_lt_of_lt_mul (by rw[Nat.mul_comm];exact hc)
 have hc2:c%b.fa.n<b.next.length:=Nat.mod_lt _ hb.pos
 refine loop_ex (σ:=Nat) (fun x=>2^a.lines.toNat-x) (fun x e' s'=>x≤2^a.lines.toNat∧(∀t:Nat,t<17∨20<t∧t<58→Env.get e' t=Env.get e t)∧Env.get e' 58=.int .i64 (x:Nat)∧(∀j,j<s.next→s'.get j=s.get j)∧s.next≤s'.next∧Fr s' ∧
   ∃rv lv,Env.get e' 17=rv∧Env.get e' 18=lv∧RowI s' s.next 3 1 x (nats (rowT a b T c x)) rv∧RowI s' s.next 4 1 x (bools (rowB a b f c x)) lv) 0 ?_
  ⟨Nat.zero_le _,fun _ _=>rfl,g58,fun _ _=>rfl,Nat.le_refl _,fr,.nils,.nils,g17,g18,RowI.nil _ _ _ _,RowI.nil _ _ _ _⟩
 rintro Lp x e' s' ⟨hx0,hold,q58,hs,hnx,fr',rv,lv,q17,q18,hr,hl⟩ IH
 have q2:=(hold 2 (by omega)).trans g2
 have q3:=(hold 3 (by omega)).trans g3
 have q4:=(hold 4 (by omega)).trans g4
 have q11:=(hold 11 (by omega)).trans g11
 have q16:=(hold 16 (by omega)).trans g16
 have q57:=(hold 57 (by omega)).trans g57
 obtain⟨l1,l2,l3,l4⟩:=hlt
 by_cases hd:x<2^a.lines.toNat
 ·have hw:=wrap_succ hd (by omega)
  have hpn:=pcell_nx hb hlb hc hd
  have n1:=ha.nxAt hc1 hd
  have n2:=hb.nxAt hc2 (by rw[←hlb];exact hd)
  have r1:=ixa_rowI (nl:=a.nNl) hc1
  have r2:=ixa_rowI (nl:=b.nNl) hc2
  have uA:=(hs _ l1).trans gA
  have uB:=(hs _ l2).trans gB
  have um:=(hs _ l3).trans gm
  have up:=(hs _ l4).trans gpt
  have up':=up
  unfold pcell at up'
  have hfk:=fr'.at
  have f1:∀q,(s'.next+q=A0)=False:=fun q=>by simp;omega
  have f2:∀q,(s'.next+q=B0)=False:=fun q=>by simp;omega
  have f4:∀q,(s'.next+q=pt)=False:=fun q=>by simp;omega
  simp (maxSteps:=2000000) +contextual only[go_sem,↓reduceIte,r111_l1,q3,q4,q16,q57,q58,uA,uB,up',nat_lt_dec,hd,r1,r2,n1,n2,f1,f2,f4,hfk,Nat.add_assoc]
  obtain⟨S,hS⟩:∃S,S=((s'.upto (s'.next+21)).put (s'.next+19) (.cells [.int .i64 0,.int .i64 0] 186 false 0 0)).put (s'.next+19) (.cells [.int .i64 ((a.fa.nx (c / b.fa.n) x:Nat):Int),.int .i64 ((b.fa.nx (c%b.fa.n) x:Nat):Int)] 186 false 0 0):=⟨_,rfl⟩
  rw[←hS]
  have hSn:S.next=s'.next+21:=by rw[hS];simp only[next_put,upto_next]
  have kS:∀j,j<s'.next→S.get j=s'.get j:=fun j h1=>by rw[hS,get_put,if_neg (by omega),get_put,if_neg (by omega),upto_get]
  have frS:Fr S:=by
   rw[hS]
   repeat first|exact fr'|apply Fr.new|apply Fr.put|apply Fr.upto
   all_goals try simp only[next_put,next_new,upto_next]
   all_goals omega
  have up2:S.get (s'.next+19)=some (.cells (pcell b.fa.n ((prodF a.fa b.fa).nx c x)) 186 false 0 0):=by rw[hS,get_put,if_pos rfl,hpn]
  have hr2:RowI S s.next 3 1 x (nats (rowT a b T c x)) rv:=hr.keepT (by omega) fun j c' h1 h2 h3=>by rw[kS j h2];exact h1
  have hl2:RowI S s.next 4 1 x (bools (rowB a b f c x)) lv:=hl.keepT (by omega) fun j c' h1 h2 h3=>by rw[kS j h2];exact h1
  have hne16:∀t:Nat,t<17∨20<t∧t<58→(19=t)=False∧(20=t)=False∧∀k:Nat,58≤k→(k=t)=False:=fun t ht=>⟨by simp;omega,by simp;omega,fun k hk=>by simp;omega⟩
  refine l111q (Post:=Post) ha hb hlb hfn (N:=s.next) (A0:=A0) (B0:=B0) (mp:=mp) (pt:=pt) (p2:=s'.next+19) (T:=T) hc hd (hT x hd) ?_ ?_ ?_ ?_ ?_ ?_ ?_ ?_ ?_ ((kS _ (by omega)).trans uA) ((kS _ (by omega)).trans uB) ((kS _ (by omega)).trans um) ((kS _ (by omega)).trans up) up2 (by omega) hr2 hl2 frS ?_
  case refine_10 =>
   intro e2 s2 rv2 lv2 h2a p17 p18 hr3 hl3 hs2 hn2 fr2
   have E2:∀t:Nat,t<17∨20<t∧t<58→Env.get e2 t=Env.get e t:=fun t ht=>by
    rw[h2a t (by omega)]
    obtain⟨n19,n20,hne⟩:=hne16 t ht
    simp +contextual only[go_sem,↓reduceIte,n19,n20,hne]
    exact hold t ht
   have p58:Env.get e2 58=.int .i64 (x:Nat):=by
    rw[h2a 58 (by omega)]
    simp +contextual only[go_sem,↓reduceIte,q58]
   simp (maxSteps:=2000000) +contextual only[go_sem,↓reduceIte,p58,hw]
   have nB:∀j,j<s.next→¬isB rv j∧¬isB lv j:=fun j hj=>⟨fun h=>by have:=(hr.isB_t h).1;omega,fun h=>by have:=(hl.isB_t h).1;omega⟩
   refine IH (x+1) _ _ (by omega) ⟨by omega,fun t ht=>?_,?_,fun j h1=>?_,by omega,fr2,rv2,lv2,?_,?_,?_,?_⟩
   ·obtain⟨n19,n20,hne⟩:=hne16 t ht
    simp +contextual only[go_sem,↓reduceIte,n19,n20,hne]
    exact E2 t ht
   ·simp +contextual only[go_sem,↓reduceIte]
   ·rw[hs2 j (by omega) (nB j h1).1 (nB j h1).2,kS j (by omega),hs j h1]
   ·simp +contextual only[go_sem,↓reduceIte,p17]
   ·simp +contextual only[go_sem,↓reduceIte,p18]
   ·rw[←rowT_succ];exact hr3
   ·rw[←rowB_succ];exact hl3
  all_goals simp +contextual only[go_sem,↓reduceIte,q2,q3,q4,q11,q16,q17,q18]
 ·have hxe:x=2^a.lines.toNat:=by omega
  subst hxe
  simp (maxSteps:=2000000) +contextual only[go_sem,↓reduceIte,r111_l1,q57,q58,nat_lt_dec,Nat.lt_irrefl]
  refine hk _ _ rv lv (fun t h1=>?_) (fun t h1 h2=>?_) ?_ ?_ hr hl hs hnx fr'
  ·have hne:∀k:Nat,58≤k→(k=t)=False:=fun k hk=>by simp;omega
   simp +contextual only[go_sem,↓reduceIte,hne]
   exact hold t (.inl h1)
  ·have hne:∀k:Nat,58≤k→(k=t)=False:=fun k hk=>by simp;omega
   simp +contextual only[go_sem,↓reduceIte,hne]
   exact hold t (.inr ⟨h1,by omega⟩)
  ·simp +contextual only[go_sem,↓reduceIte,q17]
  ·simp +contextual only[go_sem,↓reduceIte,q18]
theorem l111r {β:Type}{fin:Fl→β}{ks:List K}{Post:β→Prop}{i ob N:Nat}{ln:Int}{cN cF:List AV}{v w:AV}{jr jc m:Nat}(hi9:i≤2^20)
  {e:Env}{s:St}(g14:Env.get e 14=.ptr ob 0)(g17:Env.get e 17=.sl jr 0 m none 1)(g18:Env.get e 18=.sl jc 0 m none 1)(gout:s.get ob=some (.cells [.int .i64 ln,v,w] 69 false 0 0))(hob:ob<s.next)(hN:N≤s.next)(hv:RowI s N 40 1 i cN v)(hw:RowI s N 43 1 i cF w)(fr:Fr s)
  (hk:∀e' s' v' w',(∀t:Nat,t<110→Env.get e' t=Env.get e t)→s'.get ob=some (.cells [.int .i64 ln,v',w'] 69 false 0 0)→RowI s' N 40 1 (i+1) (cN++[.sl jr 0 m none 1]) v'→RowI s' N 43 1 (i+1) (cF++[.sl jc 0 m none 1]) w' →
   (∀j,j<s.next→j≠ob→¬isB v j→¬isB w j→s'.get j=s.get j)→s.next≤s'.next→Fr s'→Post (goN U fin ks e' s')) :
  Post (go U fin ks (.raw q111_1) e s):=by
 rw[go_drcU d111_1]
 have hfk:=fr.at
 have hnt:∀t:Nat,t<110→(∀k:Nat,110≤k→(k=t)=False):=fun t ht=>fun k hk=>by simp;omega
 have hN1:∀j q,j<s.next→(j=s.next+q)=False:=fun j q hj=>by simp;omega
 have hN2:∀j q,j<s.next→(s.next+q=j)=False:=fun j q hj=>by simp;omega
 have hN3:∀q,q≠0→(s.next+q=s.next)=False:=fun q hq=>by simp;omega
 have hN4:∀q,q≠0→(s.next=s.next+q)=False:=fun q hq=>by simp;omega
 have hb1:(i+1)*24≤1099511627776:=by omega
 have hb2:i+1≤1099511627776:=by omega
 have key:∀(E:Env) (S:St),(∀t:Nat,t<110→Env.get E t=Env.get e t) →
   S.get ob=some (.cells [.int .i64 ln,.sl (s.next+14) 0 (i+1) none 1,.sl (s.next+15) 0 (i+1) none 1] 69 false 0 0) →
   S.get (s.next+14)=some (.cells (cN++[.sl jr 0 m none 1]) 40 false 0 0)→S.get (s.next+15)=some (.cells (cF++[.sl jc 0 m none 1]) 43 false 0 0) →
   (∀j,j<s.next→j≠ob→¬isB v j→¬isB w j→S.get j=s.get j)→s.next+15<S.next→Fr S→cN.length=i→cF.length=i→Post (goN U fin ks E S):=by
  intro E S k1 k2 k3 k4 k6 k7 k8 k9 k10
  exact hk E S (.sl (s.next+14) 0 (i+1) none 1) (.sl (s.next+15) 0 (i+1) none 1) k1 k2 (.inr ⟨by omega,by simp[k9],s.next+14,by omega,by omega,rfl,k3⟩) (.inr ⟨by omega,by simp[k10],s.next+15,by omega,by omega,rfl,k4⟩) k6 (by omega) k8
 rcases hv with⟨i0,rfl,rfl⟩|⟨i0,hcN,bv,v1,v2,rfl,v4⟩
 ·rcases hw with⟨_,rfl,rfl⟩|⟨i1,_⟩
  ·subst i0
   simp (maxSteps:=2000000) +contextual only[go_sem,↓reduceIte,g14,g17,g18,gout,appD_nils,appK_some,Nat.mul_one,Nat.one_mul,Nat.reducePow,Nat.zero_add,Nat.add_assoc,hfk,hob,hN1,hN2,hN3,hN4,hb1,hb2]
   refine key _ _ (fun t ht=>?_) ?_ ?_ ?_ (fun j h1 h2 _ _=>?_) ?_ ?_ rfl rfl
   ·have hne:=hnt t ht
    simp +contextual only[go_sem,↓reduceIte,hne]
   ·simp +contextual only[go_sem,↓reduceIte,Nat.zero_add]
   ·simp +contextual [go_sem,↓reduceIte,hN1,hN2,hob,Nat.add_assoc]
   ·simp +contextual [go_sem,↓reduceIte,hN1,hN2,hob,Nat.add_assoc]
   ·have e0:∀q,(s.next+q=j)=False:=fun q=>by simp;omega
    simp +contextual only[get_put,get_new,next_put,next_new,upto_next,upto_get,Nat.add_assoc,Nat.reduceAdd,e0,eq_false h2.symm,if_false]
   ·simp only[next_put,next_new,upto_next];omega
   ·repeat first|exact fr|apply Fr.new|apply Fr.put|apply Fr.upto
    all_goals try simp only[next_put,next_new,upto_next]
    all_goals omega
  ·omega
 ·rcases hw with⟨i1,_⟩|⟨_,hcF,bw,w1,w2,rfl,w4⟩
  ·omega
  ·rw[Nat.mul_one] at hcN hcF
   have n1:=blk_ne v4 w4 (by decide)
   have n2:=blk_ne v4 gout (by decide)
   have n3:=blk_ne w4 gout (by decide)
   have y1:(bv=bw)=False:=eq_false n1
   have y2:(bv=ob)=False:=eq_false n2
   have y3:(bw=ob)=False:=eq_false n3
   have y8:(ob=bv)=False:=eq_false n2.symm
   have y9:(ob=bw)=False:=eq_false n3.symm
   have y10:(bw=bv)=False:=eq_false n1.symm
   have a1:=fun (S:St) (h:S.get bv=some (.cells cN 40 false 0 0))=>appX1 hcN h (.sl jr 0 m none 1) rfl
   have a2:=fun (S:St) (h:S.get bw=some (.cells cF 43 false 0 0))=>appX1 hcF h (.sl jc 0 m none 1) rfl
   simp (maxSteps:=2000000) +contextual only[go_sem,↓reduceIte,g14,g17,g18,gout,appK_some,Nat.mul_one,Nat.one_mul,Nat.reducePow,Nat.zero_add,Nat.add_assoc,hfk,hob,hN1,hN2,hN3,hN4,hb1,hb2,v2,v4,w2,w4,y1,y2,y3,y8,y9,y10,a1,a2]
   refine key _ _ (fun t ht=>?_) ?_ ?_ ?_ (fun j h1 h2 h3 h4=>?_) ?_ ?_ hcN hcF
   ·have hne:=hnt t ht
    simp +contextual only[go_sem,↓reduceIte,hne]
   ·simp +contextual only[go_sem,↓reduceIte]
   ·simp +contextual [go_sem,↓reduceIte,hN1,hN2,hob,v2,w2,Nat.add_assoc]
   ·simp +contextual [go_sem,↓reduceIte,hN1,hN2,hob,v2,w2,Nat.add_assoc]
   ·have e0:∀q,(s.next+q=j)=False:=fun q=>by simp;omega
    rw[isB_sl] at h3 h4
    simp +contextual only[get_put,get_new,next_put,next_new,upto_next,upto_get,Nat.add_assoc,Nat.reduceAdd,e0,eq_false h2.symm,eq_false h3,eq_false h4,if_false]
   ·simp only[next_put,next_new,upto_next];omega
   ·repeat first|exact fr|apply Fr.new|apply Fr.put|apply Fr.upto
    all_goals try simp only[next_put,next_new,upto_next]
    all_goals omega
theorem l111c {a b:Auto}(ha:a.ok)(hb:b.ok)(hlb:a.lines=b.lines){f:Bool→Bool→Bool}{fn:AV}(hfn:∀(p q:Bool) (s:St),calv U fn [.bool p,.bool q] s=some (.bool (f p q),s)){A0 B0 mp ob N:Nat}{T:List Nat}{pv:AV}{β:Type}{fin:Fl→β}{ks:List K}{Post:β→Prop}
  (hTl:T.length≤65536)(hTn:∀c∈T,c<(prodF a.fa b.fa).n)(hT:∀c∈T,∀x,x<2^a.lines.toNat→(prodF a.fa b.fa).nx c x∈T)
  {e:Env}{s:St}(g2:Env.get e 2=fn)(g3:Env.get e 3=.ptr A0 0)(g4:Env.get e 4=.ptr B0 0)(g11:Env.get e 11=.map mp)(g14:Env.get e 14=.ptr ob 0)(g49:Env.get e 49=pv)(g50:Env.get e 50=.int .i64 T.length)(g51:Env.get e 51=.int .i64 (0:Nat))
  (gA:s.get A0=some (.cells [.int .i64 a.lines,encS a.nNl (a.next.map encRow),encS a.fNl (a.fires.map encFRow)] 69 false 0 0))(gB:s.get B0=some (.cells [.int .i64 b.lines,encS b.nNl (b.next.map encRow),encS b.fNl (b.fires.map encFRow)] 69 false 0 0))(gm:s.get mp=some (.map (entP b.fa.n (fun i=>.int .i64 (i:Int)) T 0) false))(gout:s.get ob=some (.cells [.int .i64 a.lines,.nils,.nils] 69 false 0 0))
  (hp:PrI s N 186 T.length (pcs b.fa.n T) pv)(hlt:A0<s.next∧B0<s.next∧mp<s.next∧ob<s.next∧13≤s.next)(hne:A0≠ob∧B0≠ob)(fr:Fr s)
  (hk:∀e' s' v w,(∀t:Nat,t<12∨t=14→Env.get e' t=Env.get e t)→s'.get ob=some (.cells [.int .i64 a.lines,v,w] 69 false 0 0)→noAgg v=true→noAgg w=true→(0<T.length→∃b n,v=.sl b 0 n none 1) →
   (∀d,frz U s' (d+3) v=some (encS true (T.map fun c=>AV.fz (nats (rowT a b T c (2^a.lines.toNat))))))→(∀d,frz U s' (d+3) w=some (encS true (T.map fun c=>AV.fz (bools (rowB a b f c (2^a.lines.toNat)))))) →
   (∀j,j<s.next→j≠ob→s'.get j=s.get j)→s.next≤s'.next→Fr s'→Post (goN U fin ks e' s')) :
  Post (goL U fin (.bk 2::ks) r111_l2 e s):=by
 have hm16:=ha.m16
 have hmp:0<2^a.lines.toNat:=Nat.two_pow_pos _
 have hsh:=bin_shl1 U 3 true .i64 (n:=a.lines) (by have:=ha.lines;omega)
 have hpw:((2:Int)^a.lines.toNat)=((2^a.lines.toNat:Nat):Int):=by simp
 rw[hpw] at hsh
 obtain⟨bp,cap,hpv,hp2,hp3,hp4,hp5,hp6⟩:=hp
 rw[hpv] at g49
 have hbo:bp≠ob:=blk_ne hp3 gout (by decide)
 have hmo:mp≠ob:=by rintro rfl;rw[gm] at gout;cases gout
 obtain⟨l1,l2,l3,l4,l13⟩:=hlt
 refine loop_ex (σ:=Nat) (fun i=>T.length-i) (fun i e' s'=>i≤T.length∧(∀t:Nat,t<12∨t=14∨t=49∨t=50→Env.get e' t=Env.get e t)∧Env.get e' 51=.int .i64 (i:Nat)∧(∀j,j<s.next→j≠ob→s'.get j=s.get j)∧s.next≤s'.next∧Fr s' ∧
   ∃(v w:AV) (cN cF:List AV),s'.get ob=some (.cells [.int .i64 a.lines,v,w] 69 false 0 0)∧RowI s' s.next 40 1 i cN v∧RowI s' s.next 43 1 i cF w∧cN.length=i∧cF.length=i ∧
    (∀j (h:j<T.length) (h':j<cN.length),BlkJ s' ob 3 cN[j] (nats (rowT a b T T[j] (2^a.lines.toNat))))∧(∀j (h:j<T.length) (h':j<cF.length),BlkJ s' ob 4 cF[j] (bools (rowB a b f T[j] (2^a.lines.toNat))))) 0 ?_
  ⟨Nat.zero_le _,fun _ _=>rfl,g51,fun _ _ _=>rfl,Nat.le_refl _,fr,.nils,.nils,[],[],gout,RowI.nil _ _ _ _,RowI.nil _ _ _ _,rfl,rfl,fun j _ h=>by simp at h,fun j _ h=>by simp at h⟩
 rintro Lp i e' s' ⟨hi,hold,q51,hs,hnx,fr',v,w,cN,cF,qout,hv,hw,hcN,hcF,hBN,hBF⟩ IH
 have q2:=(hold 2 (by omega)).trans g2
 have q3:=(hold 3 (by omega)).trans g3
 have q4:=(hold 4 (by omega)).trans g4
 have q11:=(hold 11 (by omega)).trans g11
 have q14:=(hold 14 (by omega)).trans g14
 have q49:=(hold 49 (by omega)).trans g49
 have q50:=(hold 50 (by omega)).trans g50
 by_cases hd:i<T.length
 ·have hwr:=wrap_succ hd (by omega)
  have gr:=pcs_grab b.fa.n T i hd
  have hcT:=List.getElem_mem hd
  have hcn:=hTn _ hcT
  have hcl:=hT _ hcT
  have uA:=(hs _ l1 hne.1).trans gA
  have uB:=(hs _ l2 hne.2).trans gB
  have um:=(hs _ l3 hmo).trans gm
  have ub:=(hs _ hp6 hbo).trans hp3
  generalize hcd:T[i]=c at *
  have gr':=gr
  unfold pcell at gr'
  have f1:(s'.next=A0)=False:=by simp;omega
  simp (maxSteps:=2000000) +contextual only[go_sem,↓reduceIte,r111_l2,q3,q49,q50,q51,nat_lt_dec,hd,ub,gr',grabK_some,uA,hsh,f1,Nat.zero_add]
  obtain⟨S,hS⟩:∃S,S=(s'.new (.cells [.int .i64 0,.int .i64 0] 186 false 0 0)).put s'.next (.cells [.int .i64 ((c / b.fa.n:Nat):Int),.int .i64 ((c%b.fa.n:Nat):Int)] 186 false 0 0):=⟨_,rfl⟩
  rw[←hS]
  have hSn:S.next=s'.next+1:=by rw[hS,next_put,next_new]
  have kS:∀j,j<s'.next→S.get j=s'.get j:=fun j h1=>by rw[hS,get_put,if_neg (by omega),get_new,if_neg (by omega)]
  have hpt:S.get s'.next=some (.cells (pcell b.fa.n c) 186 false 0 0):=by rw[hS,get_put,if_pos rfl];rfl
  have frS:Fr S:=by rw[hS];exact (fr'.new _).put (by rw[next_new];omega) _
  refine l111b (Post:=Post) ha hb hlb hfn (A0:=A0) (B0:=B0) (mp:=mp) (pt:=s'.next) (T:=T) (c:=c) hcn hcl ?_ ?_ ?_ ?_ ?_ ?_ ?_ ?_ ?_ ((kS _ (by omega)).trans uA) ((kS _ (by omega)).trans uB) ((kS _ (by omega)).trans um) hpt (by omega) frS ?_
  case refine_10 =>
   intro e2 s2 rv lv h2a h2b p17 p18 hr hl hs2 hn2 fr2
   obtain⟨jr,rfl,hjr,jr1,jr2⟩:∃jr,rv=.sl jr 0 (2^a.lines.toNat) none 1∧s2.get jr=some (.cells (nats (rowT a b T c (2^a.lines.toNat))) 3 false 0 0)∧S.next≤jr∧jr<s2.next:=by
    rcases hr with⟨h,_⟩|⟨_,_,j,h1,h2,h3,h4⟩
    ·omega
    ·exact⟨j,h3,h4,h1,h2⟩
   obtain⟨jc,rfl,hjc,jc1,jc2⟩:∃jc,lv=.sl jc 0 (2^a.lines.toNat) none 1∧s2.get jc=some (.cells (bools (rowB a b f c (2^a.lines.toNat))) 4 false 0 0)∧S.next≤jc∧jc<s2.next:=by
    rcases hl with⟨h,_⟩|⟨_,_,j,h1,h2,h3,h4⟩
    ·omega
    ·exact⟨j,h3,h4,h1,h2⟩
   have E2:∀t:Nat,t<12∨t=14∨t=49∨t=50∨t=51→Env.get e2 t=Env.get e' t:=fun t ht=>by
    have hne52:∀k:Nat,52≤k→(k=t)=False:=fun k hk=>by simp;omega
    have h16:(16=t)=False:=by simp;omega
    have h17:(17=t)=False:=by simp;omega
    have h18:(18=t)=False:=by simp;omega
    rcases (by omega:t<17∨20<t∧t<57) with h|h
    ·rw[h2a t h]
     simp +contextual only[go_sem,↓reduceIte,hne52,h16,h17,h18]
    ·rw[h2b t h.1 h.2]
     simp +contextual only[go_sem,↓reduceIte,hne52,h16,h17,h18]
   have k2:∀j,j<s'.next→s2.get j=s'.get j:=fun j h1=>by rw[hs2 j (by omega),kS j h1]
   have hv2:RowI s2 s.next 40 1 i cN v:=hv.keepT (by omega) fun j c' h1 h2 h3=>by rw[k2 j h2];exact h1
   have hw2:RowI s2 s.next 43 1 i cF w:=hw.keepT (by omega) fun j c' h1 h2 h3=>by rw[k2 j h2];exact h1
   have p14:=(E2 14 (by omega)).trans q14
   have uo:=(k2 ob (by omega)).trans qout
   simp (maxSteps:=2000000) +contextual only[go_sem,↓reduceIte]
   refine l111r (Post:=Post) (i:=i) (ob:=ob) (N:=s.next) (by omega) p14 p17 p18 uo (by omega) (by omega) hv2 hw2 fr2 ?_
   intro e3 s3 v' w' h3a uo3 hv3 hw3 hs3 hn3 fr3
   have E3:∀t:Nat,t<12∨t=14∨t=49∨t=50∨t=51→Env.get e3 t=Env.get e' t:=fun t ht=>(h3a t (by omega)).trans (E2 t ht)
   have p51:=(E3 51 (by omega)).trans q51
   simp (maxSteps:=2000000) +contextual only[go_sem,↓reduceIte,p51,hwr]
   have nv:∀j c t,s2.get j=some (.cells c t false 0 0)→t≠40→¬isB v j:=fun j c t h1 h2 h3=>blk_ne h1 (hv2.isB_t h3).2.2 h2 rfl
   have nw:∀j c t,s2.get j=some (.cells c t false 0 0)→t≠43→¬isB w j:=fun j c t h1 h2 h3=>blk_ne h1 (hw2.isB_t h3).2.2 h2 rfl
   have pr:∀j c t,j<s2.next→j≠ob→s2.get j=some (.cells c t false 0 0)→t≠40→t≠43→s3.get j=some (.cells c t false 0 0):=fun j c t h1 h2 h3 h4 h5=>by
    rw[hs3 j h1 h2 (nv j c t h3 h4) (nw j c t h3 h5)];exact h3
   have bj3:∀c l,BlkJ s2 ob 3 c l→BlkJ s3 ob 3 c l:=fun c l h=>h.mono hn3 fun k h1 h2 h3 h4=>⟨h2,pr k _ _ h1 h2 h4 (by decide) (by decide)⟩
   have bj4:∀c l,BlkJ s2 ob 4 c l→BlkJ s3 ob 4 c l:=fun c l h=>h.mono hn3 fun k h1 h2 h3 h4=>⟨h2,pr k _ _ h1 h2 h4 (by decide) (by decide)⟩
   have bm3:∀c l t,BlkJ s' ob t c l→BlkJ s2 ob t c l:=fun c l t h=>h.mono (by omega) fun k h1 h2 h3 h4=>⟨h2,by rw[k2 k h1];exact h4⟩
   refine IH (i+1) _ _ (by omega) ⟨by omega,fun t ht=>?_,?_,fun j h1 h2=>?_,by omega,fr3,v',w',cN++[.sl jr 0 (2^a.lines.toNat) none 1],cF++[.sl jc 0 (2^a.lines.toNat) none 1],uo3,hv3,hw3,by simp[hcN],by simp[hcF],fun j h h'=>?_,fun j h h'=>?_⟩
   ·have hne52:∀k:Nat,51≤k→(k=t)=False:=fun k hk=>by simp;omega
    simp +contextual only[go_sem,↓reduceIte,hne52]
    exact (E3 t (by omega)).trans (hold t ht)
   ·simp +contextual only[go_sem,↓reduceIte]
   ·rw[hs3 j (by omega) h2 (fun h=>by have:=(hv2.isB_t h).1;omega) fun h=>by have:=(hw2.isB_t h).1;omega,k2 j (by omega),hs j h1 h2]
   ·by_cases hj:j<cN.length
    ·rw[List.getElem_append_left hj]
     exact bj3 _ _ (bm3 _ _ _ (hBN j h hj))
    ·have hj:j=cN.length:=by rw[List.length_append,List.length_singleton] at h';omega
     subst hj
     rw[List.getElem_append_right (by omega)]
     simp only[List.getElem_singleton]
     have e1:T[cN.length]=c:=by rw[←hcd];congr
     rw[e1]
     exact bj3 _ _ ⟨jr,none,by simp[nats_len,rowT],jr2,by omega,by omega,hjr⟩
   ·by_cases hj:j<cF.length
    ·rw[List.getElem_append_left hj]
     exact bj4 _ _ (bm3 _ _ _ (hBF j h hj))
    ·have hj:j=cF.length:=by rw[List.length_append,List.length_singleton] at h';omega
     subst hj
     rw[List.getElem_append_right (by omega)]
     simp only[List.getElem_singleton]
     have e1:T[cF.length]=c:=by rw[←hcd];congr
     rw[e1]
     exact bj4 _ _ ⟨jc,none,by simp[bools_len,rowB],jc2,by omega,by omega,hjc⟩
  all_goals simp +contextual only[go_sem,↓reduceIte,q2,q3,q4,q11]
  all_goals rfl
 ·have hie:i=T.length:=by omega
  have hle:decide ((i:Int)<(T.length:Int))=false:=by rw[nat_lt_dec];simp;omega
  simp (maxSteps:=2000000) +contextual only[go_sem,↓reduceIte,r111_l2,q50,q51,hle]
  refine hk _ _ v w (fun t ht=>?_) qout hv.noAgg hw.noAgg (fun h=>?_) (fun d=>?_) (fun d=>?_) hs hnx fr'
  ·have hne52:∀k:Nat,52≤k→(k=t)=False:=fun k hk=>by simp;omega
   simp +contextual only[go_sem,↓reduceIte,hne52]
   exact hold t (by omega)
  ·rcases hv with⟨h0,_⟩|⟨_,_,b,_,_,h3,_⟩
   ·omega
   ·exact⟨b,i,h3⟩
  ·have k1:RowI s' s.next 40 1 cN.length cN v:=by rw[hcN];exact hv
   have hna:cN.all noAgg=true:=by
    rw[List.all_eq_true]
    intro x hx
    obtain⟨j,hj,rfl⟩:=List.mem_iff_getElem.1 hx
    obtain⟨_,_,e,_⟩:=hBN j (by omega) hj
    rw[e];rfl
   exact k1.frz_one U ag_40 sz_40 hna (d:=d+2) (mapO_idx (by omega) fun j h h'=>(hBN j h' h).frz ag_3 sz_3 (noAgg_ints _) (frz_ints _ _ _))
  ·have k2:RowI s' s.next 43 1 cF.length cF w:=by rw[hcF];exact hw
   have hna:cF.all noAgg=true:=by
    rw[List.all_eq_true]
    intro x hx
    obtain⟨j,hj,rfl⟩:=List.mem_iff_getElem.1 hx
    obtain⟨_,_,e,_⟩:=hBF j (by omega) hj
    rw[e];rfl
   exact k2.frz_one U ag_43 sz_43 hna (d:=d+2) (mapO_idx (by omega) fun j h h'=>(hBF j h' h).frz ag_4 sz_4 (noAgg_bools _) (frz_bools _ _ _))
theorem frzN_slR {s:St}{b d n:Nat}{cap:Option Nat}{t:TypeId}{l r:List AV}(hn:n=l.length)(hg:s.get b=some (.cells l t false 0 0))(hag:isAggT U t=some false)(hsz:size U t=some 1)(hna:l.all noAgg=true)(hf:mapO (frzN U s d) l=some r) :
  frzN U s (d+1) (.sl b 0 n cap 1)=some (.fz r):=by
 subst hn
 simp only[frzN,hg,Nat.mul_one,grab_all,hag,hsz]
 rw[if_pos ⟨trivial,by omega,fun _=>⟨trivial,hna⟩⟩,chunks_all,hf]
theorem frzN_intsV (s:St)(d:Nat)(l:List Int):mapO (frzN U s (d+1)) (ints l)=some (ints l):=mapO_self fun x hx=>by
 obtain⟨b,_,rfl⟩:=List.mem_map.1 hx;rfl
theorem frzN_boolsV (s:St)(d:Nat)(l:List Bool):mapO (frzN U s (d+1)) (bools l)=some (bools l):=mapO_self fun x hx=>by
 obtain⟨b,_,rfl⟩:=List.mem_map.1 hx;rfl
theorem BlkJ.frzN {s:St}{b d:Nat}{c:AV}{l:List AV}{t:TypeId}(h:BlkJ s b t c l)(hag:isAggT U t=some false)(hsz:size U t=some 1)(hna:l.all noAgg=true)(hf:mapO (Go.Am.frzN U s d) l=some l):Go.Am.frzN U s (d+1) c=some (.fz l):=by
 obtain⟨j,cap,rfl,_,_,_,h5⟩:=h
 exact frzN_slR rfl h5 hag hsz hna hf
theorem RowI.frzN_one {s:St}{B:Nat}{t:TypeId}{l:List AV}{v:AV}(h:RowI s B t 1 l.length l v)(hag:isAggT U t=some false)(hsz:size U t=some 1)(hna:l.all Go.Am.noAgg=true)
  {d:Nat}{r:List AV}(hf:mapO (Go.Am.frzN U s d) l=some r):Go.Am.frzN U s (d+1) v=some (encS true r):=by
 rcases h with⟨h0,rfl,_⟩|⟨h0,h1,b,_,_,rfl,hg⟩
 ·have:l=[]:=List.length_eq_zero_iff.1 h0
  subst this
  cases hf
  rfl
 ·rw[frzN_slR rfl hg hag hsz hna hf]
  cases r with
  |nil =>
   cases l with
   |nil=>simp at h0
   |cons x l =>
    rw[mapO] at hf
    cases h1:Go.Am.frzN U s d x with
    |none=>rw[h1] at hf;cases hf
    |some y =>
     rw[h1] at hf
     cases h2:mapO (Go.Am.frzN U s d) l with
     |none=>rw[h2] at hf;cases hf
     |some z=>rw[h2] at hf;cases hf
  |cons x r=>rfl
theorem MinRows.frzN {s:St}{b:Nat}{a:Auto}{cN cF:List AV}{v w:AV}(h:MinRows s b a cN cF v w)(d:Nat):Go.Am.frzN U s (d+3) v=some (encS true ((minP a.fa (kapS a)).map fun x=>AV.fz (nats x.2)))∧Go.Am.frzN U s (d+3) w=some (encS true ((minP a.fa (kapS a)).map fun x=>AV.fz (bools (frow a.fa x.1)))) :=
 ⟨h.v.frzN_one ag_40 sz_40 h.na.1 (d:=d+2) (mapO_idx h.ln fun j h1 h'=>(h.bn j h' h1).frzN ag_3 sz_3 (noAgg_ints _) (frzN_intsV _ _ _)),h.w.frzN_one ag_43 sz_43 h.na.2 (d:=d+2) (mapO_idx h.lf fun j h1 h'=>(h.bf j h' h1).frzN ag_4 sz_4 (noAgg_bools _) (frzN_boolsV _ _ _))⟩
theorem frzN_agg3 {s:St}{d:Nat}{a b c a' b' c':AV}(h1:frzN U s d a=some a')(h2:frzN U s d b=some b')(h3:frzN U s d c=some c'):frzN U s (d+1) (.agg [a,b,c])=some (.agg [a',b',c']):=by
 have e:mapO (frzN U s d) [a,b,c]=some [a',b',c']:=by
  rw[mapO,h1,mapO,h2,mapO,h3,mapO]
 rw[frzN,e]
theorem encA_minAutR (a:Auto):encA (minAutR a)=.agg [.int .i64 a.lines,encS true ((minR a.fa).map fun x=>AV.fz (nats x.2)),encS true ((minR a.fa).map fun x=>AV.fz (bools (frow a.fa x.1)))]:=by
 rw[encA_eq,encN,encFs,minAutR]
 simp only[List.map_map]
 have e1:∀x:Nat×List Nat,(encRow∘fun x:Nat×List Nat=>(false,nIs x.2)) x=AV.fz (nats x.2):=fun x=>by simp only[Function.comp,encRow,encS_fz];rfl
 have e2:∀x:Nat×List Nat,(encFRow∘fun x:Nat×List Nat=>(false,frow a.fa x.1)) x=AV.fz (bools (frow a.fa x.1)):=fun x=>by simp only[Function.comp,encFRow,encS_fz]
 rw[List.map_congr_left (fun x _=>e1 x),List.map_congr_left (fun x _=>e2 x)]
theorem g104 {a:Auto}(ha:a.ok):∃v w s' b cN cF,go U (finB U [.cell 2 69]) [] r104 (bindArgs 0 [encA a] .nil) (ownSt U)=some (.agg [.int .i64 a.lines,v,w],s')∧MinRows s' b a cN cF v w∧0<cN.length:=by
 have h172:=c172 ha
 rw[encA_eq] at h172 ⊢
 have nn:=noAgg_encS a.nNl (a.next.map encRow)
 have nf:=noAgg_encS a.fNl (a.fires.map encFRow)
 have cn:=cells_encS a.nNl (a.next.map encRow)
 have cf:=cells_encS a.fNl (a.fires.map encFRow)
 have hA:=ha.faok
 have o1:=ixa_natsF (l:=setsA a) (i:=0) (by rw[setsA_len ha];exact ha.pos)
 have o1:ixRA 1 (.fz (nats (setsA a))) (.int .i64 0)=some (.fp [.int .i64 ((kapS a 0:Nat):Int)] 0):=o1
 have up:=fun (S:St) (h:S.get 10=some (.map [] false))=>update249 (m:=10) (ks:=[]) h (k:=kapS a 0) (by simp)
 have up:∀S:St,S.get 10=some (.map [] false)→updateA U 249 (.map 10) (.int .i64 ((kapS a 0:Nat):Int)) (.int .i64 0) S=some (S.put 10 (.map (entN [kapS a 0] 0) false)):=up
 unfold encN encFs at h172 ⊢
 simp (maxSteps:=2000000) +contextual only[go_sem,↓reduceIte,r104,nn,nf,cn,cf,h172,o1,up]
 refine l104b (Post:=fun (o:Option (AV×St))=>∃v w s' b cN cF,o=some (.agg [.int .i64 a.lines,v,w],s')∧MinRows s' b a cN cF v w∧0<cN.length) ha ?_ ?_ ?_ ?_ ?_ ?_ ?_ ?_ ?_ ?_ ?_ ?_ ?_ ?_ ?_
 case refine_15 =>
  intro e' s' v w b cN cF p6 p2 u12 u9 MR
  have nav:=MR.v.noAgg
  have naw:=MR.w.noAgg
  have cv:=MR.v.cells
  have cw:=MR.w.cells
  have MK:=fun x=>MR.keep (S:=s'.put 9 x) (by rw[next_put]) fun j hj=>by rw[get_put,if_neg (fun e=>hj e.symm)]
  have hpos:0<cN.length:=by
   rw[MR.ln,minP,bfsN]
   simp
  simp (maxSteps:=2000000) +contextual only[go_sem,↓reduceIte,p6,p2,u12,u9,nav,naw,cv,cw]
  exact⟨v,w,_,b,cN,cF,rfl,MK _,hpos⟩
 case refine_14 =>
  repeat first|exact Fr.own|apply Fr.new|apply Fr.put|apply Fr.upto
  all_goals simp +contextual only[go_sem,↓reduceIte]
 all_goals simp +contextual only[go_sem,↓reduceIte]
 all_goals rfl
theorem cz104 {a:Auto}(ha:a.ok)(s:St):calZ U 104 (some [encA a]) s=some (encA (minAutR a),s):=by
 refine calZ_some U s ?_
 obtain⟨v,w,s',b,cN,cF,h1,MR,hpos⟩:=g104 ha
 obtain⟨fn,c,f1,f2,f3,f4⟩:=fnRC_some k104
 have hB:=callB_go U f1 f2 f3 f4 h1
 unfold callQ
 rw[hB]
 have hfl:flat (.agg [.int .i64 a.lines,v,w])=false:=by
  rcases MR.v with⟨h0,_⟩|⟨_,_,j,_,_,h3,_⟩
  ·omega
  ·rw[h3];rfl
 obtain⟨m1,m2⟩:=minP_R ha
 obtain⟨f1,f2⟩:=MR.frzN 36
 rw[m1] at f1
 rw[m2] at f2
 have e0:frzN U s' 39 (.int .i64 a.lines)=some (.int .i64 a.lines):=rfl
 have e3:=frzN_agg3 e0 f1 f2
 rw[encA_minAutR]
 have hd:frzDepth=39+1:=rfl
 simp only[Bool.false_eq_true,if_false,hfl]
 rw[hd]
 exact e3
theorem z104 {args:List AV}{s:St}(h:stills args=false):callK U (calV U 104 args) 104 args s=calZ U 104 (mapO (frz U s 40) args) s:=z_of (by kernel_rfl) s h
theorem encA_prodA (a b:Auto)(f:Bool→Bool→Bool):encA (prodA a b f)=.agg [.int .i64 a.lines,encS true ((prodT a b).map fun c=>AV.fz (nats (rowT a b (prodT a b) c (2^a.lines.toNat)))),encS true ((prodT a b).map fun c=>AV.fz (bools (rowB a b f c (2^a.lines.toNat))))]:=by
 rw[encA_eq,encN,encFs,prodA]
 simp only[List.map_map]
 have e1:∀c:Nat,(encRow∘fun c:Nat=>(false,nIs (prodRow a b c))) c=AV.fz (nats (rowT a b (prodT a b) c (2^a.lines.toNat))):=fun x=>by simp only[Function.comp,encRow,encS_fz];rfl
 have e2:∀c:Nat,(encFRow∘fun c:Nat=>(false,prodFr a b f c)) c=AV.fz (bools (rowB a b f c (2^a.lines.toNat))):=fun x=>by simp only[Function.comp,encFRow,encS_fz];rfl
 rw[List.map_congr_left (fun x _=>e1 x),List.map_congr_left (fun x _=>e2 x)]
theorem minA_few {a:Auto}(h:a.next.length≤255):(minAutR a).next.length≤256:=by
 have:=(minR_len a.fa).1
 have hn:a.fa.n=a.next.length:=rfl
 simp only[minAutR,List.length_map]
 omega
theorem g111 {a b:Auto}(ha:a.ok)(hb:b.ok)(hlb:a.lines=b.lines)(hn:a.fa.n*b.fa.n≤255){f:Bool→Bool→Bool}{fn:AV}(hfn:∀(p q:Bool) (s:St),calv U fn [.bool p,.bool q] s=some (.bool (f p q),s))
  {e:Env}{s:St}(g2:Env.get e 2=fn)(g3:Env.get e 3=.ptr 8 0)(g4:Env.get e 4=.ptr 9 0)(g6:Env.get e 6=.ptr 10 0)
  (gA:s.get 8=some (.cells [.int .i64 a.lines,encS a.nNl (a.next.map encRow),encS a.fNl (a.fires.map encFRow)] 69 false 0 0))(gB:s.get 9=some (.cells [.int .i64 b.lines,encS b.nNl (b.next.map encRow),encS b.fNl (b.fires.map encFRow)] 69 false 0 0))(gC:s.get 10=some (.cells [.int .i64 0,.nils,.nils] 69 false 0 0))(hnx:s.next=11)(fr:Fr s) :
  go U (finP U [.cell 6 69,.tmp 7]) [] r111_t e s=some (.tup [encA (minAutR (prodA a b f)),.int .i64 0]):=by
 have hP:=prodA_ok ha hb hlb (by omega) f
 have hI:=prodI ha hb hlb
 have hIl:=hI.len
 have hT:codes (visAll (prodF a.fa b.fa) fun _ _=>true).1=prodT a b:=rfl
 obtain⟨pv,ev,s1,g',h114,VR⟩:=c114 ha hb hlb (s:=s) (yld177 b.fa.n s.next) (fun _ _ _ _=>trivial) (g:=()) trivial fr
 have hTl:(visAll (prodF a.fa b.fa) fun _ _=>true).1.length=(prodT a b).length:=by rw[←hT,codes_len]
 have hp:=VR.pairs
 rw[hTl,hT] at hp
 have hpl:=hp.lenA
 obtain⟨bp,cap,hpv,hp2,hp3,hp4,hp5,hp6⟩:=hp
 have hs1:=VR.same
 have hn1:=VR.next
 have fr1:=VR.fr
 have u8:=(hs1 8 (by omega) (fun h=>h)).trans gA
 have u9:=(hs1 9 (by omega) (fun h=>h)).trans gB
 have u10:=(hs1 10 (by omega) (fun h=>h)).trans gC
 have hlen:lenRL pv=some (.int .i64 ((prodT a b).length:Nat)):=by rw[hpv];rfl
 rw[encA_eq a,encA_eq b] at h114
 unfold encN encFs at h114
 simp (maxSteps:=2000000) +contextual only[go_sem,↓reduceIte,r111_t,g2,g3,g4,g6,gA,gB,k114',h114,hlen]
 have frM:Fr (s1.new (.map [] false)):=fr1.new _
 have kM:∀j,j<s1.next→(s1.new (.map [] false)).get j=s1.get j:=fun j h1=>by rw[get_new,if_neg (by omega)]
 refine l111a (Post:=fun (o:Option AV)=>o=some (.tup [encA (minAutR (prodA a b f)),.int .i64 0])) (k:=b.fa.n) (N:=s.next) (mp:=s1.next) (L:=prodT a b) (pv:=pv) hI.nd (by omega) ?_ ?_ ?_ ?_ ⟨bp,cap,hpv,hp2,by rw[kM bp hp6];exact hp3,hp4,hp5,by rw[next_new];omega⟩ (by rw[get_new,if_pos rfl]) (by rw[next_new];omega) frM ?_
 case refine_5 =>
  intro e2 s2 h2a um hs2 hn2 fr2
  rw[next_new] at hs2 hn2
  have E2:∀t:Nat,t<9→Env.get e2 t=Env.get e t:=fun t ht=>by
   rw[h2a t (by omega)]
   have hne:∀k:Nat,9≤k→(k=t)=False:=fun k hk=>by simp;omega
   simp +contextual only[go_sem,↓reduceIte,hne]
  have p2:=(E2 2 (by omega)).trans g2
  have p3:=(E2 3 (by omega)).trans g3
  have p4:=(E2 4 (by omega)).trans g4
  have p6:=(E2 6 (by omega)).trans g6
  have p9:Env.get e2 9=pv:=by rw[h2a 9 (by omega)];simp +contextual only[go_sem,↓reduceIte]
  have p11:Env.get e2 11=.map s1.next:=by rw[h2a 11 (by omega)];simp +contextual only[go_sem,↓reduceIte]
  have k2:∀j,j<s1.next→s2.get j=s1.get j:=fun j h1=>by rw[hs2 j (by omega) (by omega),kM j h1]
  have v8:=(k2 8 (by omega)).trans u8
  have v9:=(k2 9 (by omega)).trans u9
  have v10:=(k2 10 (by omega)).trans u10
  have f1:(s2.next=8)=False:=by simp;omega
  simp (maxSteps:=2000000) +contextual only[go_sem,↓reduceIte,p3,p9,v8,hlen,f1]
  obtain⟨S,hS⟩:∃S,S=(s2.new (.cells [.int .i64 0,.nils,.nils] 69 false 0 0)).put s2.next (.cells [.int .i64 a.lines,.nils,.nils] 69 false 0 0):=⟨_,rfl⟩
  rw[←hS]
  have hSn:S.next=s2.next+1:=by rw[hS,next_put,next_new]
  have kS:∀j,j<s2.next→S.get j=s2.get j:=fun j h1=>by rw[hS,get_put,if_neg (by omega),get_new,if_neg (by omega)]
  have hob:S.get s2.next=some (.cells [.int .i64 a.lines,.nils,.nils] 69 false 0 0):=by rw[hS,get_put,if_pos rfl]
  have frS:Fr S:=by rw[hS];exact (fr2.new _).put (by rw[next_new];omega) _
  refine l111c (Post:=fun (o:Option AV)=>o=some (.tup [encA (minAutR (prodA a b f)),.int .i64 0])) ha hb hlb hfn (A0:=8) (B0:=9) (mp:=s1.next) (ob:=s2.next) (N:=s.next) (T:=prodT a b) (pv:=pv) (by omega) hI.lt hI.cl ?_ ?_ ?_ ?_ ?_ ?_ ?_ ?_ ((kS 8 (by omega)).trans v8) ((kS 9 (by omega)).trans v9) ((kS _ (by omega)).trans um) hob ⟨bp,cap,hpv,hp2,by rw[kS bp (by omega),k2 bp hp6];exact hp3,hp4,hp5,by omega⟩ (by omega) (by omega) frS ?_
  case refine_9 =>
   intro e3 s3 v w h3a uo nav naw hsl fv fw hs3 hn3 fr3
   have p36:Env.get e3 6=.ptr 10 0:=by rw[h3a 6 (by omega)];simp +contextual only[go_sem,↓reduceIte,p6]
   have p314:Env.get e3 14=.ptr s2.next 0:=by rw[h3a 14 (by omega)];simp +contextual only[go_sem,↓reduceIte]
   have w10:s3.get 10=some (.cells [.int .i64 0,.nils,.nils] 69 false 0 0):=(hs3 10 (by omega) (by omega)).trans ((kS 10 (by omega)).trans v10)
   have hst:stills [AV.agg [AV.int .i64 a.lines,v,w]]=false:=by
    obtain⟨b',n',rfl⟩:=hsl hI.pos
    rfl
   have fv':=fv 36
   have fw':=fw 36
   have hfr:mapO (frz U s3 40) [AV.agg [AV.int .i64 a.lines,v,w]]=some [encA (prodA a b f)]:=by
    rw[encA_prodA]
    simp +contextual only[go_sem,↓reduceIte,fv',fw',frz_agg,mapO]
   have c1:=cz104 hP s3
   have hMf:(minAutR (prodA a b f)).next.length≤256:=minA_few (by simp only[prodA,List.length_map];omega)
   have c3:=c103 _ hMf
   generalize minAutR (prodA a b f)=M at *
   have nn':=noAgg_encS M.nNl (M.next.map encRow)
   have nf':=noAgg_encS M.fNl (M.fires.map encFRow)
   have cn':=cells_encS M.nNl (M.next.map encRow)
   have cf':=cells_encS M.fNl (M.fires.map encFRow)
   rw[encA_eq M] at c1 c3 ⊢
   unfold encN encFs at c1 c3 ⊢
   simp (maxSteps:=2000000) +contextual only[go_sem,↓reduceIte,p314,p36,uo,w10,z104 hst,hfr,c1,c3,nn',nf',cn',cf',frz_encS]
  all_goals simp +contextual only[go_sem,↓reduceIte,p2,p3,p4,p9,p11]
  all_goals rfl
 all_goals simp +contextual only[go_sem,↓reduceIte]
 all_goals rfl
def twoA (a b:Auto)(f:Bool→Bool→Bool):AV:=bif chkTwo a b != 0 then .tup [encA ⟨0,true,[],true,[]⟩,.int .i64 (chkTwo a b)] else .tup [encA (minAutR (prodA a b f)),.int .i64 0]
theorem chkTwo_ok {a b:Auto}(h:chkTwo a b=0):a.ok∧b.ok∧a.lines=b.lines:=by
 have e:∀l:List Int,firstOf l=0→∀x∈l,x=0:=by
  intro l
  induction l with
  |nil=>intro _ x hx;cases hx
  |cons y l ih =>
   intro h x hx
   rw[firstOf] at h
   by_cases hy:y=0
   ·subst hy
    rcases List.mem_cons.1 hx with rfl|hx
    ·rfl
    ·exact ih (by simpa[br] using h) x hx
   ·have:(y != 0)=true:=by simpa using hy
    rw[this] at h
    simp[br] at h
    exact absurd h hy
 have h':=e _ h
 refine⟨Auto.ok_of (h' _ (by simp)),Auto.ok_of (h' _ (by simp)),?_⟩
 have:=h' (br (a.lines != b.lines) 2 0) (by simp)
 by_cases hl:a.lines=b.lines
 ·exact hl
 ·have hb:(a.lines != b.lines)=true:=by simpa using hl
  rw[hb] at this
  simp[br] at this
theorem c111 (a b:Auto){f:Bool→Bool→Bool}{F:FuncId}(hF:F=112∨F=113)(hf:∀p q,calV U F [.bool p,.bool q]=some (.bool (f p q)))(ha:a.next.length≤2^40)(hra:∀r∈a.next,r.2.length≤2^40)(hb:b.next.length≤2^40)(hrb:∀r∈b.next,r.2.length≤2^40)(hn:chkTwo a b=0→a.fa.n*b.fa.n≤255) :
  calV U 111 [encA a,encA b,.fn (.func F) [] []]=some (twoA a b f):=by
 have hst:stills [encA a,encA b,.fn (.func F) [] []]=true:=by
  simp only[stills,still_encA]
  rcases hF with rfl|rfl <;> rfl
 refine pure_go k111 (by kernel_rfl) hst ?_
 have h136:=c136 a b ha hra hb hrb
 unfold twoA
 have nn:=noAgg_encS a.nNl (a.next.map encRow)
 have nf:=noAgg_encS a.fNl (a.fires.map encFRow)
 have cn:=cells_encS a.nNl (a.next.map encRow)
 have cf:=cells_encS a.fNl (a.fires.map encFRow)
 have nn':=noAgg_encS b.nNl (b.next.map encRow)
 have nf':=noAgg_encS b.fNl (b.fires.map encFRow)
 have cn':=cells_encS b.nNl (b.next.map encRow)
 have cf':=cells_encS b.fNl (b.fires.map encFRow)
 cases hc:chkTwo a b != 0 with
 |true =>
  rw[encA_eq a,encA_eq b] at h136 ⊢
  unfold encN encFs at h136 ⊢
  rw[show encA ⟨0,true,[],true,[]⟩=.agg [.int .i64 0,.nils,.nils] from rfl]
  simp (maxSteps:=2000000) +contextual only[go_sem,↓reduceIte,r111,nn,nf,cn,cf,nn',nf',cn',cf',h136,hc,cond_true]
 |false =>
  have h0:chkTwo a b=0:=by simpa using hc
  obtain⟨oa,ob,hlb⟩:=chkTwo_ok h0
  rw[h0] at h136
  rw[encA_eq a,encA_eq b] at h136 ⊢
  unfold encN encFs at h136 ⊢
  simp (maxSteps:=2000000) +contextual only[go_sem,↓reduceIte,r111,nn,nf,cn,cf,nn',nf',cn',cf',h136,cond_false]
  have hfn:∀(p q:Bool) (s:St),calv U (.fn (.func F) [] []) [.bool p,.bool q] s=some (.bool (f p q),s):=fun p q s=>by
   rw[calv_fn]
   simp only[List.nil_append,List.append_nil,hf]
   rfl
  refine g111 oa ob hlb (hn h0) hfn ?_ ?_ ?_ ?_ ?_ ?_ ?_ ?_ ?_
  case refine_9 =>
   repeat first|exact Fr.own|apply Fr.new|apply Fr.put|apply Fr.upto
  all_goals simp +contextual only[go_sem,↓reduceIte]
theorem c45 (a b:Auto)(ha:a.next.length≤2^40)(hra:∀r∈a.next,r.2.length≤2^40)(hb:b.next.length≤2^40)(hrb:∀r∈b.next,r.2.length≤2^40)(hn:chkTwo a b=0→a.fa.n*b.fa.n≤255) :
  calV U 45 [encA a,encA b]=some (twoA a b fun p q=>p||q):=by
 refine pure_go k45 (by kernel_rfl) (by simp[stills,still_encA]) ?_
 have h:=c111 a b (.inl rfl) c112 ha hra hb hrb hn
 unfold twoA at h ⊢
 have nn:=noAgg_encS a.nNl (a.next.map encRow)
 have nf:=noAgg_encS a.fNl (a.fires.map encFRow)
 have cn:=cells_encS a.nNl (a.next.map encRow)
 have cf:=cells_encS a.fNl (a.fires.map encFRow)
 have nn':=noAgg_encS b.nNl (b.next.map encRow)
 have nf':=noAgg_encS b.fNl (b.fires.map encFRow)
 have cn':=cells_encS b.nNl (b.next.map encRow)
 have cf':=cells_encS b.fNl (b.fires.map encFRow)
 cases hc:chkTwo a b != 0 with
 |true =>
  rw[hc,cond_true,show encA ⟨0,true,[],true,[]⟩=.agg [.int .i64 0,.nils,.nils] from rfl] at h
  rw[show encA ⟨0,true,[],true,[]⟩=.agg [.int .i64 0,.nils,.nils] from rfl]
  rw[encA_eq a,encA_eq b] at h ⊢
  unfold encN encFs at h ⊢
  simp (maxSteps:=2000000) +contextual only[go_sem,↓reduceIte,r45,nn,nf,cn,cf,nn',nf',cn',cf',h,cond_true]
 |false =>
  rw[hc,cond_false] at h
  generalize minAutR (prodA a b fun p q=>p||q)=M at *
  have nM:=noAgg_encS M.nNl (M.next.map encRow)
  have nM':=noAgg_encS M.fNl (M.fires.map encFRow)
  have cM:=cells_encS M.nNl (M.next.map encRow)
  have cM':=cells_encS M.fNl (M.fires.map encFRow)
  rw[encA_eq a,encA_eq b,encA_eq M] at h ⊢
  unfold encN encFs at h ⊢
  simp (maxSteps:=2000000) +contextual only[go_sem,↓reduceIte,r45,nn,nf,cn,cf,nn',nf',cn',cf',nM,nM',cM,cM',h,cond_false,frz_encS]
theorem c46 (a b:Auto)(ha:a.next.length≤2^40)(hra:∀r∈a.next,r.2.length≤2^40)(hb:b.next.length≤2^40)(hrb:∀r∈b.next,r.2.length≤2^40)(hn:chkTwo a b=0→a.fa.n*b.fa.n≤255) :
  calV U 46 [encA a,encA b]=some (twoA a b fun p q=>p&&q):=by
 refine pure_go k46 (by kernel_rfl) (by simp[stills,still_encA]) ?_
 have h:=c111 a b (.inr rfl) c113 ha hra hb hrb hn
 unfold twoA at h ⊢
 have nn:=noAgg_encS a.nNl (a.next.map encRow)
 have nf:=noAgg_encS a.fNl (a.fires.map encFRow)
 have cn:=cells_encS a.nNl (a.next.map encRow)
 have cf:=cells_encS a.fNl (a.fires.map encFRow)
 have nn':=noAgg_encS b.nNl (b.next.map encRow)
 have nf':=noAgg_encS b.fNl (b.fires.map encFRow)
 have cn':=cells_encS b.nNl (b.next.map encRow)
 have cf':=cells_encS b.fNl (b.fires.map encFRow)
 cases hc:chkTwo a b != 0 with
 |true =>
  rw[hc,cond_true,show encA ⟨0,true,[],true,[]⟩=.agg [.int .i64 0,.nils,.nils] from rfl] at h
  rw[show encA ⟨0,true,[],true,[]⟩=.agg [.int .i64 0,.nils,.nils] from rfl]
  rw[encA_eq a,encA_eq b] at h ⊢
  unfold encN encFs at h ⊢
  simp (maxSteps:=2000000) +contextual only[go_sem,↓reduceIte,r46,nn,nf,cn,cf,nn',nf',cn',cf',h,cond_true]
 |false =>
  rw[hc,cond_false] at h
  generalize minAutR (prodA a b fun p q=>p&&q)=M at *
  have nM:=noAgg_encS M.nNl (M.next.map encRow)
  have nM':=noAgg_encS M.fNl (M.fires.map encFRow)
  have cM:=cells_encS M.nNl (M.next.map encRow)
  have cM':=cells_encS M.fNl (M.fires.map encFRow)
  rw[encA_eq a,encA_eq b,encA_eq M] at h ⊢
  unfold encN encFs at h ⊢
  simp (maxSteps:=2000000) +contextual only[go_sem,↓reduceIte,r46,nn,nf,cn,cf,nn',nf',cn',cf',nM,nM',cM,cM',h,cond_false,frz_encS]
theorem EndI.frz {s:St}{N:Nat}{L:List Nat}{v:AV}(h:EndI s N L v)(d:Nat):Go.Am.frz U s (d+2) v=some (encS true (nats L)):=by
 rcases h with⟨rfl,rfl⟩|⟨w,cap,rfl,h2,h3,h4,h5⟩
 ·rfl
 ·rw[frz_sl,h2,frzS_cells,Nat.mul_one,←nats_len L,grab_all,ag_3,sz_3,frzT_one]
  unfold nats
  rw[if_pos (noAgg_ints _),chunks_all,frz_ints s d (nIs L),fzK_some]
  cases L with
  |nil=>exact absurd rfl h5
  |cons x l=>rfl
theorem EndI.len {s:St}{N:Nat}{L:List Nat}{v:AV}(h:EndI s N L v):lenRL v=some (.int .i64 (L.length:Nat)):=by
 rcases h with⟨rfl,rfl⟩|⟨w,cap,rfl,_⟩ <;> rfl
theorem EndI.na {s:St}{N:Nat}{L:List Nat}{v:AV}(h:EndI s N L v):noAgg v=true:=by
 rcases h with⟨rfl,rfl⟩|⟨w,cap,rfl,_⟩ <;> rfl
def shP (a:Auto):List Nat:=endS (visAll a.fa fun s x=>!a.fa.fr s x)
theorem diag_eq {a:Auto}(ha:a.ok):endS (visAll (prodF a.fa a.fa) fun c x=>!a.fa.fr (c / a.fa.n) x)=shP a:=by
 have hA:=ha.faok
 refine endS_map (φ:=fun s=>s*a.fa.n+s) hA (fun u v hu hv h=>?_) rfl ?_ (by simp) fun s x hs hx=>?_
 ·have h1:=pair_div (a:=u) (b:=u) hu
  have h2:=pair_div (a:=v) (b:=v) hv
  rw[h] at h1
  omega
 ·exact Nat.le_mul_of_pos_right _ hA.pos
 ·have h1:=pair_div (a:=s) (b:=s) hs
  have h2:=pair_mod (a:=s) (b:=s) hs
  refine⟨?_,?_⟩
  ·show a.fa.nx ((s*a.fa.n+s) / a.fa.n) x*a.fa.n+a.fa.nx ((s*a.fa.n+s)%a.fa.n) x=_
   rw[h1,h2]
  ·simp only[h1]
def shortP (a:Auto):AV:=bif ckA a != 0 then .tup [.nils,.int .i64 (ckA a)] else .tup [encS true (nats (shP a)),.int .i64 (br ((shP a).length==0) 7 0)]
theorem c47 (a:Auto)(hn:a.next.length≤2^40)(hr:∀r∈a.next,r.2.length≤2^40):calV U 47 [encA a]=some (shortP a):=by
 refine pure_go k47 (by kernel_rfl) (by simp[stills,still_encA]) ?_
 have h58:=c58 a hn hr
 unfold shortP
 have nn:=noAgg_encS a.nNl (a.next.map encRow)
 have nf:=noAgg_encS a.fNl (a.fires.map encFRow)
 have cn:=cells_encS a.nNl (a.next.map encRow)
 have cf:=cells_encS a.fNl (a.fires.map encFRow)
 cases hc:ckA a != 0 with
 |true =>
  rw[encA_eq a] at h58 ⊢
  unfold encN encFs at h58 ⊢
  simp (maxSteps:=2000000) +contextual only[go_sem,↓reduceIte,r47,nn,nf,cn,cf,h58,hc,cond_true]
 |false =>
  have h0:ckA a=0:=by simpa using hc
  have ha:=Auto.ok_of h0
  rw[h0] at h58
  obtain⟨S,hS⟩:∃S,S=(ownSt U).new (.cells [.int .i64 a.lines,encS a.nNl (a.next.map encRow),encS a.fNl (a.fires.map encFRow)] 69 false 0 0):=⟨_,rfl⟩
  have hSn:S.next=9:=by rw[hS];simp +contextual only[go_sem,↓reduceIte]
  have gS:S.get 8=some (.cells [.int .i64 a.lines,encS a.nNl (a.next.map encRow),encS a.fNl (a.fires.map encFRow)] 69 false 0 0):=by rw[hS];simp +contextual only[go_sem,↓reduceIte]
  have frS:Fr S:=by rw[hS];exact Fr.own.new _
  obtain⟨pv,ev,s1,g',h114,VR⟩:=c114 ha ha rfl (s:=S) (yld115 ha (bx:=8) (B0:=S.next) (by omega)) (fun c x hc hx=>⟨Nat.div_lt_of_lt_mul (by rw[Nat.mul_comm];exact hc),hx⟩) (g:=()) ⟨by omega,gS⟩ frS
  have hE:=VR.ends
  rw[diag_eq ha] at hE
  have hEl:=hE.len
  have hEf:=hE.frz
  have hEn:=hE.na
  have c6:=c116 ((shP a).length==0) 7
  have hq:(((shP a).length:Int)==0)=((shP a).length==0):=by rw[Bool.eq_iff_iff];simp
  rw[encA_eq a] at h58 h114 ⊢
  unfold encN encFs at h58 h114 ⊢
  rw[hS] at h114
  simp (maxSteps:=2000000) +contextual only[go_sem,↓reduceIte,r47,nn,nf,cn,cf,h58,cond_false,k114',h114,hEl,hq,c6,hEn,hEf,frz_tup]
end Go.Am
namespace Go.Am
open Go
variable [MaxLen]
structure Bfs (A:Fa)(i:Nat)(T:List Trip):Prop where
 pb:∀(k:Nat) (t:Trip),T[k]? = some t→t.2.1≤i
 tr:∀(k:Nat) (t:Trip),T[k+1]? = some t→∃u:Trip,T[t.2.1]? = some u∧A.nx u.1 t.2.2=t.1
 mono:∀(k k':Nat) (t t':Trip),k≤k'→T[k]? = some t→T[k']? = some t'→t.2.1≤t'.2.1
 cov:∀j,j<i→∀u:Trip,T[j]? = some u→∀z,z<A.m→∃(k:Nat) (t:Trip),T[k]? = some t∧t.1=A.nx u.1 z∧t.2.1≤j
theorem get_app {T R:List Trip}{k:Nat}{t:Trip}(h:T[k]? = some t):(T++R)[k]? = some t:=by
 rw[List.getElem?_append_left (List.getElem?_eq_some_iff.1 h).1];exact h
theorem get_app_inv {T:List Trip}{k:Nat}{t s:Trip}(h:(T++[s])[k]? = some t):T[k]? = some t∨(k=T.length∧t=s):=by
 rcases Nat.lt_or_ge k T.length with hk|hk
 ·rw[List.getElem?_append_left hk] at h;exact .inl h
 ·rw[List.getElem?_append_right hk] at h
  have hk0:k-T.length=0:=by
   have:=(List.getElem?_eq_some_iff.1 h).1
   simp at this;omega
  rw[hk0] at h
  simp at h
  exact .inr ⟨by omega,h.symm⟩
theorem Bfs.put {A:Fa}{i x:Nat}{T:List Trip}{u:Trip}(h:Bfs A i T)(hT:0<T.length)(hu:T[i]? = some u):Bfs A i (T++[(A.nx u.1 x,i,x)]):=by
 refine⟨fun k t hk=>?_,fun k t hk=>?_,fun k k' t t' hkk hk hk'=>?_,fun j hj v hv z hz=>?_⟩
 ·rcases get_app_inv hk with hk|⟨_,rfl⟩
  ·exact h.pb k t hk
  ·exact Nat.le_refl _
 ·rcases get_app_inv hk with hk|⟨_,rfl⟩
  ·obtain⟨v,h1,h2⟩:=h.tr k t hk
   exact⟨v,get_app h1,h2⟩
  ·exact⟨u,get_app hu,rfl⟩
 ·rcases get_app_inv hk' with hk'|⟨e',rfl⟩
  ·rcases get_app_inv hk with hk|⟨e,rfl⟩
   ·exact h.mono k k' t t' hkk hk hk'
   ·have:=(List.getElem?_eq_some_iff.1 hk').1
    omega
  ·rcases get_app_inv hk with hk|⟨e,rfl⟩
   ·exact h.pb k t hk
   ·exact Nat.le_refl _
 ·have hj':j<T.length:=by have:=(List.getElem?_eq_some_iff.1 hu).1;omega
  rw[List.getElem?_append_left hj'] at hv
  obtain⟨k,t,h1,h2,h3⟩:=h.cov j hj v hv z hz
  exact⟨k,t,get_app h1,h2,h3⟩
theorem visRow_bfs {A:Fa}{i:Nat}{y:Nat→Bool}:∀(r x:Nat) {T:List Trip} {u:Trip},Bfs A i T→T[i]? = some u→Bfs A i (visRow (A.nx u.1) y i r x T).1∧(∀(k:Nat) (t:Trip),T[k]? = some t→(visRow (A.nx u.1) y i r x T).1[k]? = some t) ∧
  ((visRow (A.nx u.1) y i r x T).2=none→∀z,x≤z→z<x+r→∃(k:Nat) (t:Trip),(visRow (A.nx u.1) y i r x T).1[k]? = some t∧t.1=A.nx u.1 z∧t.2.1≤i)
 |0,x,T,u,h,hu=>⟨h,fun _ _ h=>h,fun _ z h1 h2=>by omega⟩
 |r+1,x,T,u,h,hu=>by
  rw[visRow]
  cases hy:y x with
  |false=>exact⟨h,fun _ _ h=>h,fun e=>by simp at e⟩
  |true =>
   simp only[cond_true]
   have hT:0<T.length:=by have:=(List.getElem?_eq_some_iff.1 hu).1;omega
   cases hin:decide (A.nx u.1 x∈T.map (·.1)) with
   |true =>
    simp only[cond_true]
    obtain⟨i1,i2,i3⟩:=visRow_bfs (y:=y) r (x+1) h hu
    refine⟨i1,i2,fun e z h1 h2=>?_⟩
    by_cases hz:z=x
    ·subst hz
     obtain⟨t,ht,e⟩:=List.mem_map.1 (of_decide_eq_true hin)
     obtain⟨k,hk,rfl⟩:=List.mem_iff_getElem.1 ht
     have hk':T[k]? = some T[k]:=List.getElem?_eq_getElem hk
     exact⟨k,T[k],i2 k _ hk',e,h.pb k _ hk'⟩
    ·exact i3 e z (by omega) (by omega)
   |false =>
    simp only[cond_false]
    obtain⟨i1,i2,i3⟩:=visRow_bfs (y:=y) r (x+1) (h.put (x:=x) hT hu) (get_app hu)
    refine⟨i1,fun k t hk=>i2 k t (get_app hk),fun e z h1 h2=>?_⟩
    by_cases hz:z=x
    ·subst hz
     exact⟨T.length,(A.nx u.1 z,i,z),i2 _ _ (by simp),rfl,Nat.le_refl _⟩
    ·exact i3 e z (by omega) (by omega)
theorem visT_bfs {A:Fa}{y:Nat→Nat→Bool}:∀(f i:Nat) {T:List Trip},Bfs A i T→∀k x,(visT A y f i T).2=some (k,x)→Bfs A k (visT A y f i T).1
 |0,i,T,_,k,x,e=>by simp[visT] at e
 |f+1,i,T,h,k,x,e=>by
  rw[visT] at e ⊢
  cases ht:T[i]? with
  |none=>rw[ht] at e;simp at e
  |some u =>
   rw[ht] at e
   obtain⟨i1,i2,i3⟩:=visRow_bfs (y:=y u.1) A.m 0 h ht
   simp only at e ⊢
   generalize visRow (A.nx u.1) (y u.1) i A.m 0 T=v at *
   obtain⟨T',o⟩:=v
   cases o with
   |some z =>
    simp only[Option.some.injEq,Prod.mk.injEq] at e ⊢
    obtain⟨rfl,rfl⟩:=e
    exact i1
   |none =>
    simp only at e ⊢ i1 i2 i3
    refine visT_bfs f (i+1) ⟨fun k t hk=>Nat.le_succ_of_le (i1.pb k t hk),i1.tr,i1.mono,fun j hj v hv z hz=>?_⟩ k x e
    by_cases hji:j=i
    ·subst hji
     rw[i2 j u ht] at hv
     cases hv
     exact i3 trivial z (Nat.zero_le _) (by omega)
    ·exact i1.cov j (by omega) v hv z hz
theorem bfs0 (A:Fa):Bfs A 0 [(0,0,0)]:=by
 have hone:∀k t,[((0,0,0):Trip)][k]? = some t→k=0∧t=(0,0,0):=fun k t h=>by
  cases k with
  |zero=>simp at h;exact⟨rfl,h.symm⟩
  |succ k=>simp at h
 refine⟨fun k t h=>?_,fun k t h=>?_,fun k k' t t' _ h _=>?_,fun j hj=>by omega⟩
 ·rw[(hone k t h).2];exact Nat.le_refl _
 ·have:=(hone _ t h).1;omega
 ·rw[(hone k t h).2];exact Nat.zero_le _
def dpT (T:List Trip)(k:Nat):Nat:=(sigT T k k).length
theorem sigT_succ {A:Fa}{T:List Trip}(h:VisI A T){k:Nat}{t:Trip}(ht:T[k+1]? = some t):sigT T (k+1) (k+1)=sigT T t.2.1 t.2.1++[t.2.2]:=by
 have hp:=(h.fr k t ht).1
 have hk:=(List.getElem?_eq_some_iff.1 ht).1
 rw[sigT,ht]
 simp only
 rw[sigT_fuel h k t.2.1 hp (by omega)]
theorem dpT_mono {A:Fa}{T:List Trip}{i:Nat}(h:VisI A T)(hb:Bfs A i T):∀(k' k:Nat),k≤k'→k'<T.length→dpT T k≤dpT T k':=by
 intro k'
 induction k' using Nat.strongRecOn with
 |ind k' ih =>
  intro k hk hk'
  cases k with
  |zero=>exact Nat.zero_le _
  |succ k =>
   obtain⟨q,rfl⟩:∃q,k'=q+1:=⟨k'-1,by omega⟩
   have e1:T[k+1]? = some T[k+1]:=List.getElem?_eq_getElem (by omega)
   have e2:T[q+1]? = some T[q+1]:=List.getElem?_eq_getElem hk'
   have hm:=hb.mono _ _ _ _ hk e1 e2
   have hp:=(h.fr q _ e2).1
   unfold dpT
   rw[sigT_succ h e1,sigT_succ h e2,List.length_append,List.length_append]
   have:=ih _ (by omega) _ hm (by omega)
   unfold dpT at this
   simp only[List.length_singleton]
   omega
theorem sigT_path {A:Fa}{T:List Trip}{i:Nat}(h:VisI A T)(hb:Bfs A i T)(h0:∀t,T[0]? = some t→t.1=0):∀(k:Nat) (t:Trip),T[k]? = some t→(sigT T k k).foldl A.nx 0=t.1∧(∀z∈sigT T k k,z<A.m)∧∀j,j<(sigT T k k).length→∃k' t',k'<k∧T[k']? = some t'∧((sigT T k k).take j).foldl A.nx 0=t'.1:=by
 intro k
 induction k using Nat.strongRecOn with
 |ind k ih =>
  intro t ht
  cases k with
  |zero=>exact⟨(h0 t ht).symm,fun z hz=>by simp[sigT] at hz,fun j hj=>by simp[sigT] at hj⟩
  |succ k =>
   obtain⟨u,hu,he⟩:=hb.tr k t ht
   obtain⟨hp,hx⟩:=h.fr k t ht
   obtain⟨p1,p2,p3⟩:=ih t.2.1 (by omega) u hu
   rw[sigT_succ h ht]
   refine⟨?_,fun z hz=>?_,fun j hj=>?_⟩
   ·rw[List.foldl_append,p1];exact he
   ·rcases List.mem_append.1 hz with hz|hz
    ·exact p2 z hz
    ·rw[List.mem_singleton.1 hz];exact hx
   ·rw[List.length_append,List.length_singleton] at hj
    by_cases hj':j<(sigT T t.2.1 t.2.1).length
    ·obtain⟨k',t',q1,q2,q3⟩:=p3 j hj'
     refine⟨k',t',by omega,q2,?_⟩
     rw[List.take_append_of_le_length (by omega)]
     exact q3
    ·have hje:j=(sigT T t.2.1 t.2.1).length:=by omega
     refine⟨t.2.1,u,by omega,hu,?_⟩
     rw[hje,List.take_left']
     ·exact p1
     ·rfl
theorem symN_nIs {L:List Nat}{t:Nat}(ht:t<L.length):symN (nIs L) t=L[t]:=by
 unfold symN
 rw[getD_at (by rw[nIs_len];exact ht)]
 simp[nIs]
theorem stF_take (A:Fa)(L:List Nat):∀r,r≤L.length→stF A (nIs L) r 0 0=(L.take r).foldl A.nx 0
 |0,_=>by simp[stF]
 |r+1,h=>by
  have hr:r<L.length:=by omega
  rw[stF_snoc,stF_take A L r (by omega),Nat.zero_add,symN_nIs hr,List.take_succ_eq_append_getElem hr,List.foldl_append]
  rfl
theorem visAll_T0 {A:Fa}(hA:A.ok)(y:Nat→Nat→Bool):(visAll A y).1[0]? = some (0,0,0):=by
 obtain⟨R,hR⟩:=(visAll_spec hA y).pre
 rw[hR];rfl
theorem sh_none {a:Auto}(ha:a.ok)(h0:(visAll a.fa fun s x=>!a.fa.fr s x).2=none){l:List Int}(hl:∀i,i<l.length→symN l i<a.fa.m){i:Nat}(hi:i<l.length):fireAt a.fa l i=false:=by
 have hA:=ha.faok
 have h:=visAll_spec hA fun s x=>!a.fa.fr s x
 have hgo:=h.go h0
 have hs:∀r,r≤l.length→∃(k:Nat) (t:Trip),(visAll a.fa fun s x=>!a.fa.fr s x).1[k]? = some t∧t.1=stF a.fa l r 0 0:=by
  intro r
  induction r with
  |zero=>exact fun _=>⟨0,_,visAll_T0 hA _,rfl⟩
  |succ r ih =>
   intro hr
   obtain⟨k,t,hk,e⟩:=ih (by omega)
   obtain⟨u,hu,he⟩:=List.mem_map.1 (hgo k t (Nat.zero_le _) hk (symN l r) (hl r (by omega))).2
   obtain⟨q,hq,rfl⟩:=List.mem_iff_getElem.1 hu
   refine⟨q,_,List.getElem?_eq_getElem hq,?_⟩
   rw[he,stF_snoc,Nat.zero_add,e]
 obtain⟨k,t,hk,e⟩:=hs i (by omega)
 have:=(hgo k t (Nat.zero_le _) hk (symN l i) (hl i hi)).1
 unfold fireAt
 rw[←e]
 simpa using this
structure ShS (a:Auto)(L:List Nat):Prop where
 pos:0<L.length
 le:L.length≤a.next.length
 sym:∀z∈L,z<a.fa.m
 times:(runF a.fa (nIs L) (nIs L).length 0 0).1=[((L.length-1:Nat):Int)]
 first:∀(l:List Int),(∀i,i<l.length→symN l i<a.fa.m)→∀i,i<l.length→fireAt a.fa l i=true→L.length-1≤i
theorem range_last {p:Nat→Bool}:∀(n:Nat),(∀i,i<n→p i=false)→p n=true→(List.range (n+1)).filter p=[n]:=fun n h h1=>by
 rw[List.range_succ,List.filter_append]
 have:(List.range n).filter p=[]:=List.filter_eq_nil_iff.2 fun i hi=>by rw[h i (List.mem_range.1 hi)];simp
 rw[this,List.nil_append,List.filter_cons,h1]
 simp
theorem sh_some {a:Auto}(ha:a.ok){k x:Nat}(h0:(visAll a.fa fun s x=>!a.fa.fr s x).2=some (k,x)):ShS a (shP a):=by
 have hA:=ha.faok
 have h:=visAll_spec hA fun s x=>!a.fa.fr s x
 obtain⟨_,hx,⟨t,ht,hy⟩,hpre,_⟩:=h.stop k x h0
 have hb:=visT_bfs (A:=a.fa) (y:=fun s x=>!a.fa.fr s x) (a.fa.n+1) 0 (bfs0 a.fa) k x h0
 have hb:Bfs a.fa k (visAll a.fa fun s x=>!a.fa.fr s x).1:=hb
 have hT0:=visAll_T0 hA fun s x=>!a.fa.fr s x
 have hV:=h.inv
 have hsh:shP a=sigT (visAll a.fa fun s x=>!a.fa.fr s x).1 k k++[x]:=by
  unfold shP endS
  rw[h0]
 generalize (visAll a.fa fun s x=>!a.fa.fr s x).1=T at *
 have hkl:=(List.getElem?_eq_some_iff.1 ht).1
 have hTl:=hV.len
 obtain⟨p1,p2,p3⟩:=sigT_path hV hb (fun u hu=>by rw[hT0] at hu;cases hu;rfl) k t ht
 have hsl:=sigT_len T k k
 have hn:a.fa.n=a.next.length:=rfl
 have hlen:(shP a).length=(sigT T k k).length+1:=by rw[hsh];simp
 have hsym:∀z∈shP a,z<a.fa.m:=fun z hz=>by
  rw[hsh] at hz
  rcases List.mem_append.1 hz with hz|hz
  ·exact p2 z hz
  ·rw[List.mem_singleton.1 hz];exact hx
 refine⟨by omega,by omega,hsym,?_,fun l hl i hi hf=>?_⟩
 ·rw[times_eq,nIs_len,hlen,range_last,Nat.add_sub_cancel]
  ·rfl
  ·intro i hi
   obtain⟨k',t',q1,q2,q3⟩:=p3 i hi
   have hil:i<(shP a).length:=by omega
   unfold fireAt
   rw[stF_take a.fa (shP a) i (by omega),symN_nIs hil]
   have e:(shP a).take i=(sigT T k k).take i:=by rw[hsh,List.take_append_of_le_length (by omega)]
   rw[e,q3]
   have:=hpre k' t' (Nat.zero_le _) q1 q2 _ (hsym _ (List.getElem_mem hil))
   simpa using this
  ·have hil:(sigT T k k).length<(shP a).length:=by omega
   unfold fireAt
   rw[stF_take a.fa (shP a) _ (by omega),symN_nIs hil]
   have e:(shP a).take (sigT T k k).length=sigT T k k:=by rw[hsh,List.take_left'];rfl
   have e2:(shP a)[(sigT T k k).length]=x:=by simp[hsh]
   rw[e,e2,p1]
   simpa using hy
 ·rw[hlen,Nat.add_sub_cancel]
  have key:∀r,r≤l.length→(∃(j:Nat) (u:Trip),j<k∧T[j]? = some u∧u.1=stF a.fa l r 0 0∧dpT T j≤r)∨dpT T k≤r:=by
   intro r
   induction r with
   |zero =>
    intro _
    by_cases hk0:k=0
    ·subst hk0;exact .inr (Nat.le_refl _)
    ·exact .inl ⟨0,_,by omega,hT0,rfl,Nat.le_refl _⟩
   |succ r ih =>
    intro hr
    rcases ih (by omega) with⟨j,u,hj,hu,e,hd⟩|hd
    ·obtain⟨q,v,hq,e2,hp⟩:=hb.cov j hj u hu (symN l r) (hl r (by omega))
     have hql:=(List.getElem?_eq_some_iff.1 hq).1
     have est:v.1=stF a.fa l (r+1) 0 0:=by rw[e2,stF_snoc,Nat.zero_add,e]
     have hdq:dpT T q≤r+1:=by
      cases q with
      |zero=>exact Nat.zero_le _
      |succ q =>
       unfold dpT
       rw[sigT_succ hV hq,List.length_append]
       have:=dpT_mono hV hb j v.2.1 hp (by omega)
       unfold dpT at this hd
       simp only[List.length_singleton]
       omega
     by_cases hqk:q<k
     ·exact .inl ⟨q,v,hqk,hq,est,hdq⟩
     ·have:=dpT_mono hV hb q k (by omega) hql
      exact .inr (by omega)
    ·exact .inr (by omega)
  rcases key i (by omega) with⟨j,u,hj,hu,e,_⟩|hd
  ·have:=hpre j u (Nat.zero_le _) hj hu (symN l i) (hl i hi)
   unfold fireAt at hf
   rw[←e] at hf
   rw[hf] at this
   cases this
  ·exact hd
end Go.Am
namespace Go.Am
open Go
variable [MaxLen]
set_option maxRecDepth 100000
set_option maxHeartbeats 8000000
def hasI (l:List Int)(n:Int):Bool:=l.any (·==n)
theorem hasI_drop {l:List Int}{n:Int}{i:Nat}(h:i<l.length):hasI (l.drop i) n=((l[i]==n)||hasI (l.drop (i+1)) n):=by
 rw[List.drop_eq_getElem_cons h];rfl
theorem c61 (nl:Bool)(l:List Int)(n:Int)(hl:l.length<2^62):calV U 61 [encS nl (ints l),.int .i64 n]=some (.bool (hasI l n)):=by
 refine pure_go k61 (by kernel_rfl) (by simp[stills,still_encS,still]) ?_
 simp (maxSteps:=2000000) +contextual only[go_sem,↓reduceIte,r61,lenL_encS,ints_len]
 refine loop_ex (σ:=Nat) (Post:=fun (o:Option AV)=>o=some (.bool (hasI l n))) (fun i=>l.length-i) (fun i e s=>i≤l.length∧Env.get e 1=.int .i64 n∧Env.get e 7=encS nl (ints l)∧Env.get e 8=.int .i64 (l.length:Int)∧Env.get e 9=.int .i64 (i:Int)∧hasI l n=hasI (l.drop i) n) 0 ?_ ⟨Nat.zero_le _,?_,?_,?_,?_,rfl⟩
 ·rintro L i e s ⟨hi,g1,g7,g8,g9,hh⟩ IH
  by_cases hd:i<l.length
  ·have hw:=wrap_succ hd hl
   have hx:=ixa_intV (nl:=nl) hd
   rw[hasI_drop hd] at hh
   cases hb:l[i]==n with
   |true =>
    rw[hb,Bool.true_or] at hh
    simp (maxSteps:=2000000) +contextual only[go_sem,↓reduceIte,r61_l0,g1,g7,g8,g9,nat_lt_dec,hd,hx,hb,hh]
   |false =>
    rw[hb,Bool.false_or] at hh
    simp (maxSteps:=2000000) +contextual only[go_sem,↓reduceIte,r61_l0,g1,g7,g8,g9,nat_lt_dec,hd,hx,hb,hw]
    refine IH (i+1) _ _ (by omega) ⟨by omega,?_,?_,?_,?_,hh⟩
    all_goals simp +contextual only[go_sem,↓reduceIte,g1,g7,g8]
  ·have hie:i=l.length:=by omega
   subst hie
   rw[List.drop_length] at hh
   simp (maxSteps:=2000000) +contextual only[go_sem,↓reduceIte,r61_l0,g8,g9,nat_lt_dec,Nat.lt_irrefl,hh]
   rfl
 all_goals simp +contextual only[go_sem,↓reduceIte]
 all_goals rfl
def tmL (n:Nat)(p:Nat→Bool):List Nat:=(List.range n).filter p
theorem tmL_succ (n:Nat)(p:Nat→Bool):tmL (n+1) p=bif p n then tmL n p++[n] else tmL n p:=by
 unfold tmL
 rw[List.range_succ,List.filter_append,List.filter_cons]
 cases p n <;> simp
theorem hasI_tm {n i:Nat}{p:Nat→Bool}(hi:i<n):hasI (nIs (tmL n p)) (i:Int)=p i:=by
 unfold hasI nIs tmL
 rw[Bool.eq_iff_iff,List.any_eq_true]
 constructor
 ·rintro⟨x,hx,hxe⟩
  obtain⟨k,hk,rfl⟩:=List.mem_map.1 hx
  have:(k:Int)=i:=by simpa using hxe
  have:k=i:=by omega
  subst this
  exact (List.mem_filter.1 hk).2
 ·intro h
  exact⟨(i:Int),List.mem_map.2 ⟨i,List.mem_filter.2 ⟨List.mem_range.2 hi,h⟩,rfl⟩,by simp⟩
theorem tmL_len (n:Nat)(p:Nat→Bool):(tmL n p).length≤n:=by
 have:=List.length_filter_le p (List.range n)
 rw[List.length_range] at this
 exact this
theorem l9a {β:Type}{fin:Fl→β}{ks:List K}{Post:β→Prop}{n N:Nat}{p q:Nat→Bool}(hn:n≤2^20)
  {e:Env}{s:St}(g17:Env.get e 17=encS true (ints (nIs (tmL n p))))(g19:Env.get e 19=encS true (ints (nIs (tmL n q))))(g27:Env.get e 27=.nils)(g28:Env.get e 28=.nils)(g168:Env.get e 168=.int .i64 (n:Nat))(g169:Env.get e 169=.int .i64 (0:Nat))(hN:N≤s.next)(fr:Fr s)
  (hk:∀e' s' v w,(∀t:Nat,t<27→Env.get e' t=Env.get e t)→Env.get e' 27=v→Env.get e' 28=w→SlI s' N (tmL n fun i=>p i&&q i) v→SlI s' N (tmL n fun i=>p i||q i) w→(∀j,j<N→s'.get j=s.get j)→s.next≤s'.next→Fr s'→Post (goN U fin ks e' s')) :
  Post (goL U fin (.bk 0::ks) r9_l0 e s):=by
 refine loop_ex (σ:=Nat) (fun i=>n-i) (fun i e' s'=>i≤n∧(∀t:Nat,t<27→Env.get e' t=Env.get e t)∧Env.get e' 168=.int .i64 (n:Nat)∧Env.get e' 169=.int .i64 (i:Nat)∧(∀j,j<N→s'.get j=s.get j)∧s.next≤s'.next∧Fr s' ∧
   ∃v w,Env.get e' 27=v∧Env.get e' 28=w∧SlI s' N (tmL i fun i=>p i&&q i) v∧SlI s' N (tmL i fun i=>p i||q i) w∧(∀j,¬(isB v j∧isB w j))) 0 ?_
  ⟨Nat.zero_le _,fun _ _=>rfl,g168,g169,fun _ _=>rfl,Nat.le_refl _,fr,.nils,.nils,g27,g28,.inl ⟨rfl,rfl⟩,.inl ⟨rfl,rfl⟩,fun j h=>by obtain⟨⟨_,h⟩,_⟩:=h;cases h⟩
 rintro Lp i e' s' ⟨hi,hold,q168,q169,hs,hnx,fr',v,w,q27,q28,hv,hw,hvw⟩ IH
 have q17:=(hold 17 (by omega)).trans g17
 have q19:=(hold 19 (by omega)).trans g19
 by_cases hd:i<n
 ·have hwr:=wrap_succ hd (by omega)
  have hlp:=tmL_len n p
  have hlq:=tmL_len n q
  have c1:=c61 true (nIs (tmL n p)) (i:Int) (by rw[nIs_len];omega)
  have c2:=c61 true (nIs (tmL n q)) (i:Int) (by rw[nIs_len];omega)
  rw[hasI_tm hd] at c1 c2
  have e1:=tmL_succ i fun i=>p i&&q i
  have e2:=tmL_succ i fun i=>p i||q i
  have hlw:=hw.lenA
  have hlv:=hv.lenA
  have hlw0:=tmL_len i fun i=>p i||q i
  have hlv0:=tmL_len i fun i=>p i&&q i
  have hbw1:((tmL i fun i=>p i||q i).length+1)*8≤1099511627776:=by omega
  have hbw2:(tmL i fun i=>p i||q i).length+1≤1099511627776:=by omega
  have hbv1:((tmL i fun i=>p i&&q i).length+1)*8≤1099511627776:=by omega
  have hbv2:(tmL i fun i=>p i&&q i).length+1≤1099511627776:=by omega
  have hwN:SlI (s'.new (.cells [.int .i64 (i:Int)] 3 false 0 0)) N (tmL i fun i=>p i||q i) w:=hw.keep (by rw[next_new];omega) fun j h1 _ _=>by rw[get_new,if_neg (by omega)]
  obtain⟨s4,d1,d2,d3,d4,d5⟩:=hwN.app (by rw[next_new];omega) i
  simp only[next_new] at d1 d2 d3 d4
  have k4:∀j,j<s'.next→¬isB w j→s4.get j=s'.get j:=fun j h1 h2=>by rw[d4 j (by omega) h2,get_new,if_neg (by omega)]
  have kN:∀j,j<N→s4.get j=s'.get j:=fun j h1=>k4 j (by omega) fun h=>by have:=(hw.lt h).1;omega
  have hv4:SlI s4 N (tmL i fun i=>p i&&q i) v:=hv.keep (by omega) fun j h1 h2 h3=>k4 j h1 fun h=>hvw j ⟨h3,h⟩
  have hne27:∀t:Nat,t<27→∀k:Nat,27≤k→(k=t)=False:=fun t h1 k hk=>by simp;omega
  have fr4:=d5 (fr'.new _)
  cases hp:p i with
  |true =>
   cases hq:q i with
   |true =>
    simp only[hp,hq] at c1 c2 e1 e2
    rw[Bool.true_and,cond_true] at e1
    rw[Bool.true_or,cond_true] at e2
    simp (maxSteps:=2000000) +contextual only[go_sem,↓reduceIte,r9_l0,q17,q19,q27,q28,q168,q169,nat_lt_dec,hd,c1,c2,hwr,Nat.mul_one,Nat.one_mul,appK_some,Nat.reducePow,hlw,hlv,hbw1,hbw2,hbv1,hbv2,d1]
    obtain⟨s6,b1,b2,b3,b4,b5⟩:=(hv4.keep (s':=s4.new (.cells [.int .i64 (i:Int)] 3 false 0 0)) (by rw[next_new];omega) fun j h1 _ _=>by rw[get_new,if_neg (by omega)]).app (by rw[next_new];omega) i
    simp only[next_new] at b1 b2 b3 b4
    rw[b1]
    simp (maxSteps:=2000000) +contextual only[go_sem,↓reduceIte,q169,hwr]
    have k6:∀j,j<s4.next→¬isB v j→s6.get j=s4.get j:=fun j h1 h2=>by rw[b4 j (by omega) h2,get_new,if_neg (by omega)]
    have d3':SlI s6 N (tmL i (fun i=>p i||q i)++[i]) (.sl (s'.next+1) 0 ((tmL i fun i=>p i||q i).length+1) none 1):=d3.keep (by omega) fun j h1 h2 h3=>k6 j h1 fun h=>by
     have h4:=(hv.lt h).2
     have h5:=(isB_sl _ _ _).1 h3
     omega
    rw[←e2] at d3'
    rw[←e1] at b3
    refine IH (i+1) _ _ (by omega) ⟨by omega,fun t h1=>?_,?_,?_,fun j h1=>?_,by omega,b5 (fr4.new _),.sl (s4.next+1) 0 ((tmL i fun i=>p i&&q i).length+1) none 1,.sl (s'.next+1) 0 ((tmL i fun i=>p i||q i).length+1) none 1,?_,?_,b3,d3',fun j h=>?_⟩
    ·simp +contextual only[go_sem,↓reduceIte,hne27 t h1]
     exact hold t h1
    ·simp +contextual only[go_sem,↓reduceIte,q168]
    ·simp +contextual only[go_sem,↓reduceIte]
    ·rw[k6 j (by omega) fun h=>by have:=(hv.lt h).1;omega]
     exact (kN j h1).trans (hs j h1)
    ·simp +contextual only[go_sem,↓reduceIte]
    ·simp +contextual only[go_sem,↓reduceIte]
    ·have h1:=(isB_sl _ _ _).1 h.1
     have h2:=(isB_sl _ _ _).1 h.2
     omega
   |false =>
    simp only[hp,hq] at c1 c2 e1 e2
    rw[Bool.and_false,cond_false] at e1
    rw[Bool.or_false,cond_true] at e2
    rw[←e1] at hv4
    simp (maxSteps:=2000000) +contextual only[go_sem,↓reduceIte,r9_l0,q17,q19,q27,q28,q168,q169,nat_lt_dec,hd,c1,c2,hwr,Nat.mul_one,Nat.one_mul,appK_some,Nat.reducePow,hlw,hlv,hbw1,hbw2,hbv1,hbv2,d1]
    rw[←e2] at d3
    refine IH (i+1) _ _ (by omega) ⟨by omega,fun t h1=>?_,?_,?_,fun j h1=>(kN j h1).trans (hs j h1),by omega,fr4,v,.sl (s'.next+1) 0 ((tmL i fun i=>p i||q i).length+1) none 1,?_,?_,hv4,d3,fun j h=>?_⟩
    ·simp +contextual only[go_sem,↓reduceIte,hne27 t h1]
     exact hold t h1
    ·simp +contextual only[go_sem,↓reduceIte,q168]
    ·simp +contextual only[go_sem,↓reduceIte]
    ·simp +contextual only[go_sem,↓reduceIte,q27]
    ·simp +contextual only[go_sem,↓reduceIte]
    ·have h1:=(hv.lt h.1).2
     have h2:=(isB_sl _ _ _).1 h.2
     omega
  |false =>
   cases hq:q i with
   |true =>
    simp only[hp,hq] at c1 c2 e1 e2
    rw[Bool.and_true,cond_false] at e1
    rw[Bool.or_true,cond_true] at e2
    rw[←e1] at hv4
    simp (maxSteps:=2000000) +contextual only[go_sem,↓reduceIte,r9_l0,q17,q19,q27,q28,q168,q169,nat_lt_dec,hd,c1,c2,hwr,Nat.mul_one,Nat.one_mul,appK_some,Nat.reducePow,hlw,hlv,hbw1,hbw2,hbv1,hbv2,d1]
    rw[←e2] at d3
    refine IH (i+1) _ _ (by omega) ⟨by omega,fun t h1=>?_,?_,?_,fun j h1=>(kN j h1).trans (hs j h1),by omega,fr4,v,.sl (s'.next+1) 0 ((tmL i fun i=>p i||q i).length+1) none 1,?_,?_,hv4,d3,fun j h=>?_⟩
    ·simp +contextual only[go_sem,↓reduceIte,hne27 t h1]
     exact hold t h1
    ·simp +contextual only[go_sem,↓reduceIte,q168]
    ·simp +contextual only[go_sem,↓reduceIte]
    ·simp +contextual only[go_sem,↓reduceIte,q27]
    ·simp +contextual only[go_sem,↓reduceIte]
    ·have h1:=(hv.lt h.1).2
     have h2:=(isB_sl _ _ _).1 h.2
     omega
   |false =>
    simp only[hp,hq] at c1 c2 e1 e2
    rw[Bool.false_and,cond_false] at e1
    rw[Bool.false_or,cond_false] at e2
    rw[←e1] at hv
    rw[←e2] at hw
    simp (maxSteps:=2000000) +contextual only[go_sem,↓reduceIte,r9_l0,q17,q19,q168,q169,nat_lt_dec,hd,c1,c2,hwr]
    refine IH (i+1) _ _ (by omega) ⟨by omega,fun t h1=>?_,?_,?_,hs,hnx,fr',v,w,?_,?_,hv,hw,hvw⟩
    ·have hne:∀k:Nat,27≤k→(k=t)=False:=fun k hk=>by simp;omega
     simp +contextual only[go_sem,↓reduceIte,hne]
     exact hold t h1
    all_goals simp +contextual only[go_sem,↓reduceIte,q27,q28,q168]
 ·have hie:i=n:=by omega
  subst hie
  simp (maxSteps:=2000000) +contextual only[go_sem,↓reduceIte,r9_l0,q168,q169,nat_lt_dec,Nat.lt_irrefl]
  refine hk _ _ v w (fun t h1=>?_) ?_ ?_ hv hw hs hnx fr'
  ·have hne:∀k:Nat,27≤k→(k=t)=False:=fun k hk=>by simp;omega
   simp +contextual only[go_sem,↓reduceIte,hne]
   exact hold t h1
  all_goals simp +contextual only[go_sem,↓reduceIte,q27,q28]
theorem ixa_nI {L:List Nat}{i:Nat}(h:i<L.length):ixRA 1 (encS true (ints (nIs L))) (.int .i64 (i:Int))=some (.fp [.int .i64 ((L[i]:Nat):Int)] 0):=by
 rw[ixa_intV (by rw[nIs_len];exact h)]
 simp[nIs]
theorem wrap_sub {a b:Nat}(h:b≤a)(ha:a<2^62):IntKind.i64.wrap ((a:Int)-(b:Int))=((a-b:Nat):Int):=by
 rw[wrap_i64] <;> omega
theorem l9b {β:Type}{fin:Fl→β}{ks:List K}{Post:β→Prop}{L:List Nat}{sp:Nat}(hn:L.length≤2^20)(hb:∀x∈L,x<2^20)(hL:∀i (h:i+1<L.length),L[i]≤L[i+1]∧sp≤L[i+1]-L[i])
  {e:Env}{s:St}(g17:Env.get e 17=encS true (ints (nIs L)))(g32:Env.get e 32=.int .i64 (sp:Nat))(g34:Env.get e 34=.int .i64 (1:Nat))(fr:Fr s)
  (hk:∀e' s',(∀t:Nat,t<34→Env.get e' t=Env.get e t)→(∀j,s'.get j=s.get j)→s.next≤s'.next→Fr s'→Post (goN U fin ks e' s')) :
  Post (goL U fin (.bk 2::ks) r9_l1 e s):=by
 refine loop_ex (σ:=Nat) (fun i=>L.length-i) (fun i e' s'=>1≤i∧(∀t:Nat,t<34→Env.get e' t=Env.get e t)∧Env.get e' 34=.int .i64 (i:Nat)∧(∀j,s'.get j=s.get j)∧s.next≤s'.next∧Fr s') 1 ?_
  ⟨Nat.le_refl _,fun _ _=>rfl,g34,fun _=>rfl,Nat.le_refl _,fr⟩
 rintro Lp i e' s' ⟨hi,hold,q34,hs,hnx,fr'⟩ IH
 have q17:=(hold 17 (by omega)).trans g17
 have q32:=(hold 32 (by omega)).trans g32
 have hl:=lenL_encS true (ints (nIs L))
 rw[ints_len,nIs_len] at hl
 have hne34:∀t:Nat,t<34→∀k:Nat,34≤k→(k=t)=False:=fun t h1 k hk=>by simp;omega
 by_cases hd:i<L.length
 ·obtain⟨j,rfl⟩:∃j,i=j+1:=⟨i-1,by omega⟩
  have hwr:=wrap_succ hd (by omega)
  have hx:=ixa_nI hd
  have hx':=ixa_nI (L:=L) (i:=j) (by omega)
  obtain⟨h1,h2⟩:=hL j hd
  have b1:=hb _ (List.getElem_mem hd)
  have w1:IntKind.i64.wrap (((j+1:Nat):Int)-1)=((j:Nat):Int):=by
   have:=wrap_sub (a:=j+1) (b:=1) (by omega) (by omega)
   rw[Nat.add_sub_cancel] at this
   exact this
  have w2:=wrap_sub h1 (show L[j+1]<2^62 by omega)
  have hc:decide (((L[j+1]-L[j]:Nat):Int)<((sp:Nat):Int))=false:=by rw[nat_lt_dec];simp;omega
  simp (maxSteps:=2000000) +contextual only[go_sem,↓reduceIte,r9_l1,q17,q32,q34,hl,nat_lt_dec,hd,hx,hx',w1,w2,hc,hwr]
  refine IH (j+1+1) _ _ (by omega) ⟨by omega,fun t h1=>?_,?_,fun k=>by rw[upto_get];exact hs k,by rw[upto_next];omega,fr'.upto (by omega)⟩
  ·simp +contextual only[go_sem,↓reduceIte,hne34 t h1]
   exact hold t h1
  ·simp +contextual only[go_sem,↓reduceIte]
 ·have hde:decide ((i:Int)<(L.length:Int))=false:=by rw[nat_lt_dec];simp;omega
  simp (maxSteps:=2000000) +contextual only[go_sem,↓reduceIte,r9_l1,q17,q34,hl,hde]
  refine hk _ _ (fun t h1=>?_) hs hnx fr'
  simp +contextual only[go_sem,↓reduceIte,hne34 t h1]
  exact hold t h1
theorem tmL_get {n:Nat}{p:Nat→Bool}:(∀x∈tmL n p,x<n∧p x=true)∧(tmL n p).Pairwise (·<·):=by
 unfold tmL
 refine⟨fun x hx=>⟨List.mem_range.1 (List.mem_filter.1 hx).1,(List.mem_filter.1 hx).2⟩,?_⟩
 exact List.Pairwise.filter _ List.pairwise_lt_range
theorem times_nI (A:Fa)(l:List Int):(runF A l l.length 0 0).1=nIs (tmL l.length (fireAt A l)):=by
 rw[times_eq];rfl
theorem k117' (args:List AV)(s:St):callK U (calV U 117 args) 117 args s=cal U 117 args s:=(callK_eq U 117 args s).symm
theorem SlI.isB_t {s:St}{N:Nat}{L:List Nat}{v:AV}(h:SlI s N L v){j:Nat}(hj:isB v j):j<s.next∧s.get j=some (.cells (nats L) 3 false 0 0):=by
 rcases h with⟨rfl,_⟩|⟨b,rfl,h2,h3,h4⟩
 ·exact absurd hj (isB_nils j)
 ·rw[isB_sl] at hj;subst hj;exact⟨h4,h2⟩
structure SpI (s:St)(b5 b6 sb n:Nat)(z:List Bool×List Nat)(lv:AV):Prop where
 g5:s.get b5=some (.cells [.sl sb 0 n (some n) 1] 43 false 0 0)
 gs:s.get sb=some (.cells (bools z.1) 4 false 0 0)
 g6:s.get b6=some (.cells [lv] 40 false 0 0)
 gl:SlI s 0 z.2 lv
 lt:b5<s.next∧b6<s.next∧sb<s.next
 len:z.1.length=n
 cnt:z.2.length+z.1.count false≤n
theorem bools_getD {l:List Bool}{i:Nat}(h:i<l.length):(bools l)[i]? = some (.bool (l.getD i false)):=by
 rw[bools,List.getElem?_map,List.getElem?_eq_getElem h,List.getD_eq_getElem?_getD,List.getElem?_eq_getElem h]
 rfl
theorem count_set {l:List Bool}{q:Nat}(hq:q<l.length)(h:l.getD q false=false):(l.set q true).count false+1=l.count false:=by
 rw[List.getD_eq_getElem?_getD,List.getElem?_eq_getElem hq] at h
 simp only[Option.getD_some] at h
 rw[List.count_set hq,h]
 have:0<l.count false:=List.count_pos_iff.2 (h ▸ List.getElem_mem hq)
 simp
 omega
theorem c117 {s:St}{b5 b6 sb n q:Nat}{z:List Bool×List Nat}{lv:AV}(h:SpI s b5 b6 sb n z lv)(hq:q<n)(hn:n≤2^20)(fr:Fr s) :
  ∃v s' lv',cal U 117 [.int .i64 (q:Int),.ptr b5 0,.ptr b6 0] s=some (v,s')∧SpI s' b5 b6 sb n (putL z q) lv'∧(∀j,j<s.next→j≠sb→j≠b6→¬isB lv j→s'.get j=s.get j)∧s.next≤s'.next∧(∀j,isB lv' j→isB lv j∨s.next≤j)∧Fr s':=by
 suffices hgo:∃x lv',go U (finB U []) [] r117 (bindArgs 0 [.int .i64 (q:Int),.ptr b5 0,.ptr b6 0] .nil) s=some x∧SpI x.2 b5 b6 sb n (putL z q) lv'∧(∀j,j<s.next→j≠sb→j≠b6→¬isB lv j→x.2.get j=s.get j)∧s.next≤x.2.next∧(∀j,isB lv' j→isB lv j∨s.next≤j)∧Fr x.2 by
  obtain⟨x,lv',h1,h2⟩:=hgo
  exact⟨x.1,x.2,lv',kept_go k117 (by kernel_rfl) h1,h2⟩
 have h0:=h
 obtain⟨g5,gs,g6,gl,⟨l1,l2,l3⟩,len,cnt⟩:=h
 have hql:q<z.1.length:=by omega
 have o1:=bools_getD hql
 unfold putL
 cases hb:z.1.getD q false with
 |true =>
  rw[hb] at o1
  simp (maxSteps:=2000000) +contextual only[go_sem,↓reduceIte,r117,g5,gs,o1,hq,Nat.mul_one,Nat.zero_add,cond_true]
  exact⟨_,lv,rfl,h0,fun j _ _ _ _=>rfl,Nat.le_refl _,fun j hj=>.inl hj,fr⟩
 |false =>
  rw[hb] at o1
  have y1:=bools_lay (l:=z.1) (i:=q) true hql
  have n1:(sb=b5)=False:=eq_false (blk_ne gs g5 (by decide))
  have n2:(sb=b6)=False:=eq_false (blk_ne gs g6 (by decide))
  have n3:(b6=b5)=False:=eq_false (blk_ne g6 g5 (by decide))
  have n4:(b6=sb)=False:=eq_false (blk_ne g6 gs (by decide))
  have n5:(b5=b6)=False:=eq_false (blk_ne g5 g6 (by decide))
  have f1:∀q,(s.next+q=b6)=False:=fun q=>by simp;omega
  have f2:∀q,(s.next=b6)=False:=fun q=>by simp;omega
  have hlA:=gl.lenA
  have hcs:=count_set hql hb
  have hzl:z.2.length<n:=by omega
  have hb1:(z.2.length+1)*8≤1099511627776:=by omega
  have hb2:z.2.length+1≤1099511627776:=by omega
  simp (maxSteps:=2000000) +contextual only[go_sem,↓reduceIte,r117,g5,gs,g6,o1,hq,y1,n1,n2,n3,n4,n5,f2,Nat.mul_one,Nat.one_mul,Nat.zero_add,cond_false,appK_some,Nat.reducePow,hlA,hb1,hb2]
  obtain⟨S,hS⟩:∃S,S=(s.put sb (.cells (bools (z.1.set q true)) 4 false 0 0)).new (.cells [.int .i64 (q:Int)] 3 false 0 0):=⟨_,rfl⟩
  rw[←hS]
  have hSn:S.next=s.next+1:=by rw[hS,next_new,next_put]
  have kS:∀j,j<s.next→j≠sb→S.get j=s.get j:=fun j h1 h2=>by rw[hS,get_new,next_put,if_neg (by omega),get_put,if_neg h2.symm]
  have kSb:S.get sb=some (.cells (bools (z.1.set q true)) 4 false 0 0):=by rw[hS,get_new,next_put,if_neg (by omega),get_put,if_pos rfl]
  have frS:Fr S:=by rw[hS];exact (fr.put l3 _).new _
  have nl:∀j,isB lv j→j≠sb∧j≠b6∧j≠b5:=fun j hj=>by
   have h3:=gl.isB_t hj
   exact⟨blk_ne h3.2 gs (by decide),blk_ne h3.2 g6 (by decide),blk_ne h3.2 g5 (by decide)⟩
  have gl2:SlI S 0 z.2 lv:=gl.keep (by omega) fun j h1 _ h3=>kS j h1 (nl j h3).1
  obtain⟨s4,d1,d2,d3,d4,d5⟩:=gl2.app (by omega) q
  rw[d1]
  have u6:s4.get b6=some (.cells [lv] 40 false 0 0):=(d4 b6 (by omega) fun h=>(nl _ h).2.1 rfl).trans ((kS b6 l2 (blk_ne g6 gs (by decide))).trans g6)
  simp (maxSteps:=2000000) +contextual only[go_sem,↓reduceIte,u6]
  have e6:s4.next≠b6:=by omega
  refine⟨_,.sl S.next 0 (z.2.length+1) none 1,rfl,⟨?_,?_,?_,d3.keep (by simp only[next_put];omega) fun j h1 _ h3=>?_,by simp only[next_put];omega,by simp only[List.length_set];exact len,by simp only[List.length_append,List.length_singleton];omega⟩,fun j h1 h2 h3 h4=>?_,by simp only[next_put];omega,fun j hj=>?_,?_⟩
  ·rw[get_put,if_neg (blk_ne g6 g5 (by decide)),d4 b5 (by omega) fun h=>(nl _ h).2.2 rfl,kS b5 l1 (blk_ne g5 gs (by decide))];exact g5
  ·rw[get_put,if_neg (blk_ne g6 gs (by decide)),d4 sb (by omega) fun h=>(nl _ h).1 rfl];exact kSb
  ·rw[get_put,if_pos rfl]
  ·rw[isB_sl] at h3;subst h3
   rw[get_put,if_neg (by omega)]
  ·rw[get_put,if_neg (fun e=>h3 e.symm),d4 j (by omega) h4,kS j h1 h2]
  ·rw[isB_sl] at hj;right;omega
  ·exact (d5 frS).put (by omega) _
theorem SpI.keep {s s':St}{b5 b6 sb n:Nat}{z:List Bool×List Nat}{lv:AV}(h:SpI s b5 b6 sb n z lv)(hn:s.next≤s'.next)(hg:∀j,j<s.next→j=b5∨j=b6∨j=sb∨isB lv j→s'.get j=s.get j):SpI s' b5 b6 sb n z lv:=by
 obtain⟨g5,gs,g6,gl,⟨l1,l2,l3⟩,len,cnt⟩:=h
 exact⟨(hg _ l1 (by simp)).trans g5,(hg _ l3 (by simp)).trans gs,(hg _ l2 (by simp)).trans g6,gl.keep hn fun j h1 _ h3=>hg j h1 (by simp[h3]),by omega,len,cnt⟩
theorem c118 {a:Auto}(ha:a.ok){s:St}{bA b7 b5 b6 sb c x:Nat}{z:List Bool×List Nat}{lv:AV}(h:SpI s b5 b6 sb a.fa.n z lv)(hc:c / a.fa.n<a.next.length)(hx:x<2^a.lines.toNat)(hA:bA<s.next)(h7:b7<s.next)
  (gA:s.get bA=some (.cells [.int .i64 a.lines,encS a.nNl (a.next.map encRow),encS a.fNl (a.fires.map encFRow)] 69 false 0 0))(g7:s.get b7=some (.cells [.fn (.func 117) [] [.ptr b5 0,.ptr b6 0]] 189 false 0 0))(fr:Fr s) :
  ∃s' lv',cal U 118 [.agg (pcell a.fa.n c),.int .i64 (x:Int),.ptr bA 0,.ptr b7 0] s=some (.bool true,s')∧SpI s' b5 b6 sb a.fa.n (spN a.fa c x z) lv'∧(∀j,j<s.next→j≠sb→j≠b6→¬isB lv j→s'.get j=s.get j)∧s.next≤s'.next∧(∀j,isB lv' j→isB lv j∨s.next≤j)∧Fr s':=by
 suffices hgo:∃s' lv',go U (finB U [.tmp 6]) [] r118 (bindArgs 0 [.agg (pcell a.fa.n c),.int .i64 (x:Int),.ptr bA 0,.ptr b7 0] .nil) s=some (.bool true,s')∧SpI s' b5 b6 sb a.fa.n (spN a.fa c x z) lv'∧(∀j,j<s.next→j≠sb→j≠b6→¬isB lv j→s'.get j=s.get j)∧s.next≤s'.next∧(∀j,isB lv' j→isB lv j∨s.next≤j)∧Fr s' by
  obtain⟨s',lv',h1,h2⟩:=hgo
  exact⟨s',lv',kept_go k118 (by kernel_rfl) h1,h2⟩
 have hq':c / a.fa.n<a.fires.length:=by rw[ha.fl];exact hc
 have r2:=ixa_rowB (nl:=a.fNl) hq'
 have n2:=ha.frAt hc hx
 have r1:=ixa_rowI (nl:=a.nNl) hc
 have n1:=ha.nxAt hc hx
 have hlt:=ha.faok.lt _ _ hc hx
 have hfew:=ha.few
 have f1:(s.next=bA)=False:=by simp;omega
 have f7:(s.next=b7)=False:=by simp;omega
 have hfk:=fr.at
 have hnn:a.fa.n=a.next.length:=rfl
 unfold spN
 cases hf:a.fa.fr (c / a.fa.n) x with
 |false =>
  rw[hf] at n2
  unfold pcell
  simp (maxSteps:=2000000) +contextual only[go_sem,↓reduceIte,r118,gA,r2,n2,f1,cond_false]
  refine⟨_,lv,rfl,h.keep (by rw[next_new];omega) fun j h1 _=>by rw[get_new,if_neg (by omega)],fun j h1 _ _ _=>by rw[get_new,if_neg (by omega)],by rw[next_new];omega,fun j hj=>.inl hj,fr.new _⟩
 |true =>
  rw[hf] at n2
  obtain⟨S,hS⟩:∃S,S=(s.new (.cells [.int .i64 ((c / a.fa.n:Nat):Int),.int .i64 ((c%a.fa.n:Nat):Int)] 186 false 0 0)).upto (s.next+12):=⟨_,rfl⟩
  have hSn:S.next=s.next+12:=by rw[hS,upto_next]
  have kS:∀j,j<s.next→S.get j=s.get j:=fun j h1=>by rw[hS,upto_get,get_new,if_neg (by omega)]
  have frS:Fr S:=by
   rw[hS]
   repeat first|exact fr|apply Fr.new|apply Fr.put|apply Fr.upto
   all_goals try simp only[next_put,next_new,upto_next]
   all_goals omega
  have hI:SpI S b5 b6 sb a.fa.n z lv:=h.keep (by omega) fun j h1 _=>kS j h1
  obtain⟨v,s4,lv4,h117,hI4,hs4,hn4,hB4,fr4⟩:=c117 hI (q:=a.fa.nx (c / a.fa.n) x) hlt (by omega) frS
  rw[hS] at h117
  unfold pcell
  simp (maxSteps:=2000000) +contextual only[go_sem,↓reduceIte,r118,gA,g7,r1,r2,n1,n2,f1,f7,cond_true,hfk,Nat.add_assoc,k117',h117]
  refine⟨_,lv4,rfl,hI4,fun j h1 h2 h3 h4=>by rw[hs4 j (by omega) h2 h3 h4,kS j h1],by omega,fun j hj=>?_,fr4⟩
  rcases hB4 j hj with h|h
  ·exact .inl h
  ·right;omega
theorem yld118 {a:Auto}(ha:a.ok){bA b7 b5 b6 sb B0:Nat}(hA:bA<B0)(h7:b7<B0)(h5:b5<B0) :
  Yld (.fn (.func 118) [] [.ptr bA 0,.ptr b7 0]) a.fa.n B0 ((List Bool×List Nat)×AV) (fun g s=>SpI s b5 b6 sb a.fa.n g.1 g.2∧(bA<s.next∧s.get bA=some (.cells [.int .i64 a.lines,encS a.nNl (a.next.map encRow),encS a.fNl (a.fires.map encFRow)] 69 false 0 0))∧(b7<s.next∧s.get b7=some (.cells [.fn (.func 117) [] [.ptr b5 0,.ptr b6 0]] 189 false 0 0)))
   (fun g j=>j=sb∨j=b6∨isB g.2 j) (fun c x=>c / a.fa.n<a.next.length∧x<2^a.lines.toNat) (fun _ _=>true) (fun g c x g'=>g'.1=spN a.fa c x g.1):=by
 refine⟨fun g c x s hd hci hf=>?_,fun g s s' hci hn hs=>?_,fun g s hci j hj=>?_⟩
 ·obtain⟨hI,⟨l1,gA⟩,l2,g7⟩:=hci
  obtain⟨s',lv',h1,h2,h3,h4,h5,h6⟩:=c118 ha hI hd.1 hd.2 l1 l2 gA g7 hf
  refine⟨(spN a.fa c x g.1,lv'),s',?_,rfl,⟨h2,⟨by omega,(h3 bA l1 (blk_ne gA hI.gs (by decide)) (blk_ne gA hI.g6 (by decide)) fun h=>blk_ne gA (hI.gl.isB_t h).2 (by decide) rfl).trans gA⟩,by omega,(h3 b7 l2 (blk_ne g7 hI.gs (by decide)) (blk_ne g7 hI.g6 (by decide)) fun h=>blk_ne g7 (hI.gl.isB_t h).2 (by decide) rfl).trans g7⟩,fun j hj=>?_,fun j hj hn=>h3 j hj (fun e=>hn (.inl e)) (fun e=>hn (.inr (.inl e))) fun e=>hn (.inr (.inr e)),h4,h6⟩
  ·rw[calv_fn,←callK_eq]
   exact h1
  ·rcases hj with hj|hj|hj
   ·exact .inl (.inl hj)
   ·exact .inl (.inr (.inl hj))
   ·rcases h5 j hj with h|h
    ·exact .inl (.inr (.inr h))
    ·exact .inr h
 ·obtain⟨hI,⟨l1,gA⟩,l2,g7⟩:=hci
  refine⟨hI.keep hn fun j h1 h2=>hs j h1 ?_,⟨by omega,(hs bA l1 (.inr hA)).trans gA⟩,by omega,(hs b7 l2 (.inr h7)).trans g7⟩
  rcases h2 with h|h|h|h
  ·exact .inr (by omega)
  ·exact .inl (.inr (.inl h))
  ·exact .inl (.inl h)
  ·exact .inl (.inr (.inr h))
 ·obtain⟨hI,_⟩:=hci
  obtain⟨l1,l2,l3⟩:=hI.lt
  rcases hj with h|h|h
  ·omega
  ·omega
  ·exact (hI.gl.isB_t h).1
theorem l48a {ks:List K}{Post:Option AV→Prop}{a:Auto}(ha:a.ok){bA b7 b5 b6 sb q d:Nat}{z:List Bool×List Nat}{lv:AV}(hq:q<a.next.length)
  {e:Env}{s:St}(g1:Env.get e 1=.ptr bA 0)(g7:Env.get e 7=.ptr b7 0)(g8:Env.get e 8=.int .i64 (d:Nat))(g11:Env.get e 11=.int .i64 (q:Nat))(g44:Env.get e 44=encS (a.fires[q]'(by rw[ha.fl];exact hq)).1 (bools (a.fires[q]'(by rw[ha.fl];exact hq)).2))(g45:Env.get e 45=.int .i64 ((2^a.lines.toNat:Nat):Int))(g46:Env.get e 46=.int .i64 (0:Nat))
  (hI:SpI s b5 b6 sb a.fa.n z lv)(uA:s.get bA=some (.cells [.int .i64 a.lines,encS a.nNl (a.next.map encRow),encS a.fNl (a.fires.map encFRow)] 69 false 0 0))(u7:s.get b7=some (.cells [.fn (.func 117) [] [.ptr b5 0,.ptr b6 0]] 189 false 0 0))(lA:bA<s.next)(l7:b7<s.next)(fr:Fr s)
  (hret:prow a.fa q (2^a.lines.toNat) 0 z=none→Post (some (.tup [.int .i64 (d:Nat),.int .i64 0])))
  (hk:∀z',prow a.fa q (2^a.lines.toNat) 0 z=some z'→∀e' s' lv',(∀t:Nat,t<12∨13<t∧t<46→Env.get e' t=Env.get e t)→SpI s' b5 b6 sb a.fa.n z' lv'→(∀j,j<s.next→j≠sb→j≠b6→¬isB lv j→s'.get j=s.get j)→s.next≤s'.next→(∀j,isB lv' j→isB lv j∨s.next≤j)→Fr s'→Post (goN U (finP U [.tmp 2,.tmp 3]) ks e' s')) :
  Post (goL U (finP U [.tmp 2,.tmp 3]) (.bk 4::ks) r48_l0 e s):=by
 have hm16:=ha.m16
 have hfew:=ha.few
 have hnn:a.fa.n=a.next.length:=rfl
 generalize hR:prow a.fa q (2^a.lines.toNat) 0 z=R at *
 refine loop_ex (σ:=Nat) (fun x=>2^a.lines.toNat-x) (fun x e' s'=>x≤2^a.lines.toNat∧(∀t:Nat,t<12∨13<t∧t<46→Env.get e' t=Env.get e t)∧Env.get e' 46=.int .i64 (x:Nat)∧(∀j,j<s.next→j≠sb→j≠b6→¬isB lv j→s'.get j=s.get j)∧s.next≤s'.next∧Fr s' ∧
   ∃z' lv',SpI s' b5 b6 sb a.fa.n z' lv'∧prow a.fa q (2^a.lines.toNat-x) x z'=R∧(∀j,isB lv' j→isB lv j∨s.next≤j)) 0 ?_
  ⟨Nat.zero_le _,fun _ _=>rfl,g46,fun _ _ _ _ _=>rfl,Nat.le_refl _,fr,z,lv,hI,hR,fun j hj=>.inl hj⟩
 rintro Lp x e' s' ⟨hx0,hold,q46,hs,hnx,fr',z',lv',hI',hrun,hB⟩ IH
 have q1:=(hold 1 (by omega)).trans g1
 have q7:=(hold 7 (by omega)).trans g7
 have q8:=(hold 8 (by omega)).trans g8
 have q11:=(hold 11 (by omega)).trans g11
 have q44:=(hold 44 (by omega)).trans g44
 have q45:=(hold 45 (by omega)).trans g45
 have kA:=(hs bA lA (blk_ne uA hI.gs (by decide)) (blk_ne uA hI.g6 (by decide)) fun h=>blk_ne uA (hI.gl.isB_t h).2 (by decide) rfl).trans uA
 have k7:=(hs b7 l7 (blk_ne u7 hI.gs (by decide)) (blk_ne u7 hI.g6 (by decide)) fun h=>blk_ne u7 (hI.gl.isB_t h).2 (by decide) rfl).trans u7
 by_cases hd:x<2^a.lines.toNat
 ·have hw:=wrap_succ hd (by omega)
  have n2:=ha.frAt hq hd
  have r1:=ixa_rowI (nl:=a.nNl) hq
  have n1:=ha.nxAt hq hd
  rw[show 2^a.lines.toNat-x=(2^a.lines.toNat-(x+1))+1 by omega,prow] at hrun
  cases hf:a.fa.fr q x with
  |true =>
   rw[hf] at n2
   rw[hf,cond_true] at hrun
   simp (maxSteps:=2000000) +contextual only[go_sem,↓reduceIte,r48_l0,q8,q44,q45,q46,nat_lt_dec,hd,n2]
   exact hret hrun.symm
  |false =>
   rw[hf] at n2
   rw[hf,cond_false] at hrun
   have hfk:=fr'.at
   obtain⟨S,hS⟩:∃S,S=s'.upto (s'.next+10):=⟨_,rfl⟩
   have hSn:S.next=s'.next+10:=by rw[hS,upto_next]
   have kS:∀j,S.get j=s'.get j:=fun j=>by rw[hS,upto_get]
   have frS:Fr S:=by rw[hS];exact fr'.upto (by omega)
   have hlt:=ha.faok.lt q x hq hd
   obtain⟨v,s4,lv4,h117,hI4,hs4,hn4,hB4,fr4⟩:=c117 (hI'.keep (s':=S) (by omega) fun j _ _=>kS j) (q:=a.fa.nx q x) hlt (by omega) frS
   rw[hS] at h117
   simp (maxSteps:=2000000) +contextual only[go_sem,↓reduceIte,r48_l0,q1,q7,q8,q11,q44,q45,q46,nat_lt_dec,hd,n2,kA,k7,r1,n1,hfk,k117',h117,hw]
   refine IH (x+1) _ _ (by omega) ⟨by omega,fun t ht=>?_,?_,fun j h1 h2 h3 h4=>?_,by omega,fr4,putL z' (a.fa.nx q x),lv4,hI4,hrun,fun j hj=>?_⟩
   ·have hne:∀k:Nat,46≤k→(k=t)=False:=fun k hk=>by simp;omega
    have h12:(12=t)=False:=by simp;omega
    have h13:(13=t)=False:=by simp;omega
    simp +contextual only[go_sem,↓reduceIte,hne,h12,h13]
    exact hold t ht
   ·simp +contextual only[go_sem,↓reduceIte]
   ·have hnb:¬isB lv' j:=fun h=>by rcases hB j h with h|h;exact h4 h;omega
    rw[hs4 j (by omega) h2 h3 hnb,kS j,hs j h1 h2 h3 h4]
   ·rcases hB4 j hj with h|h
    ·exact hB j h
    ·right;omega
 ·have hxe:x=2^a.lines.toNat:=by omega
  subst hxe
  rw[Nat.sub_self,prow] at hrun
  simp (maxSteps:=2000000) +contextual only[go_sem,↓reduceIte,r48_l0,q45,q46,nat_lt_dec,Nat.lt_irrefl]
  refine hk z' hrun.symm _ _ lv' (fun t ht=>?_) hI' hs hnx hB fr'
  have hne:∀k:Nat,46≤k→(k=t)=False:=fun k hk=>by simp;omega
  simp +contextual only[go_sem,↓reduceIte,hne]
  exact hold t ht
theorem putL_sum {z:List Bool×List Nat}{q:Nat}(hq:q<z.1.length):(putL z q).2.length+(putL z q).1.count false=z.2.length+z.1.count false∧(putL z q).1.length=z.1.length:=by
 unfold putL
 cases h:z.1.getD q false with
 |true=>exact⟨rfl,rfl⟩
 |false =>
  have:=count_set hq h
  simp only[cond_false,List.length_append,List.length_singleton,List.length_set]
  exact⟨by omega,trivial⟩
theorem prow_sum {A:Fa}(hA:A.ok){q:Nat}(hq:q<A.n):∀(r x:Nat) (z z':List Bool×List Nat),z.1.length=A.n→x+r≤A.m→prow A q r x z=some z'→z'.2.length+z'.1.count false=z.2.length+z.1.count false∧z'.1.length=A.n
 |0,x,z,z',hl,_,h=>by
  rw[prow] at h
  cases h
  exact⟨rfl,hl⟩
 |r+1,x,z,z',hl,hx,h=>by
  rw[prow] at h
  cases hf:A.fr q x with
  |true=>rw[hf] at h;cases h
  |false =>
   rw[hf,cond_false] at h
   obtain⟨h1,h2⟩:=putL_sum (z:=z) (q:=A.nx q x) (by rw[hl];exact hA.lt q x hq (by omega))
   obtain⟨h3,h4⟩:=prow_sum hA hq r (x+1) _ z' (by omega) (by omega) h
   exact⟨by omega,h4⟩
theorem pround_sum {A:Fa}(hA:A.ok):∀(l:List Nat) (z z':List Bool×List Nat),(∀q∈l,q<A.n)→z.1.length=A.n→pround A l z=some z'→z'.2.length+z'.1.count false=z.2.length+z.1.count false∧z'.1.length=A.n
 |[],z,z',_,hl,h=>by
  rw[pround] at h
  cases h
  exact⟨rfl,hl⟩
 |q::l,z,z',hq,hl,h=>by
  rw[pround] at h
  cases hp:prow A q A.m 0 z with
  |none=>rw[hp] at h;cases h
  |some z1 =>
   rw[hp] at h
   obtain⟨h1,h2⟩:=prow_sum hA (hq q (List.mem_cons_self ..)) A.m 0 z z1 hl (by omega) hp
   obtain⟨h3,h4⟩:=pround_sum hA l z1 z' (fun a ha=>hq a (List.mem_cons_of_mem _ ha)) h2 h
   exact⟨by omega,h4⟩
theorem l48b {ks:List K}{Post:Option AV→Prop}{a:Auto}(ha:a.ok){bA b7 b5 b6 sb d nb:Nat}{z:List Bool×List Nat}{lv:AV}{l:List Nat}(hl:∀q∈l,q<a.next.length)(hll:l.length≤2^20)
  {e:Env}{s:St}(g1:Env.get e 1=.ptr bA 0)(g7:Env.get e 7=.ptr b7 0)(g8:Env.get e 8=.int .i64 (d:Nat))(g34:Env.get e 34=.sl nb 0 l.length none 1)(g35:Env.get e 35=.int .i64 (l.length:Nat))(g36:Env.get e 36=.int .i64 (0:Nat))
  (hI:SpI s b5 b6 sb a.fa.n z lv)(unb:s.get nb=some (.cells (nats l) 3 false 0 0))(nlv:¬isB lv nb)(lnb:nb<s.next)(uA:s.get bA=some (.cells [.int .i64 a.lines,encS a.nNl (a.next.map encRow),encS a.fNl (a.fires.map encFRow)] 69 false 0 0))(u7:s.get b7=some (.cells [.fn (.func 117) [] [.ptr b5 0,.ptr b6 0]] 189 false 0 0))(lA:bA<s.next)(l7:b7<s.next)(fr:Fr s)
  (hret:pround a.fa l z=none→Post (some (.tup [.int .i64 (d:Nat),.int .i64 0])))
  (hk:∀z',pround a.fa l z=some z'→∀e' s' lv',(∀t:Nat,t<11→Env.get e' t=Env.get e t)→SpI s' b5 b6 sb a.fa.n z' lv'→(∀j,j<s.next→j≠sb→j≠b6→¬isB lv j→s'.get j=s.get j)→s.next≤s'.next→Fr s'→Post (goN U (finP U [.tmp 2,.tmp 3]) ks e' s')) :
  Post (goL U (finP U [.tmp 2,.tmp 3]) (.bk 2::ks) r48_l1 e s):=by
 have hm16:=ha.m16
 generalize hR:pround a.fa l z=R at *
 refine loop_ex (σ:=Nat) (fun i=>l.length-i) (fun i e' s'=>i≤l.length∧(∀t:Nat,t<11∨t=34∨t=35→Env.get e' t=Env.get e t)∧Env.get e' 36=.int .i64 (i:Nat)∧(∀j,j<s.next→j≠sb→j≠b6→¬isB lv j→s'.get j=s.get j)∧s.next≤s'.next∧Fr s' ∧
   ∃z' lv',SpI s' b5 b6 sb a.fa.n z' lv'∧pround a.fa (l.drop i) z'=R∧(∀j,isB lv' j→isB lv j∨s.next≤j)) 0 ?_
  ⟨Nat.zero_le _,fun _ _=>rfl,g36,fun _ _ _ _ _=>rfl,Nat.le_refl _,fr,z,lv,hI,hR,fun j hj=>.inl hj⟩
 rintro Lp i e' s' ⟨hi,hold,q36,hs,hnx,fr',z',lv',hI',hrun,hB⟩ IH
 have q1:=(hold 1 (by omega)).trans g1
 have q7:=(hold 7 (by omega)).trans g7
 have q8:=(hold 8 (by omega)).trans g8
 have q34:=(hold 34 (by omega)).trans g34
 have q35:=(hold 35 (by omega)).trans g35
 have kA:=(hs bA lA (blk_ne uA hI.gs (by decide)) (blk_ne uA hI.g6 (by decide)) fun h=>blk_ne uA (hI.gl.isB_t h).2 (by decide) rfl).trans uA
 have k7:=(hs b7 l7 (blk_ne u7 hI.gs (by decide)) (blk_ne u7 hI.g6 (by decide)) fun h=>blk_ne u7 (hI.gl.isB_t h).2 (by decide) rfl).trans u7
 have kn:=(hs nb lnb (blk_ne unb hI.gs (by decide)) (blk_ne unb hI.g6 (by decide)) nlv).trans unb
 by_cases hd:i<l.length
 ·have hw:=wrap_succ hd (by omega)
  have o1:=nats_get (l:=l) (i:=i) hd
  rw[gt_get hd] at o1
  have hq:=hl _ (List.getElem_mem hd)
  rw[List.drop_eq_getElem_cons hd,pround] at hrun
  generalize l[i]=q at *
  have hq':q<a.fires.length:=by rw[ha.fl];exact hq
  have r2:=ixa_rowB (nl:=a.fNl) hq'
  have hlen:=ha.frow q hq'
  have hle:=lenL_encS a.fires[q].1 (bools a.fires[q].2)
  rw[bools_len,hlen] at hle
  simp (maxSteps:=2000000) +contextual only[go_sem,↓reduceIte,r48_l1,q1,q34,q35,q36,nat_lt_dec,hd,kn,o1,kA,r2,hle,Nat.mul_one,Nat.zero_add]
  have hm:a.fa.m=2^a.lines.toNat:=rfl
  rw[hm] at hrun
  refine l48a (Post:=Post) ha (q:=q) (d:=d) (bA:=bA) (b7:=b7) (b5:=b5) (b6:=b6) (sb:=sb) (z:=z') (lv:=lv') hq ?_ ?_ ?_ ?_ ?_ ?_ ?_ hI' kA k7 (by omega) (by omega) fr' ?_ ?_
  case refine_8 =>
   intro hnone
   rw[hnone] at hrun
   exact hret hrun.symm
  case refine_9 =>
   intro z2 hz2 e2 s2 lv2 h2a hI2 hs2 hn2 hB2 fr2
   rw[hz2] at hrun
   simp only at hrun
   have E2:∀t:Nat,t<11∨t=34∨t=35→Env.get e2 t=Env.get e' t:=fun t ht=>by
    rw[h2a t (by omega)]
    have hne:∀k:Nat,37≤k→(k=t)=False:=fun k hk=>by simp;omega
    have h11:(11=t)=False:=by simp;omega
    simp +contextual only[go_sem,↓reduceIte,hne,h11]
   have p36:Env.get e2 36=.int .i64 (i:Nat):=by
    rw[h2a 36 (by omega)]
    simp +contextual only[go_sem,↓reduceIte,q36]
   simp (maxSteps:=2000000) +contextual only[go_sem,↓reduceIte,p36,hw]
   refine IH (i+1) _ _ (by omega) ⟨by omega,fun t ht=>?_,?_,fun j h1 h2 h3 h4=>?_,by omega,fr2,z2,lv2,hI2,hrun,fun j hj=>?_⟩
   ·have hne:∀k:Nat,36≤k→(k=t)=False:=fun k hk=>by simp;omega
    simp +contextual only[go_sem,↓reduceIte,hne]
    exact (E2 t ht).trans (hold t ht)
   ·simp +contextual only[go_sem,↓reduceIte]
   ·have hnb:¬isB lv' j:=fun h=>by rcases hB j h with h|h;exact h4 h;omega
    rw[hs2 j (by omega) h2 h3 hnb,hs j h1 h2 h3 h4]
   ·rcases hB2 j hj with h|h
    ·exact hB j h
    ·right;omega
  all_goals simp +contextual only[go_sem,↓reduceIte,q1,q7,q8]
  all_goals rfl
 ·have hie:i=l.length:=by omega
  subst hie
  rw[List.drop_length,pround] at hrun
  simp (maxSteps:=2000000) +contextual only[go_sem,↓reduceIte,r48_l1,q35,q36,nat_lt_dec,Nat.lt_irrefl]
  refine hk z' hrun.symm _ _ lv' (fun t ht=>?_) hI' hs hnx fr'
  have hne:∀k:Nat,36≤k→(k=t)=False:=fun k hk=>by simp;omega
  simp +contextual only[go_sem,↓reduceIte,hne]
  exact hold t (.inl ht)
theorem Stps.map {G H:Type}{nxt:G→Nat→Nat→G→Prop}{nxt':H→Nat→Nat→H→Prop}{φ:G→H}(h:∀g c x g',nxt g c x g'→nxt' (φ g) c x (φ g')){g g':G}{l:List (Nat×Nat)}(hs:Stps nxt g l g'):Stps nxt' (φ g) l (φ g'):=by
 induction hs with
 |nil=>exact .nil _
 |snoc h1 h2 ih=>exact .snoc ih (h _ _ _ _ h2)
theorem l48c {ks:List K}{Post:Option AV→Prop}{a:Auto}(ha:a.ok){bA b7 b5 b6 sb R:Nat}{z:List Bool×List Nat}{lv:AV}
  {e:Env}{s:St}(g1:Env.get e 1=.ptr bA 0)(g6:Env.get e 6=.ptr b6 0)(g7:Env.get e 7=.ptr b7 0)(g8:Env.get e 8=.int .i64 ((1:Nat):Int))
  (hI:SpI s b5 b6 sb a.fa.n z lv)(hz:∀q∈z.2,q<a.fa.n)(hR:ploop a.fa (a.fa.n+1) 1 z=R)(uA:s.get bA=some (.cells [.int .i64 a.lines,encS a.nNl (a.next.map encRow),encS a.fNl (a.fires.map encFRow)] 69 false 0 0))(u7:s.get b7=some (.cells [.fn (.func 117) [] [.ptr b5 0,.ptr b6 0]] 189 false 0 0))(lA:bA<s.next)(l7:b7<s.next)(fr:Fr s)
  (hret:0<R→Post (some (.tup [.int .i64 (R:Nat),.int .i64 0])))
  (hk:R=0→∀e' s',Post (goN U (finP U [.tmp 2,.tmp 3]) ks e' s')) :
  Post (goL U (finP U [.tmp 2,.tmp 3]) (.bk 0::ks) r48_l2 e s):=by
 have hA:=ha.faok
 have hfew:=ha.few
 have hnn:a.fa.n=a.next.length:=rfl
 refine loop_ex (σ:=Nat) (fun f=>f) (fun f e' s'=>Env.get e' 1=.ptr bA 0∧Env.get e' 6=.ptr b6 0∧Env.get e' 7=.ptr b7 0∧s'.get bA=some (.cells [.int .i64 a.lines,encS a.nNl (a.next.map encRow),encS a.fNl (a.fires.map encFRow)] 69 false 0 0)∧s'.get b7=some (.cells [.fn (.func 117) [] [.ptr b5 0,.ptr b6 0]] 189 false 0 0)∧bA<s'.next∧b7<s'.next∧Fr s' ∧
   ∃d z' lv',Env.get e' 8=.int .i64 (d:Nat)∧0<d∧d+f≤a.fa.n+2∧SpI s' b5 b6 sb a.fa.n z' lv'∧(∀q∈z'.2,q<a.fa.n)∧ploop a.fa f d z'=R∧(z'.2≠[]→z'.1.count false+1≤f)) (a.fa.n+1) ?_
  ⟨g1,g6,g7,uA,u7,lA,l7,fr,1,z,lv,g8,by omega,by omega,hI,hz,hR,fun _=>by have:=hI.cnt;omega⟩
 clear g1 g6 g7 g8 hI hz hR uA u7 lA l7 fr z lv e s
 rintro Lp f e s ⟨g1,g6,g7,uA,u7,lA,l7,fr,d,z,lv,g8,hd0,hdf,hI,hz,hR,hf⟩ IH
 have u6:=hI.g6
 have hlA:lenRL lv=some (.int .i64 (z.2.length:Nat)):=by
  rcases hI.gl with⟨rfl,h⟩|⟨b,rfl,_⟩
  ·rw[h];rfl
  ·rfl
 cases hz2:z.2 with
 |nil =>
  rw[hz2] at hlA
  have hR0:R=0:=by
   rw[←hR]
   cases f with
   |zero=>rfl
   |succ f=>rw[ploop,hz2]
  have hd:decide (((0:Nat):Int)>0)=false:=rfl
  have hlA:lenRL lv=some (.int .i64 0):=hlA
  have hd:decide ((0:Int)>0)=false:=rfl
  simp (maxSteps:=2000000) +contextual only[go_sem,↓reduceIte,r48_l2,g6,u6,hlA,hd]
  exact hk hR0 _ _
 |cons q l =>
  have hne:z.2≠[]:=by rw[hz2];simp
  have hf1:=hf hne
  obtain⟨f,rfl⟩:∃f',f=f'+1:=⟨f-1,by omega⟩
  rw[ploop,hz2] at hR
  simp only at hR
  rw[←hz2] at hR
  have hpos:decide ((z.2.length:Int)>0)=true:=by rw[hz2];simp
  obtain⟨nb,rfl,hnb,_,lnb⟩:∃nb,lv=.sl nb 0 z.2.length none 1∧s.get nb=some (.cells (nats z.2) 3 false 0 0)∧0≤nb∧nb<s.next:=by
   rcases hI.gl with⟨_,h⟩|h
   ·exact absurd h hne
   ·exact h
  have hzl:=hI.cnt
  have hwr:IntKind.i64.wrap ((d:Int)+1)=((d+1:Nat):Int):=by rw[wrap_i64] <;> omega
  have lt6:=hI.lt
  simp (maxSteps:=2000000) +contextual only[go_sem,↓reduceIte,r48_l2,g6,u6,hlA,hpos]
  have hn6:nb≠b6:=blk_ne hnb hI.g6 (by decide)
  have kS:∀j,j≠b6→(s.put b6 (.cells [.nils] 40 false 0 0)).get j=s.get j:=fun j h=>by rw[get_put,if_neg h.symm]
  have hI2:SpI (s.put b6 (.cells [.nils] 40 false 0 0)) b5 b6 sb a.fa.n (z.1,[]) .nils:=by
   refine⟨(kS _ (blk_ne hI.g5 hI.g6 (by decide))).trans hI.g5,(kS _ (blk_ne hI.gs hI.g6 (by decide))).trans hI.gs,by rw[get_put,if_pos rfl],.inl ⟨rfl,rfl⟩,by rw[next_put];exact lt6,hI.len,by simp only[List.length_nil];omega⟩
  refine l48b (Post:=Post) ha (bA:=bA) (b7:=b7) (b5:=b5) (b6:=b6) (sb:=sb) (d:=d) (nb:=nb) (z:=(z.1,[])) (lv:=.nils) (l:=z.2) hz (by omega) ?_ ?_ ?_ ?_ ?_ ?_ hI2 ((kS nb hn6).trans hnb) (isB_nils nb) (by rw[next_put];exact lnb) ((kS bA (blk_ne uA hI.g6 (by decide))).trans uA) ((kS b7 (blk_ne u7 hI.g6 (by decide))).trans u7) (by rw[next_put];exact lA) (by rw[next_put];exact l7) (fr.put lt6.2.1 _) ?_ ?_
  case refine_7 =>
   intro hnone
   rw[hnone] at hR
   simp only at hR
   subst hR
   exact hret hd0
  case refine_8 =>
   intro z3 hz3 e3 s3 lv3 h3a hI3 hs3 hn3 fr3
   rw[hz3] at hR
   simp only at hR
   have hzs:=pround_sum hA z.2 (z.1,[]) z3 hz hI.len hz3
   have hPS:∀t∈z3.2,t<a.fa.n:=by
    rcases pround_spec hA z.2 (z.1,[]) hz hI.len with⟨m1,_⟩|⟨_,z4,m2,m3⟩
    ·rw[m1] at hz3;cases hz3
    ·rw[hz3] at m2
     cases m2
     intro t ht
     rcases (m3.lay t).1 ht with h|⟨⟨p,hp,w,hw,rfl⟩,_⟩
     ·simp at h
     ·exact hA.lt p w (hz p hp) hw
   have E3:∀t:Nat,t<9→Env.get e3 t=Env.get e t:=fun t ht=>by
    rw[h3a t (by omega)]
    have hne:∀k:Nat,9≤k→(k=t)=False:=fun k hk=>by simp;omega
    simp +contextual only[go_sem,↓reduceIte,hne]
   have p8:=(E3 8 (by omega)).trans g8
   rw[next_put] at hs3 hn3
   have vA:=(hs3 bA lA (blk_ne uA hI.gs (by decide)) (blk_ne uA hI.g6 (by decide)) (isB_nils _)).trans ((kS bA (blk_ne uA hI.g6 (by decide))).trans uA)
   have v7:=(hs3 b7 l7 (blk_ne u7 hI.gs (by decide)) (blk_ne u7 hI.g6 (by decide)) (isB_nils _)).trans ((kS b7 (blk_ne u7 hI.g6 (by decide))).trans u7)
   simp (maxSteps:=2000000) +contextual only[go_sem,↓reduceIte,p8,hwr]
   refine IH f _ _ (by omega) ⟨?_,?_,?_,vA,v7,by omega,by omega,fr3,d+1,z3,lv3,?_,by omega,by omega,hI3,hPS,hR,fun h=>?_⟩
   case refine_5 =>
    have:0<z3.2.length:=List.length_pos_iff.2 h
    simp only[List.length_nil] at hzs
    omega
   all_goals simp +contextual only[go_sem,↓reduceIte,(E3 1 (by omega)).trans g1,(E3 6 (by omega)).trans g6,(E3 7 (by omega)).trans g7]
  all_goals simp +contextual only[go_sem,↓reduceIte,g1,g7,g8]
  all_goals rfl
def spV (a:Auto):Nat:=rloop a.fa a.fa.n 1 (List.replicate a.fa.n false,rnow a.fa (prodT a a) (List.replicate a.fa.n false))
def spaceP (a:Auto):AV:=bif ckA a != 0 then .tup [.int .i64 0,.int .i64 (ckA a)] else .tup [.int .i64 (spV a:Nat),.int .i64 (br (spV a==0) 7 0)]
theorem c48 (a:Auto)(hn:a.next.length≤2^40)(hr:∀r∈a.next,r.2.length≤2^40):calV U 48 [encA a]=some (spaceP a):=by
 refine pure_go k48 (by kernel_rfl) (by simp[stills,still_encA]) ?_
 have h58:=c58 a hn hr
 unfold spaceP
 have nn:=noAgg_encS a.nNl (a.next.map encRow)
 have nf:=noAgg_encS a.fNl (a.fires.map encFRow)
 have cn:=cells_encS a.nNl (a.next.map encRow)
 have cf:=cells_encS a.fNl (a.fires.map encFRow)
 cases hc:ckA a != 0 with
 |true =>
  rw[encA_eq a] at h58 ⊢
  unfold encN encFs at h58 ⊢
  simp (maxSteps:=2000000) +contextual only[go_sem,↓reduceIte,r48,nn,nf,cn,cf,h58,hc,cond_true]
 |false =>
  have h0:ckA a=0:=by simpa using hc
  have ha:=Auto.ok_of h0
  rw[h0] at h58
  have ln:=lenL_encS a.nNl (a.next.map encRow)
  rw[List.length_map] at ln
  have hfew:=ha.few
  have m1:=fun (e:Env) (s:St) (ex:Ex) (h:Env.get e 21=.int .i64 (a.next.length:Int))=>@opA_mks43 _ ex 21 e s _ h (by omega)
  obtain⟨S,hS⟩:∃S,S=(((((((ownSt U).new (.cells [.int .i64 a.lines,encS a.nNl (a.next.map encRow),encS a.fNl (a.fires.map encFRow)] 69 false 0 0)).new (.cells (bools (List.replicate a.next.length false)) 4 false 0 0)).new (.cells [.nils] 43 false 0 0)).put 10 (.cells [.sl 9 0 a.next.length (some a.next.length) 1] 43 false 0 0)).new (.cells [.nils] 40 false 0 0)).new (.cells [.nilfn] 189 false 0 0)).put 12 (.cells [.fn (.func 117) [] [.ptr 10 0,.ptr 11 0]] 189 false 0 0):=⟨_,rfl⟩
  have hSn:S.next=13:=by rw[hS];simp +contextual only[go_sem,↓reduceIte]
  have u8:S.get 8=some (.cells [.int .i64 a.lines,encS a.nNl (a.next.map encRow),encS a.fNl (a.fires.map encFRow)] 69 false 0 0):=by rw[hS];simp +contextual only[go_sem,↓reduceIte]
  have u9:S.get 9=some (.cells (bools (List.replicate a.next.length false)) 4 false 0 0):=by rw[hS];simp +contextual only[go_sem,↓reduceIte]
  have u10:S.get 10=some (.cells [.sl 9 0 a.next.length (some a.next.length) 1] 43 false 0 0):=by rw[hS];simp +contextual only[go_sem,↓reduceIte]
  have u11:S.get 11=some (.cells [.nils] 40 false 0 0):=by rw[hS];simp +contextual only[go_sem,↓reduceIte]
  have u12:S.get 12=some (.cells [.fn (.func 117) [] [.ptr 10 0,.ptr 11 0]] 189 false 0 0):=by rw[hS];simp +contextual only[go_sem,↓reduceIte]
  have frS:Fr S:=by
   rw[hS]
   repeat first|exact Fr.own|apply Fr.new|apply Fr.put|apply Fr.upto
   all_goals simp +contextual only[go_sem,↓reduceIte]
  have hI:SpI S 10 11 9 a.fa.n (List.replicate a.fa.n false,[]) .nils:=⟨u10,u9,u11,.inl ⟨rfl,rfl⟩,by omega,by simp,by simp⟩
  obtain⟨pv,ev,s1,g',h114,VR⟩:=c114 ha ha rfl (s:=S) (yld118 ha (bA:=8) (b7:=12) (b5:=10) (b6:=11) (sb:=9) (B0:=S.next) (by omega) (by omega) (by omega)) (fun c x hc hx=>⟨Nat.div_lt_of_lt_mul (by rw[Nat.mul_comm];exact hc),hx⟩) (g:=((List.replicate a.fa.n false,[]),.nils)) ⟨hI,⟨by omega,u8⟩,by omega,u12⟩ frS
  have hT:codes (visAll (prodF a.fa a.fa) fun _ _=>true).1=prodT a a:=rfl
  have hst:=VR.stps (visAll_true (prodF_okA ha ha rfl))
  rw[hT] at hst
  have hst2:=Stps.map (φ:=Prod.fst) (nxt':=fun g c x g'=>g'=spN a.fa c x g) (fun _ _ _ _ h=>h) hst
  simp only at hst2
  have hA:=ha.faok
  have hTn:∀c∈prodT a a,c / a.fa.n<a.fa.n:=fun c hc=>Nat.div_lt_of_lt_mul (by rw[Nat.mul_comm];exact (prodI ha ha rfl).lt c hc)
  have hsp:=spacing_eq hA (m:=2^a.lines.toNat) rfl hTn hst2
  have hmem:∀q∈g'.1.2,q<a.fa.n:=by
   have hp:=stps_put hA hst2 (by simp) fun p hp=>by
    simp only[rowC,List.mem_flatMap,List.mem_map,List.mem_range] at hp
    obtain⟨c,hc,z,hz,rfl⟩:=hp
    exact⟨hTn c hc,hz⟩
   intro q hq
   rcases (hp.lay q).1 hq with h|⟨⟨p,hp2,_,rfl⟩,_⟩
   ·simp at h
   ·simp only[rowC,List.mem_flatMap,List.mem_map,List.mem_range] at hp2
    obtain⟨c,hc,z,hz,rfl⟩:=hp2
    exact hA.lt _ _ (hTn c hc) hz
  obtain⟨hI1,⟨l8,v8⟩,l12,v12⟩:=VR.ci
  have frV:=VR.fr
  rw[encA_eq a] at h58 h114 ⊢
  unfold encN encFs at h58 h114 ⊢
  rw[hS] at h114
  simp (maxSteps:=2000000) +contextual only[go_sem,↓reduceIte,r48,nn,nf,cn,cf,h58,cond_false,ln,k114',m1,h114]
  refine l48c (Post:=fun (o:Option AV)=>o=some (.tup [.int .i64 (spV a:Nat),.int .i64 (br (spV a==0) 7 0)])) ha (bA:=8) (b7:=12) (b5:=10) (b6:=11) (sb:=9) (R:=spV a) (z:=g'.1) (lv:=g'.2) ?_ ?_ ?_ ?_ hI1 hmem hsp v8 v12 l8 l12 frV ?_ ?_
  case refine_5 =>
   intro hpos
   have:(spV a==0)=false:=by simp;omega
   rw[this]
   rfl
  case refine_6 =>
   intro hz e' s'
   rw[hz]
   simp (maxSteps:=2000000) +contextual only[go_sem,↓reduceIte]
   rfl
  all_goals simp +contextual only[go_sem,↓reduceIte]
  all_goals rfl
theorem g56 (na nb:Bool)(a b:List Int)(ha:a.length<2^62):go U (finP U [.tmp 4]) [] r56 (bindArgs 0 [encS na (ints a),encS nb (ints b)] .nil) (ownSt U)=some (.bool (sameI a b)):=by
 have:=c109 na nb a b ha
 simp (maxSteps:=2000000) +contextual only[go_sem,↓reduceIte,r56,this]
theorem k56R {s:St}{b n:Nat}{cap:Option Nat}{L:List Nat}{a:List Int}(ha:a.length<2^62)(hL:L.length=n)(h:s.get b=some (.cells (nats L) 3 false 0 0)):callK U (calV U 56 [encS true (ints a),.sl b 0 n cap 1]) 56 [encS true (ints a),.sl b 0 n cap 1] s=some (.bool (sameI a (nIs L)),s):=by
 rw[z_of (by kernel_rfl) s (by simp[stills,still_encS,still])]
 have h1:=frz_encS U s 39 true (ints a)
 have h2:=frz_slN (d:=38) (cap:=cap) hL h
 have hm:mapO (frz U s 40) [encS true (ints a),.sl b 0 n cap 1]=some [encS true (ints a),encS false (ints (nIs L))]:=by
  simp only[mapO,h1,h2,encS_fz]
  rfl
 rw[hm]
 exact calZ_some U s (q_of k56 rfl (g56 true false a (nIs L) ha))
theorem k56S {s:St}{N:Nat}{v:AV}{L:List Nat}{a:List Int}(ha:a.length<2^62)(h:SlI s N L v):callK U (calV U 56 [encS true (ints a),v]) 56 [encS true (ints a),v] s=some (.bool (sameI a (nIs L)),s):=by
 rcases h with⟨rfl,rfl⟩|⟨b,rfl,h2,h3,h4⟩
 ·have:=c56 true true a [] ha
  rw[show encS true (ints [])=.nils from rfl] at this
  rw[this,callK_some]
  rfl
 ·exact k56R ha rfl h2
theorem symN_lt {m:Nat}{l:List Int}(h:sigOk m l):∀i,i<l.length→symN l i<m:=fun i hi=>(symN_at (nl:=true) h hi).2
theorem tmL_pair {n:Nat}{p:Nat→Bool}{i j:Nat}(hij:i<j)(hj:j<(tmL n p).length):∃hi:i<(tmL n p).length,(tmL n p)[i]<(tmL n p)[j]:=by
 have h:=(tmL_get (n:=n) (p:=p)).2
 exact⟨by omega,List.pairwise_iff_getElem.1 h i j (by omega) hj hij⟩
theorem sp_zero {a:Auto}(ha:a.ok){l:List Int}(hl:∀i,i<l.length→symN l i<a.fa.m)(h:spV a=0):(tmL l.length (fireAt a.fa l)).length≤1:=by
 rcases Nat.lt_or_ge 1 (tmL l.length (fireAt a.fa l)).length with h1|h1
 ·exfalso
  obtain⟨h0,hlt⟩:=tmL_pair (n:=l.length) (p:=fireAt a.fa l) (i:=0) (j:=1) (by omega) h1
  obtain⟨q,_⟩:=tmL_get (n:=l.length) (p:=fireAt a.fa l)
  have q0:=q _ (List.getElem_mem h0)
  have q1:=q _ (List.getElem_mem h1)
  have:=(space_le ha hl hlt q1.1 q0.2 q1.2).1
  unfold spN0 at this
  unfold spV at h
  omega
 ·exact h1
theorem sp_far {a:Auto}(ha:a.ok){l:List Int}(hl:∀i,i<l.length→symN l i<a.fa.m)(i:Nat)(h:i+1<(tmL l.length (fireAt a.fa l)).length):(tmL l.length (fireAt a.fa l))[i]≤(tmL l.length (fireAt a.fa l))[i+1]∧spV a≤(tmL l.length (fireAt a.fa l))[i+1]-(tmL l.length (fireAt a.fa l))[i]:=by
 obtain⟨h0,hlt⟩:=tmL_pair (n:=l.length) (p:=fireAt a.fa l) (i:=i) (j:=i+1) (by omega) h
 obtain⟨q,_⟩:=tmL_get (n:=l.length) (p:=fireAt a.fa l)
 have q0:=q _ (List.getElem_mem h0)
 have q1:=q _ (List.getElem_mem h)
 exact⟨by omega,(space_le ha hl hlt q1.1 q0.2 q1.2).2⟩
theorem sh_zero {a:Auto}(ha:a.ok){l:List Int}(hl:∀i,i<l.length→symN l i<a.fa.m)(h:(shP a).length=0):tmL l.length (fireAt a.fa l)=[]:=by
 have h0:(visAll a.fa fun s x=>!a.fa.fr s x).2=none:=by
  cases e:(visAll a.fa fun s x=>!a.fa.fr s x).2 with
  |none=>rfl
  |some z =>
   obtain⟨k,x⟩:=z
   have:=(sh_some ha e).pos
   omega
 unfold tmL
 refine List.filter_eq_nil_iff.2 fun i hi=>?_
 rw[sh_none ha h0 hl (List.mem_range.1 hi)]
 simp
theorem sh_pos {a:Auto}(ha:a.ok)(h:(shP a).length≠0):ShS a (shP a):=by
 cases e:(visAll a.fa fun s x=>!a.fa.fr s x).2 with
 |none =>
  unfold shP endS at h
  rw[e] at h
  simp at h
 |some z =>
  obtain⟨k,x⟩:=z
  exact sh_some ha e
theorem ckSig_nIs {a:Auto}(ha:a.ok){L:List Nat}(hl:L.length≤4096)(h:∀z∈L,z<a.fa.m):ckSig a.lines (nIs L)=0:=by
 have b1:decide (((nIs L).length:Int)>4096)=false:=by rw[nIs_len];simp;omega
 have b2:anyOut a.lines (nIs L)=false:=by
  unfold anyOut
  rw[List.any_eq_false]
  intro x hx
  obtain⟨z,hz,rfl⟩:=List.mem_map.1 hx
  have h1:z<2^a.lines.toNat:=h z hz
  have h2:((z:Nat):Int)<((2^a.lines.toNat:Nat):Int):=by exact_mod_cast h1
  have h3:((2^a.lines.toNat:Nat):Int)=(2:Int)^a.lines.toNat:=by simp
  simp[outside]
  omega
 rw[ckSig,b1,b2,br_false,br_false]
theorem ok_len {a:Auto}(h:a.ok):a.next.length≤2^40∧∀r∈a.next,r.2.length≤2^40:=by
 have:=h.few
 refine⟨by omega,fun r hr=>?_⟩
 obtain⟨i,hi,rfl⟩:=List.mem_iff_getElem.1 hr
 have hm16:2^a.lines.toNat≤65536:=by have:=pow_le16 a.lines (by have:=h.lines;omega);have:=mOf_nat a.lines;unfold mOf at this;omega
 rw[(h.row i hi).1]
 omega
theorem run57 {a:Auto}(h:a.ok){lines:Int}(hl:a.lines=lines){l:List Int}(hc:ckSig lines l=0)(nl:Bool):calV U 57 [encA a,encS nl (ints l)]=some (.tup [encS true (ints (nIs (tmL l.length (fireAt a.fa l)))),.int .i64 0]):=by
 obtain⟨h1,h2⟩:=ok_len h
 rw[c57 a h1 h2 nl l]
 have:chkRun a l=0:=by unfold chkRun;rw[ckA_ok h,hl,hc];rfl
 unfold runP2
 rw[this,times_nI]
 rfl
theorem shortA_len6 {a:Auto}{n:Int}(h:shortA a n=true):a.next.length≤2^40∧(∀r∈a.next,r.2.length≤2^40)∧((a.next.length:Int)≤n∨256<a.next.length):=by
 unfold shortA at h
 cases hb:(decide ((a.next.length:Int)>n)&&decide ((a.next.length:Int)≤256))||(decide ((a.next.length:Int)>258)||decide ((a.fires.length:Int)>260)) with
 |true=>rw[hb] at h;cases h
 |false =>
  rw[hb,cond_false,Bool.and_eq_true] at h
  simp only[Bool.or_eq_false_iff,Bool.and_eq_false_iff,decide_eq_false_iff_not] at hb
  refine⟨by omega,fun r hr=>?_,by omega⟩
  have:=shortRows_ok h.1 r hr
  omega
theorem l9d {a:Auto}(ha:a.ok){l:List Int}(hl40:l.length≤40)(hsy:∀i,i<l.length→symN l i<a.fa.m){e:Env}{s:St}(fr:Fr s)
  (p3:Env.get e 3=.ptr 8 0)(p7:Env.get e 7=.ptr 12 0)(p17:Env.get e 17=encS true (ints (nIs (tmL l.length (fireAt a.fa l)))))
  (u8:s.get 8=some (.cells [.int .i64 a.lines,encS a.nNl (a.next.map encRow),encS a.fNl (a.fires.map encFRow)] 72 false 0 0))(u12:s.get 12=some (.cells [.int .i64 a.lines,encS a.nNl (a.next.map encRow),encS a.fNl (a.fires.map encFRow)] 69 false 0 0)) :
  go U (finP U [.tmp 6]) [] r9_d e s=some (.bool true):=by
 obtain⟨ka,ra⟩:=ok_len ha
 have nn:=noAgg_encS a.nNl (a.next.map encRow)
 have nf:=noAgg_encS a.fNl (a.fires.map encFRow)
 have cn:=cells_encS a.nNl (a.next.map encRow)
 have cf:=cells_encS a.fNl (a.fires.map encFRow)
 have la:=lenL_encS a.nNl (a.next.map encRow)
 rw[List.length_map] at la
 have lt:=lenL_encS true (ints (nIs (tmL l.length (fireAt a.fa l))))
 rw[ints_len,nIs_len] at lt
 have ls:=lenL_encS true (nats (shP a))
 rw[nats_len] at ls
 have q47:=c47 a ka ra
 unfold shortP at q47
 rw[ckA_ok ha,show ((0:Int) != 0)=false from rfl,cond_false] at q47
 rw[encA_eq a] at q47
 cases h0:(shP a).length==0 with
 |true =>
  have h0':(shP a).length=0:=by simpa using h0
  rw[h0,br_true] at q47
  have hz:=sh_zero ha hsy h0'
  rw[hz] at lt p17
  unfold encN encFs at q47
  simp (maxSteps:=2000000) +contextual only[go_sem,↓reduceIte,r9_d,p7,p17,u12,nn,nf,cn,cf,q47,lt]
  rfl
 |false =>
  have h0':(shP a).length≠0:=by simpa using h0
  rw[h0,br_false] at q47
  have S:=sh_pos ha h0'
  have hle:=S.le
  have hfew:=ha.few
  have q28:=c28 a.lines ha.lines.1 (by have:=ha.lines;omega) true (nIs (shP a))
  rw[ckSig_nIs ha (by omega) S.sym] at q28
  have q57:=run57 ha rfl (ckSig_nIs ha (by omega) S.sym) true
  rw[←times_nI,S.times] at q57
  have q57:calV U 57 [encA a,encS true (nats (shP a))]=some (.tup [encS true (ints [(((shP a).length-1:Nat):Int)]),.int .i64 0]):=q57
  have q28:calV U 28 [.int .i64 a.lines,encS true (nats (shP a))]=some (.int .i64 0):=q28
  rw[encA_eq a] at q57
  unfold encN encFs at q47 q57
  have hd0:(((shP a).length:Int)==0)=false:=beq_eq_false_iff_ne.2 (by omega)
  have hd1:decide (((shP a).length:Int)>(a.next.length:Int))=false:=by simp;omega
  have w1:IntKind.i64.wrap (((shP a).length:Int)-1)=(((shP a).length-1:Nat):Int):=wrap_sub (b:=1) (by omega) (by omega)
  have z1:callK U (calV U 56 [encS true (ints [(((shP a).length-1:Nat):Int)]),.sl s.next 0 1 (some 1) 1]) 56 [encS true (ints [(((shP a).length-1:Nat):Int)]),.sl s.next 0 1 (some 1) 1] (s.new (.cells [.int .i64 (((shP a).length-1:Nat):Int)] 3 false 0 0))=some (.bool true,s.new (.cells [.int .i64 (((shP a).length-1:Nat):Int)] 3 false 0 0)):=by
   have:=k56R (s:=s.new (.cells [.int .i64 (((shP a).length-1:Nat):Int)] 3 false 0 0)) (b:=s.next) (cap:=some 1) (a:=[(((shP a).length-1:Nat):Int)]) (L:=[(shP a).length-1]) (n:=1) (by simp) rfl (by rw[get_new,if_pos rfl];rfl)
   rw[this,show nIs [(shP a).length-1]=[(((shP a).length-1:Nat):Int)] from rfl,sameI_refl]
  cases ht:tmL l.length (fireAt a.fa l) with
  |nil =>
   rw[ht] at lt p17
   have hdz:decide (((0:Nat):Int)>0)=false:=rfl
   simp (maxSteps:=2000000) +contextual only[go_sem,↓reduceIte,r9_d,p3,p7,p17,u8,u12,nn,nf,cn,cf,q47,lt,ls,la,q28,q57,hd0,hd1,w1,hdz,z1]
  |cons x L =>
   have hx:x∈tmL l.length (fireAt a.fa l):=by rw[ht];exact List.mem_cons_self ..
   obtain⟨g1,g2⟩:=tmL_get.1 x hx
   have hfst:=S.first l hsy x g1 g2
   rw[ht] at lt p17
   have hx0:ixRA 1 (encS true (ints (nIs (x::L)))) (.int .i64 0)=some (.fp [.int .i64 ((x:Nat):Int)] 0):=ixa_nI (L:=x::L) (i:=0) (by simp)
   have hdz:decide (((L.length+1:Nat):Int)>0)=true:=decide_eq_true (by omega)
   have hd2:decide (((x:Nat):Int)<(((shP a).length-1:Nat):Int))=false:=by rw[nat_lt_dec];simp;omega
   simp (maxSteps:=2000000) +contextual only[go_sem,↓reduceIte,r9_d,p3,p7,p17,u8,u12,nn,nf,cn,cf,q47,lt,ls,la,q28,q57,hd0,hd1,w1,hx0,hd2,hdz,z1]
theorem l9c {a:Auto}(ha:a.ok){l:List Int}(hl40:l.length≤40)(hsy:∀i,i<l.length→symN l i<a.fa.m){pu pv:Nat→Bool}{v w:AV}{e:Env}{s:St}(fr:Fr s)
  (p3:Env.get e 3=.ptr 8 0)(p7:Env.get e 7=.ptr 12 0)(p17:Env.get e 17=encS true (ints (nIs (tmL l.length (fireAt a.fa l)))))(p21:Env.get e 21=encS true (ints (nIs (tmL l.length pu))))(p23:Env.get e 23=encS true (ints (nIs (tmL l.length pv))))(p27:Env.get e 27=v)(p28:Env.get e 28=w)
  (hv:SlI s 20 (tmL l.length pv) v)(hw:SlI s 20 (tmL l.length pu) w)
  (u8:s.get 8=some (.cells [.int .i64 a.lines,encS a.nNl (a.next.map encRow),encS a.fNl (a.fires.map encFRow)] 72 false 0 0))(u12:s.get 12=some (.cells [.int .i64 a.lines,encS a.nNl (a.next.map encRow),encS a.fNl (a.fires.map encFRow)] 69 false 0 0)) :
  go U (finP U [.tmp 6]) [] r9_c e s=some (.bool true):=by
 obtain⟨ka,ra⟩:=ok_len ha
 have nn:=noAgg_encS a.nNl (a.next.map encRow)
 have nf:=noAgg_encS a.fNl (a.fires.map encFRow)
 have cn:=cells_encS a.nNl (a.next.map encRow)
 have cf:=cells_encS a.fNl (a.fires.map encFRow)
 have lt:=lenL_encS true (ints (nIs (tmL l.length (fireAt a.fa l))))
 rw[ints_len,nIs_len] at lt
 have q48:=c48 a ka ra
 unfold spaceP at q48
 rw[ckA_ok ha,show ((0:Int) != 0)=false from rfl,cond_false] at q48
 rw[encA_eq a] at q48
 unfold encN encFs at q48
 have hlU:=tmL_len l.length pu
 have hlV:=tmL_len l.length pv
 have hlT:=tmL_len l.length (fireAt a.fa l)
 have z1:=k56S (a:=nIs (tmL l.length pu)) (by rw[nIs_len];omega) hw
 have z2:=k56S (a:=nIs (tmL l.length pv)) (by rw[nIs_len];omega) hv
 rw[sameI_refl] at z1 z2
 have next:∀(e2:Env) (s2:St),(∀t:Nat,t<32→Env.get e2 t=Env.get e t)→(∀j,s2.get j=s.get j)→Fr s2→go U (finP U [.tmp 6]) [] r9_d e2 s2=some (.bool true):=fun e2 s2 h1 h2 h3 =>
  l9d ha hl40 hsy h3 ((h1 3 (by omega)).trans p3) ((h1 7 (by omega)).trans p7) ((h1 17 (by omega)).trans p17) ((h2 8).trans u8) ((h2 12).trans u12)
 have hne:∀t:Nat,t<32→∀k:Nat,32≤k→(k=t)=False:=fun t ht k hk=>by simp;omega
 cases hsp:spV a==0 with
 |true =>
  have hsp0:spV a=0:=by simpa using hsp
  rw[hsp,br_true,hsp0] at q48
  have h1:=sp_zero ha hsy hsp0
  have hgt:decide (((tmL l.length (fireAt a.fa l)).length:Int)>1)=false:=by simp;omega
  simp (maxSteps:=2000000) +contextual only[go_sem,↓reduceIte,r9_c,p3,p7,p17,p21,p23,p27,p28,u8,u12,z1,z2,q48,lt,hgt,nn,nf,cn,cf]
  refine l9b (Post:=fun (o:Option AV)=>o=some (.bool true)) (L:=tmL l.length (fireAt a.fa l)) (sp:=0) (by omega) (fun x hx=>by have:=(tmL_get.1 x hx).1;omega) (fun i hi=>⟨(sp_far ha hsy i hi).1,Nat.zero_le _⟩) ?_ ?_ ?_ fr fun e2 s2 h2a h2s _ fr2=>?_
  case refine_4 =>
   refine next e2 s2 (fun t ht=>?_) h2s fr2
   rw[h2a t (by omega)]
   simp +contextual only[go_sem,↓reduceIte,hne t ht]
  all_goals simp +contextual only[go_sem,↓reduceIte,p17]
  all_goals rfl
 |false =>
  rw[hsp,br_false] at q48
  have hsp0:spV a≠0:=by simpa using hsp
  have hlt1:decide (((spV a:Nat):Int)<1)=false:=by simp;omega
  simp (maxSteps:=2000000) +contextual only[go_sem,↓reduceIte,r9_c,p3,p7,p17,p21,p23,p27,p28,u8,u12,z1,z2,q48,lt,hlt1,nn,nf,cn,cf]
  refine l9b (Post:=fun (o:Option AV)=>o=some (.bool true)) (L:=tmL l.length (fireAt a.fa l)) (sp:=spV a) (by omega) (fun x hx=>by have:=(tmL_get.1 x hx).1;omega) (fun i hi=>sp_far ha hsy i hi) ?_ ?_ ?_ fr fun e2 s2 h2a h2s _ fr2=>?_
  case refine_4 =>
   refine next e2 s2 (fun t ht=>?_) h2s fr2
   rw[h2a t (by omega)]
   simp +contextual only[go_sem,↓reduceIte,hne t ht]
  all_goals simp +contextual only[go_sem,↓reduceIte,p17]
  all_goals rfl
theorem c9 (aw:calV U 16 []=some (.bool true))(a b:Auto)(nl:Bool)(l:List Int):calV U 9 [encA a,encA b,encS nl (ints l)]=some (.bool true):=by
 refine pure_go k9 (by kernel_rfl) (by simp[stills,still_encA,still_encS,still]) ?_
 have nn:=noAgg_encS a.nNl (a.next.map encRow)
 have nf:=noAgg_encS a.fNl (a.fires.map encFRow)
 have cn:=cells_encS a.nNl (a.next.map encRow)
 have cf:=cells_encS a.fNl (a.fires.map encFRow)
 have nn':=noAgg_encS b.nNl (b.next.map encRow)
 have nf':=noAgg_encS b.fNl (b.fires.map encFRow)
 have cn':=cells_encS b.nNl (b.next.map encRow)
 have cf':=cells_encS b.fNl (b.fires.map encFRow)
 have la:=lenL_encS a.nNl (a.next.map encRow)
 rw[List.length_map] at la
 have lb:=lenL_encS b.nNl (b.next.map encRow)
 rw[List.length_map] at lb
 have ll:=lenL_encS nl (ints l)
 rw[ints_len] at ll
 have s1:=c44 a 6
 have s2:=c44 b 6
 cases hsa:shortA a 6 with
 |false =>
  rw[hsa] at s1
  rw[encA_eq a,encA_eq b] at *
  unfold encN encFs at *
  simp (maxSteps:=2000000) +contextual only[go_sem,↓reduceIte,r9,aw,s1,nn,nf,cn,cf,nn',nf',cn',cf']
 |true =>
 rw[hsa] at s1
 cases hsb:shortA b 6 with
 |false =>
  rw[hsb] at s2
  rw[encA_eq a,encA_eq b] at *
  unfold encN encFs at *
  simp (maxSteps:=2000000) +contextual only[go_sem,↓reduceIte,r9,aw,s1,s2,nn,nf,cn,cf,nn',nf',cn',cf']
 |true =>
 rw[hsb] at s2
 have q49:=c49 a b
 cases hbad:chkTwo a b != 0 with
 |true =>
  rw[encA_eq a,encA_eq b] at *
  unfold encN encFs at *
  simp (maxSteps:=2000000) +contextual only[go_sem,↓reduceIte,r9,aw,s1,s2,q49,hbad,nn,nf,cn,cf,nn',nf',cn',cf']
 |false =>
 have h0:chkTwo a b=0:=by simpa using hbad
 rw[h0] at q49
 obtain⟨ha,hb,hlb⟩:=chkTwo_ok h0
 have fa:=(shortA_len6 hsa).2.2
 have fb:=(shortA_len6 hsb).2.2
 have na6:a.next.length≤6:=by have:=ha.few;omega
 have nb6:b.next.length≤6:=by have:=hb.few;omega
 have da:decide ((a.next.length:Int)>6)=false:=by simp;omega
 have db:decide ((b.next.length:Int)>6)=false:=by simp;omega
 cases hll:decide ((l.length:Int)>40) with
 |true =>
  rw[encA_eq a,encA_eq b] at *
  unfold encN encFs at *
  simp (maxSteps:=2000000) +contextual only[go_sem,↓reduceIte,r9,aw,s1,s2,q49,la,lb,ll,da,db,hll,nn,nf,cn,cf,nn',nf',cn',cf']
 |false =>
 have hl40:l.length≤40:=by simp at hll;omega
 have q28:=c28 a.lines ha.lines.1 (by have:=ha.lines;omega) nl l
 cases hsg:ckSig a.lines l != 0 with
 |true =>
  rw[encA_eq a,encA_eq b] at *
  unfold encN encFs at *
  simp (maxSteps:=2000000) +contextual only[go_sem,↓reduceIte,r9,aw,s1,s2,q49,q28,hsg,la,lb,ll,da,db,hll,nn,nf,cn,cf,nn',nf',cn',cf']
 |false =>
 have hs0:ckSig a.lines l=0:=by simpa using hsg
 rw[hs0] at q28
 have hsig:=sigOk_of (by have:=ha.lines;omega) hs0
 have hsy:=symN_lt hsig
 have hsy':∀i,i<l.length→symN l i<a.fa.m:=hsy
 obtain⟨ka,ra⟩:=ok_len ha
 obtain⟨kb,rb⟩:=ok_len hb
 have h36:a.fa.n*b.fa.n≤6*6:=Nat.mul_le_mul na6 nb6
 have h36':a.fa.n*a.fa.n≤6*6:=Nat.mul_le_mul na6 na6
 have hcaa:chkTwo a a=0:=by
  unfold chkTwo
  rw[ckA_ok ha,show (a.lines != a.lines)=false by simp,br_false]
  rfl
 have q45:=c45 a b ka ra kb rb fun _=>by omega
 have q46:=c46 a b ka ra kb rb fun _=>by omega
 have q46':=c46 a a ka ra ka ra fun _=>by omega
 have q59:=c59 a ka ra
 unfold twoA at q45 q46 q46'
 unfold minP2 at q59
 rw[hbad,cond_false] at q45 q46
 rw[hcaa,show ((0:Int) != 0)=false from rfl,cond_false,min_self ha (by omega) fun p=>Bool.and_self p] at q46'
 rw[ckA_ok ha,show ((0:Int) != 0)=false from rfl,cond_false] at q59
 have q60:=c60_min ha
 have okU:=prodA_ok ha hb hlb (by omega) fun p q=>p||q
 have okV:=prodA_ok ha hb hlb (by omega) fun p q=>p&&q
 have q57a:=run57 ha rfl hs0 nl
 have q57b:=run57 hb hlb.symm hs0 nl
 have q57u:=run57 (minAutR_ok okU) (show (minAutR (prodA a b fun p q=>p||q)).lines=a.lines from rfl) hs0 nl
 have q57v:=run57 (minAutR_ok okV) (show (minAutR (prodA a b fun p q=>p&&q)).lines=a.lines from rfl) hs0 nl
 have q57m:=run57 (minAutR_ok ha) (show (minAutR a).lines=a.lines from rfl) hs0 nl
 rw[←times_nI,min_times okU hsy,prod_times ha hb hlb hsy] at q57u
 rw[←times_nI,min_times okV hsy,prod_times ha hb hlb hsy] at q57v
 rw[←times_nI,min_times ha hsy',times_nI] at q57m
 have eU:((List.range l.length).filter fun i=>fireAt a.fa l i||fireAt b.fa l i).map (fun i=>((i:Nat):Int))=nIs (tmL l.length fun i=>fireAt a.fa l i||fireAt b.fa l i):=rfl
 have eV:((List.range l.length).filter fun i=>fireAt a.fa l i&&fireAt b.fa l i).map (fun i=>((i:Nat):Int))=nIs (tmL l.length fun i=>fireAt a.fa l i&&fireAt b.fa l i):=rfl
 rw[eU] at q57u
 rw[eV] at q57v
 have hTl:=tmL_len l.length (fireAt a.fa l)
 have q56:=c56 true true (nIs (tmL l.length (fireAt a.fa l))) (nIs (tmL l.length (fireAt a.fa l))) (by rw[nIs_len];omega)
 rw[sameI_refl] at q56
 generalize minAutR (prodA a b fun p q=>p||q)=A1 at *
 generalize minAutR (prodA a b fun p q=>p&&q)=A2 at *
 generalize minAutR a=M at *
 have mn:=noAgg_encS M.nNl (M.next.map encRow)
 have mf:=noAgg_encS M.fNl (M.fires.map encFRow)
 have mcn:=cells_encS M.nNl (M.next.map encRow)
 have mcf:=cells_encS M.fNl (M.fires.map encFRow)
 have un:=noAgg_encS A1.nNl (A1.next.map encRow)
 have uf:=noAgg_encS A1.fNl (A1.fires.map encFRow)
 have ucn:=cells_encS A1.nNl (A1.next.map encRow)
 have ucf:=cells_encS A1.fNl (A1.fires.map encFRow)
 have vn:=noAgg_encS A2.nNl (A2.next.map encRow)
 have vf:=noAgg_encS A2.fNl (A2.fires.map encFRow)
 have vcn:=cells_encS A2.nNl (A2.next.map encRow)
 have vcf:=cells_encS A2.fNl (A2.fires.map encFRow)
 have q47:=c47 a ka ra
 have q48:=c48 a ka ra
 unfold shortP at q47
 unfold spaceP at q48
 rw[ckA_ok ha,show ((0:Int) != 0)=false from rfl,cond_false] at q47 q48
 have q57s:(shP a).length≠0→calV U 57 [encA a,encS true (nats (shP a))]=some (.tup [encS true (nats [(shP a).length-1]),.int .i64 0]):=fun h=>by
  have S:=sh_pos ha h
  have hle:=S.le
  have:=run57 ha rfl (ckSig_nIs ha (by omega) S.sym) true
  rw[←times_nI,S.times] at this
  exact this
 rw[encA_eq a] at s1 q49 q45 q46 q46' q59 q57a q47 q48 q57s
 rw[encA_eq b] at s2 q49 q45 q46 q57b
 rw[encA_eq M] at q46' q59 q60 q57m
 rw[encA_eq A1] at q45 q57u
 rw[encA_eq A2] at q46 q57v
 rw[encA_eq a,encA_eq b]
 unfold encN encFs at *
 have w0:IntKind.i64.wrap 0=0:=rfl
 simp (maxSteps:=2000000) +contextual only[go_sem,↓reduceIte,r9,aw,s1,s2,q49,q28,hsg,la,lb,ll,da,db,hll,nn,nf,cn,cf,nn',nf',cn',cf',go_drcU d9_0,q45,q46,q46',q59,q60,q57a,q57b,q57u,q57v,q57m,q56,mn,mf,mcn,mcf,un,uf,ucn,ucf,vn,vf,vcn,vcf,w0]
 refine l9a (Post:=fun (o:Option AV)=>o=some (.bool true)) (n:=l.length) (N:=20) (p:=fireAt a.fa l) (q:=fireAt b.fa l) (by omega) ?_ ?_ ?_ ?_ ?_ ?_ ?_ ?_ ?_
 case refine_9 =>
  intro e1 s1' v w h1a p27 p28 hv hw hs1 hn1 fr1
  have p3:Env.get e1 3=.ptr 8 0:=by rw[h1a 3 (by omega)];simp +contextual only[go_sem,↓reduceIte]
  have p7:Env.get e1 7=.ptr 12 0:=by rw[h1a 7 (by omega)];simp +contextual only[go_sem,↓reduceIte]
  have p17:Env.get e1 17=encS true (ints (nIs (tmL l.length (fireAt a.fa l)))):=by rw[h1a 17 (by omega)];simp +contextual only[go_sem,↓reduceIte]
  have p21:Env.get e1 21=encS true (ints (nIs (tmL l.length fun i=>fireAt a.fa l i||fireAt b.fa l i))):=by rw[h1a 21 (by omega)];simp +contextual only[go_sem,↓reduceIte]
  have p23:Env.get e1 23=encS true (ints (nIs (tmL l.length fun i=>fireAt a.fa l i&&fireAt b.fa l i))):=by rw[h1a 23 (by omega)];simp +contextual only[go_sem,↓reduceIte]
  have u8:=hs1 8 (by omega)
  have u12:=hs1 12 (by omega)
  simp +contextual only[go_sem,↓reduceIte] at u8 u12
  simp +contextual only[go_sem,↓reduceIte]
  exact l9c ha hl40 hsy' fr1 p3 p7 p17 p21 p23 p27 p28 hv hw u8 u12
 case refine_8 =>
  repeat first|exact Fr.own|apply Fr.new|apply Fr.put|apply Fr.upto
  all_goals simp +contextual only[go_sem,↓reduceIte]
  all_goals try omega
 all_goals simp +contextual only[go_sem,↓reduceIte]
 all_goals rfl
end Go.Am
