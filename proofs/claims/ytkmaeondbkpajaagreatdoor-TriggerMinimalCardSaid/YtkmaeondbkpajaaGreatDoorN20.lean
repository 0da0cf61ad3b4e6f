/- A part of the proof of a statement of this seat: the machine on which the program is read, and what it computes; for every input. -/
import Derived.Test.YtkmaeondbkpajaaGreatDoorN19
import Derived.Test.YtkmaeondbkpajaaGreatDoorN16
import Derived.Test.YtkmaeondbkpajaaGreatDoorN06
set_option linter.all false
namespace Go.Am
open Go
variable [Z3]
set_option maxRecDepth 100000
set_option maxHeartbeats 8000000
theorem At (k:Nat):∀(L:List Nat) (i c:Nat),i<L.length->lay (i*2) (Zc k c) (WT k L)=some (WT k (L.set i c))
 |a::L,0,c,_=>by
  have e:WT k (a::L)=.int .i64 ((a / k:Nat):Int)::.int .i64 ((a%k:Nat):Int)::WT k L:=rfl;rw[e,Nat.zero_mul,Zc,Oh,Oh,GZ];rfl
 |a::L,i+1,c,h=>by
  have:=At k L i c (by rw[afc] at h;omega);have e:WT k (a::L)=.int .i64 ((a / k:Nat):Int)::.int .i64 ((a%k:Nat):Int)::WT k L:=rfl;rw[e,show (i+1)*2=i*2+1+1 by omega,Zc,Og,Og,<-Zc,this];rfl
theorem yi {j:Nat}(h:j<2^62):IntKind.i64.wrap (((j+1:Nat):Int)-1)=(j:Int):=by
 rw[wrap_i64] <;> omega
theorem As {P M S:List Nat}{i:Nat}(h:i<M.length):∃h':P.length+i<(P++M++S).length,(P++M++S)[P.length+i]=M[i]:=by
 refine⟨by simp;omega,?_⟩;rw[afv (by simp;omega),afy (by omega)];simp
theorem oM {P M S:List Nat}{i c:Nat}(h:i<M.length):(P++M++S).set (P.length+i) c=P++M.set i c++S:=by
 rw[List.set_append_left _ _ (by simp;omega),List.set_append_right _ _ (by omega)];simp
theorem YW (k:Nat){P M S:List Nat}{i:Nat}(h:i<M.length):YB 2 ((P.length+i)*2) (WT k (P++M++S))=some [.int .i64 ((M[i] / k:Nat):Int),.int .i64 ((M[i]%k:Nat):Int)]:=by
 obtain⟨h',e⟩:=As (P:=P) (S:=S) h;have:=Rz k (P++M++S) (P.length+i) h';rw[e] at this;exact this
theorem VB (k:Nat){P M S:List Nat}{i:Nat}(c:Nat)(h:i<M.length):lay ((P.length+i)*2) [.int .i64 ((c / k:Nat):Int),.int .i64 ((c%k:Nat):Int)] (WT k (P++M++S))=some (WT k (P++M.set i c++S)):=by
 obtain⟨h',_⟩:=As (P:=P) (S:=S) h;rw[<-oM h];exact At k (P++M++S) (P.length+i) c h'
def Y4 (k b:Nat)(s:St)(L:List Nat)(s':St):Prop:=s'.get b=some (.cells (WT k L) 55 false 0 0)/\(∀j,j<s.next->j≠b->s'.get j=s.get j)/\s.next<=s'.next/\Fr s'
theorem Y4.trans {k b:Nat}{s s1 s2:St}{L L':List Nat}(h:Y4 k b s L s1)(h':Y4 k b s1 L' s2):Y4 k b s L' s2 :=
 ⟨h'.1,fun j h1 h2=>(h'.2.1 j (by have:=h.2.2.1;omega) h2).trans (h.2.1 j h1 h2),by have:=h.2.2.1;have:=h'.2.2.1;omega,h'.2.2.2⟩
theorem aaK {β:Type}{fin:Fl->β}{ks:List K}{ZV:β->Prop}{k n b i:Nat}{cap:Option Nat}{P M S:List Nat}(WX:0<k)(hL:P.length+M.length+S.length=n)(hi:i<M.length)(hn:n<=2^20)
  {e:Env}{s:St}(g0:Env.get e 0=.sl b 0 n cap 2)(g1:Env.get e 1=.int .i64 (P.length:Nat))(g3:Env.get e 3=.fn (.func 91) [] [])(g9:Env.get e 9=.int .i64 (P.length+i:Nat))(gb:s.get b=some (.cells (WT k (P++M++S)) 55 false 0 0))(hb:b<s.next)(fr:Fr s)
  (hk:∀e' s',(∀t:Nat,t<9->Env.get e' t=Env.get e t)->Y4 k b s (P++Qg i M++S) s'->ZV (goN U fin ks e' s')) :
  ZV (Vx U fin (.bk 2::ks) NQ e s):=by
 refine ZC (σ:=Nat) (fun j=>j) (fun j e' s'=>j<M.length/\(∀t:Nat,t<9->Env.get e' t=Env.get e t)/\Env.get e' 9=.int .i64 (P.length+j:Nat) /\
   ∃L',L'.length=M.length/\Y4 k b s (P++L'++S) s'/\Qg j L'=Qg i M) i ?_
  ⟨hi,fun _ _=>rfl,g9,M,rfl,⟨gb,fun _ _ _=>rfl,aba _,fr⟩,rfl⟩
 rintro Lp j e' s' ⟨hj,hold,q9,L',Hy,⟨qb,hs,XY,YM⟩,Zp⟩ IH;have q0:=(hold 0 (by omega)).trans g0;have q1:=(hold 1 (by omega)).trans g1;have q3:=(hold 3 (by omega)).trans g3;have ZQ:∀t:Nat,t<9->∀k:Nat,9<=k->(k=t)=False:=fun t h1 k hk=>by simp;omega
 cases j with
 |zero =>
  rw[Qg] at Zp;subst Zp;rw[afD] at q9;have d0:decide (((P.length:Nat):Int)>((P.length:Nat):Int))=false:=decide_eq_false (by omega);simp only[go_sem,NQ,q0,q1,q3,q9,d0];refine hk _ _ (fun t h1=>?_) ⟨?_,fun i h1 h2=>?_,?_,?_⟩
  ·simp only[go_sem,ZQ t h1];exact hold t h1
  ·rw[Z0];exact qb
  ·rw[Z0];exact hs i h1 h2
  ·rw[Z_];omega
  ·exact YM.upto (by omega)
 |succ j =>
  have d0:decide (((P.length+(j+1):Nat):Int)>((P.length:Nat):Int))=true:=decide_eq_true (by omega);have w1:IntKind.i64.wrap (((P.length+(j+1):Nat):Int)-1)=((P.length+j:Nat):Int):=yi (j:=P.length+j) (by omega);have r1:=YW k (P:=P) (M:=L') (S:=S) (i:=j+1) (by omega);have r2:=YW k (P:=P) (M:=L') (S:=S) (i:=j) (by omega);have c1:=Pc ((L'[j+1] / k:Nat):Int) ((L'[j+1]%k:Nat):Int) ((L'[j] / k:Nat):Int) ((L'[j]%k:Nat):Int);have o1:=(XC (k:=k) (c:=L'[j+1]) (d:=L'[j]) WX).1;have hj1:P.length+(j+1)<n:=by omega
  have hj0:P.length+j<n:=by omega
  have b1:gt L' (j+1)=L'[j+1]:=ZJ (by omega);have b2:gt L' j=L'[j]:=ZJ (by omega);rw[Qg,b1,b2] at Zp;have y1:=VB k (P:=P) (M:=L') (S:=S) (i:=j+1) L'[j] (by omega);have y2:=VB k (P:=P) (M:=L'.set (j+1) L'[j]) (S:=S) (i:=j) L'[j+1] (by simp;omega)
  cases hd:decide (L'[j+1]<L'[j]) with
  |true =>
   rw[hd] at o1 Zp;rw[cond_true] at Zp;simp only[go_sem,NQ,q0,q1,q3,q9,d0,qb,w1,r1,r2,c1,o1,hj1,hj0,ad4,y1,y2];refine IH j _ _ (by omega) ⟨by omega,fun t h1=>?_,?_,(L'.set (j+1) L'[j]).set j L'[j+1],by simp[Hy],⟨?_,fun i h1 h2=>?_,?_,?_⟩,Zp⟩
   ·simp only[go_sem,ZQ t h1];exact hold t h1
   ·simp only[go_sem]
   ·rw[Z7,if_pos rfl]
   ·rw[Z7,if_neg h2.symm,Z7,if_neg h2.symm,Z0,Z0];exact hs i h1 h2
   ·simp only[Z9,Z_];omega
   ·repeat first|exact YM|apply Fr.new|apply Fr.put|apply Fr.upto
    all_goals try simp only[Z9,Z',Z_]
    all_goals omega
  |false =>
   rw[hd] at o1 Zp;rw[cond_false] at Zp;simp only[go_sem,NQ,q0,q1,q3,q9,d0,qb,w1,r1,r2,c1,o1,hj1,hj0,ad4];subst Zp;refine hk _ _ (fun t h1=>?_) ⟨?_,fun i h1 h2=>?_,?_,?_⟩
   ·simp only[go_sem,ZQ t h1];exact hold t h1
   ·rw[Z0];exact qb
   ·rw[Z0];exact hs i h1 h2
   ·rw[Z_];omega
   ·exact YM.upto (by omega)
theorem acS {k n b:Nat}{cap:Option Nat}{P M S:List Nat}(WX:0<k)(hL:P.length+M.length+S.length=n)(hn:n<=2^20){s:St}(gb:s.get b=some (.cells (WT k (P++M++S)) 55 false 0 0))(hb:b<s.next)(fr:Fr s) :
  ∃v s',WW U 197 [.sl b 0 n cap 2,.int .i64 (P.length:Nat),.int .i64 (P.length+M.length:Nat),.fn (.func 91) [] []] s=some (v,s')/\Y4 k b s (P++S4 M++S) s':=by
 suffices TK:∃x,go U (XZ U []) [] iB (ZM 0 [.sl b 0 n cap 2,.int .i64 (P.length:Nat),.int .i64 (P.length+M.length:Nat),.fn (.func 91) [] []] .nil) s=some x/\Y4 k b s (P++S4 M++S) x.2 by
  obtain⟨x,h1,h2⟩:=TK;exact⟨x.1,x.2,Y3 adI (by kernel_rfl) h1,h2⟩
 have w0:IntKind.i64.wrap (((P.length:Nat):Int)+1)=((P.length+1:Nat):Int):=by rw[wrap_i64] <;> omega
 simp only[go_sem,iB,w0];by_cases hM:M.length<=1
 ·have e:S4 M=M:=by
   unfold S4;rw[show M.length-1=0 by omega];rfl
  rw[e,Rd];have hd:¬P.length+1<P.length+M.length:=by omega
  simp only[go_sem,Lg,Z8,hd];exact⟨_,rfl,gb,fun _ _ _=>rfl,aba _,fr⟩
 refine ZC (ZV:=fun (o:Option (AV×St))=>∃x,o=some x/\Y4 k b s (P++S4 M++S) x.2) (σ:=Nat) (fun i=>M.length-i) (fun i e' s'=>1<=i/\i<=M.length/\Env.get e' 0=.sl b 0 n cap 2/\Env.get e' 1=.int .i64 (P.length:Nat)/\Env.get e' 2=.int .i64 (P.length+M.length:Nat)/\Env.get e' 3=.fn (.func 91) [] []/\Env.get e' 8=.int .i64 (P.length+i:Nat) /\
   ∃L',L'.length=M.length/\Y4 k b s (P++L'++S) s'/\O' (M.length-i) i L'=S4 M) 1 ?_
  ⟨aba _,by omega,?_,?_,?_,?_,?_,M,rfl,⟨gb,fun _ _ _=>rfl,aba _,fr⟩,rfl⟩
 ·rintro Lp i e' s' ⟨fD,hi,q0,q1,q2,q3,q8,L',Hy,hR,Zp⟩ IH;obtain⟨qb,hs,XY,YM⟩:=id hR;by_cases hd:i<M.length
  ·have Wy:P.length+i<P.length+M.length:=by omega
   have hw:IntKind.i64.wrap (((P.length+i:Nat):Int)+1)=((P.length+(i+1):Nat):Int):=by rw[wrap_i64] <;> omega
   rw[show M.length-i=(M.length-(i+1))+1 by omega,O'] at Zp;simp only[go_sem,Lg,q2,q8,Z8,Wy];refine aaK (ZV:=fun (o:Option (AV×St))=>∃x,o=some x/\Y4 k b s (P++S4 M++S) x.2) WX (P:=P) (M:=L') (S:=S) (n:=n) (i:=i) (by omega) (by omega) hn (b:=b) (cap:=cap) ?_ ?_ ?_ ?_ qb (by omega) YM fun e2 s2 Vy TB=>?_
   case refine_5 =>
    have E2:∀t:Nat,t<9->Env.get e2 t=Env.get e' t:=fun t ht=>by
     rw[Vy t ht];have ZQ:∀k:Nat,9<=k->(k=t)=False:=fun k hk=>by simp;omega
     simp only[go_sem,ZQ]
    have p0:=(E2 0 (by omega)).trans q0;have p1:=(E2 1 (by omega)).trans q1;have p2:=(E2 2 (by omega)).trans q2;have p3:=(E2 3 (by omega)).trans q3;have p8:=(E2 8 (by omega)).trans q8;simp only[go_sem,p8,hw];refine IH (i+1) _ _ (by omega) ⟨by omega,by omega,?_,?_,?_,?_,?_,Qg i L',by rw[HK];exact Hy,hR.trans TB,Zp⟩
    all_goals simp only[go_sem,p0,p1,p2,p3]
   all_goals simp only[go_sem,q0,q1,q3,q8]
  ·have DX:i=M.length:=by omega
   subst DX;rw[Nat.sub_self,O'] at Zp;subst Zp;simp only[go_sem,Lg,q2,q8,Z8,afg];exact⟨_,rfl,hR⟩
 all_goals simp only[go_sem]
end Go.Am
namespace Go.Am
open Go
def UB (M:List Nat)(i j:Nat):List Nat:=(M.set i (gt M j)).set j (gt M i)
theorem Vj (M:List Nat)(i j:Nat):(UB M i j).length=M.length:=by simp[UB]
theorem Ax {M:List Nat}{i c x:Nat}(hi:i<M.length):gt (M.set i c) x=if x=i then c else gt M x:=by
 unfold gt;rw[ae4,ae4,List.getElem?_set];by_cases h:i=x
 ·subst h;simp[hi]
 ·simp[h];intro e;exact absurd e.symm h
theorem PL {M:List Nat}{i j x:Nat}(hi:i<M.length)(hj:j<M.length):gt (UB M i j) x=if x=j then gt M i else if x=i then gt M j else gt M x:=by
 unfold UB;rw[Ax (by simpa using hj),Ax hi]
theorem XA {M:List Nat}{i j:Nat}(hi:i<M.length)(hj:j<M.length):(UB M i j).Perm M:=by
 rw[List.perm_iff_count];intro x;unfold UB;rw[List.count_set (by simpa using hj),List.count_set hi];have e1:gt M i=M[i]:=ZJ hi;have e2:gt M j=M[j]:=ZJ hj;rw[e1,e2,List.getElem_set];have DW:0<M.count M[i]:=List.count_pos_iff.2 (ae2 hi);have hcj:0<M.count M[j]:=List.count_pos_iff.2 (ae2 hj);by_cases Ul:i=j
 ·subst Ul;simp only[if_true];by_cases hx:M[i]=x
  ·subst hx;simp <;> omega
  ·simp[hx]
 ·rw[if_neg Ul];by_cases hx:M[i]=x
  ·subst hx;by_cases hy:M[j]=M[i]
   ·simp[hy] <;> omega
   ·have hy':¬M[i]=M[j]:=fun e=>hy e.symm
    simp[hy] <;> omega
  ·by_cases hy:M[j]=x
   ·subst hy;simp[hx]
   ·simp[hx,hy]
def WA:Nat->Nat->Nat->List Nat->List Nat
 |0,_,_,M=>M
 |f+1,r,hi,M=>bif decide (hi<=2*r+1) then M else
   bif decide (gt M r<gt M (bif decide (2*r+2<hi)&&decide (gt M (2*r+1)<gt M (2*r+2)) then 2*r+2 else 2*r+1)) then
    WA f (bif decide (2*r+2<hi)&&decide (gt M (2*r+1)<gt M (2*r+2)) then 2*r+2 else 2*r+1) hi (UB M r (bif decide (2*r+2<hi)&&decide (gt M (2*r+1)<gt M (2*r+2)) then 2*r+2 else 2*r+1))
   else M
def Hp (M:List Nat)(hi i:Nat):Prop:=∀c,(c=2*i+1\/c=2*i+2)->c<hi->gt M c<=gt M i
theorem MO:∀(f r hi lo:Nat) (M:List Nat),hi<=M.length->hi<=f+r->lo<=r->r<hi->(∀i,lo<=i->i≠r->Hp M hi i) ->
  (∀p,lo<=p->(r=2*p+1\/r=2*p+2)->∀c,(c=2*r+1\/c=2*r+2)->c<hi->gt M c<=gt M p) ->
  (WA f r hi M).Perm M/\(∀i,lo<=i->Hp (WA f r hi M) hi i)/\(∀x,(x<r\/hi<=x)->gt (WA f r hi M) x=gt M x)
 |0,r,hi,lo,M,_,h1,_,h3,_,_=>by omega
 |f+1,r,hi,lo,M,h0,h1,h2,h3,hH,hG=>by
  rw[WA]
  cases hd:decide (hi<=2*r+1) with
  |true =>
   have hd:=of_decide_eq_true hd;rw[cond_true];refine⟨List.Perm.refl _,fun i Uz c hc hch=>?_,fun _ _=>rfl⟩;by_cases he:i=r
   ·subst he;omega
   ·exact hH i Uz he c hc hch
  |false =>
   have hd:=of_decide_eq_false hd;rw[cond_false];obtain⟨c,hc⟩:∃c,c=bif decide (2*r+2<hi)&&decide (gt M (2*r+1)<gt M (2*r+2)) then 2*r+2 else 2*r+1:=⟨_,rfl⟩;rw[<-hc];have Mx:(c=2*r+1\/c=2*r+2)/\c<hi/\∀d,(d=2*r+1\/d=2*r+2)->d<hi->gt M d<=gt M c:=by
    cases hb:decide (2*r+2<hi)&&decide (gt M (2*r+1)<gt M (2*r+2)) with
    |true =>
     rw[hb,cond_true] at hc;rw[aab,decide_eq_true_iff,decide_eq_true_iff] at hb;refine⟨.inr hc,by omega,fun d Wy _=>?_⟩;rcases Wy with rfl|rfl <;> rw[hc] <;> omega
    |false =>
     rw[hb,cond_false] at hc;rw[Bool.and_eq_false_iff,decide_eq_false_iff_not,decide_eq_false_iff_not] at hb;refine⟨.inl hc,by omega,fun d Wy mK=>?_⟩;rcases Wy with rfl|rfl
     ·rw[hc];exact aba _
     ·rw[hc];rcases hb with hb|hb <;> omega
   obtain⟨Bo,P9,hc3⟩:=Mx
   cases Zm:decide (gt M r<gt M c) with
   |false =>
    have Zm:=of_decide_eq_false Zm;rw[cond_false];refine⟨List.Perm.refl _,fun i Uz d Wy mK=>?_,fun _ _=>rfl⟩;by_cases he:i=r
    ·subst he;have:=hc3 d Wy mK;omega
    ·exact hH i Uz he d Wy mK
   |true =>
    have Zm:=of_decide_eq_true Zm;rw[cond_true];have hr:r<M.length:=by omega
    have BG:c<M.length:=by omega
    have g:=fun x=>PL (M:=M) (i:=r) (j:=c) (x:=x) hr BG
    obtain⟨p1,p2,p3⟩:=MO f c hi lo (UB M r c) (by rw[Vj];exact h0) (by omega) (by omega) P9 (fun i Uz ZQ d Wy mK=>by
     by_cases he:i=r
     ·subst he;rw[g d,g i,if_neg (by omega:¬i=c),if_pos rfl];by_cases si:d=c
      ·rw[if_pos si];omega
      ·rw[if_neg si,if_neg (by omega)];exact hc3 d Wy mK
     ·have hb:=hH i Uz he d Wy mK;rw[g d,g i,if_neg ZQ,if_neg he];by_cases hdr:d=r
      ·subst hdr;rw[if_neg (by omega),if_pos rfl];exact hG i Uz Wy c Bo P9
      ·rw[if_neg (by omega:¬d=c),if_neg hdr];exact hb) (fun p hp hpc d Wy mK=>by
     have iU:p=r:=by omega
     subst iU;rw[g d,g p,if_neg (by omega),if_neg (by omega),if_neg (by omega),if_pos rfl];exact hH c (by omega) (by omega) d Wy mK)
    refine⟨p1.trans (XA hr BG),p2,fun x hx=>?_⟩;rw[p3 x (by omega),g x,if_neg (by omega),if_neg (by omega)]
def Uf:Nat->Nat->List Nat->List Nat
 |0,_,M=>M
 |i+1,hi,M=>Uf i hi (WA hi i hi M)
def SZ:Nat->List Nat->List Nat
 |0,M=>M
 |i+1,M=>SZ i (WA i 0 i (UB M 0 i))
def UJ (M:List Nat):List Nat:=SZ M.length (Uf ((M.length-1) / 2+1) M.length M)
theorem RG:∀(f r hi:Nat) (M:List Nat),(WA f r hi M).length=M.length
 |0,_,_,_=>rfl
 |f+1,r,hi,M=>by
  rw[WA]
  cases decide (hi<=2*r+1) with
  |true=>rfl
  |false =>
   rw[cond_false]
   cases decide (gt M r<gt M (bif decide (2*r+2<hi)&&decide (gt M (2*r+1)<gt M (2*r+2)) then 2*r+2 else 2*r+1)) with
   |true=>rw[cond_true,RG,Vj]
   |false=>rfl
theorem Mb:∀(i:Nat) (M:List Nat),i<=M.length->(∀j,i<=j->Hp M M.length j)->(Uf i M.length M).Perm M/\∀j,Hp (Uf i M.length M) M.length j
 |0,M,_,h=>⟨List.Perm.refl _,fun j=>h j (ae5 _)⟩
 |i+1,M,hi,h=>by
  obtain⟨p1,p2,_⟩:=MO M.length i M.length i M (aba _) (by omega) (aba _) (by omega) (fun j hj ZQ=>h j (by omega)) (fun p hp iU=>by omega);have hl:=RG M.length i M.length M;rw[Uf];have:=Mb i (WA M.length i M.length M) (by omega) (by rw[hl];exact p2);rw[hl] at this;exact⟨this.1.trans p1,this.2⟩
theorem tJ {M:List Nat}{hi:Nat}(h:∀j,Hp M hi j):∀x,x<hi->gt M x<=gt M 0:=by
 intro x
 induction x using Nat.strongRecOn with
 |ind x ih =>
  intro hx;by_cases h0:x=0
  ·subst h0;exact aba _
  ·have h1:=h ((x-1) / 2) x (by omega) hx;have h2:=ih ((x-1) / 2) (by omega) (by omega);omega
theorem H_:∀(i:Nat) (M:List Nat),i<=M.length->(∀j,Hp M i j)->(∀x y,x<y->i<=y->y<M.length->gt M x<=gt M y)->(SZ i M).Perm M/\∀x y,x<y->y<M.length->gt (SZ i M) x<=gt (SZ i M) y
 |0,M,_,_,h=>⟨List.Perm.refl _,fun x y Ge hy=>h x y Ge (ae5 _) hy⟩
 |i+1,M,hi,hH,hS=>by
  rw[SZ];have h0:0<M.length:=by omega
  have Gr:i<M.length:=by omega
  have g:=fun x=>PL (M:=M) (i:=0) (j:=i) (x:=x) h0 Gr
  have top:=tJ hH;have pw:=XA (M:=M) (i:=0) (j:=i) h0 Gr;have hl:(WA i 0 i (UB M 0 i)).length=M.length:=by rw[RG,Vj]
  by_cases hi0:i=0
  ·subst hi0;rw[WA];have gx:∀x,gt (UB M 0 0) x=gt M x:=fun x=>by
    rw[g x];by_cases h:x=0
    ·subst h;rfl
    ·rw[if_neg h,if_neg h]
   refine⟨?_,fun x y Ge hy=>?_⟩
   ·rw[SZ];exact pw
   ·rw[SZ,gx,gx];exact hS x y Ge (by omega) hy
  obtain⟨p1,p2,p3⟩:=MO i 0 i 0 (UB M 0 i) (by rw[Vj];omega) (by omega) (aba _) (by omega) (fun j _ ZQ c hc hch=>by
   rw[g c,g j,if_neg (by omega),if_neg (by omega)];by_cases hj:j=i
   ·subst hj;omega
   ·rw[if_neg hj,if_neg ZQ];exact hH j c hc (by omega)) (fun p _ hp=>by omega)
  have hdr:(WA i 0 i (UB M 0 i)).drop i=(UB M 0 i).drop i:=by
   refine List.ext_getElem (by rw[afQ,afQ,hl,Vj]) fun x h1 h2=>?_
   rw[afQ] at h1 h2;rw[List.getElem_drop,List.getElem_drop,<-ZJ,<-ZJ];exact p3 (i+x) (.inr (by omega))
  have nD:((WA i 0 i (UB M 0 i)).take i).Perm ((UB M 0 i).take i):=by
   have e1:=List.take_append_drop i (WA i 0 i (UB M 0 i));have e2:=List.take_append_drop i (UB M 0 i);have h:((WA i 0 i (UB M 0 i)).take i++(UB M 0 i).drop i).Perm ((UB M 0 i).take i++(UB M 0 i).drop i):=by
    rw[<-hdr,e1,hdr,e2];exact p1
   exact (List.perm_append_right_iff _).1 h
  have big:∀x,x<i->gt (WA i 0 i (UB M 0 i)) x<=gt M 0:=fun x sk=>by
   have hm:gt (WA i 0 i (UB M 0 i)) x∈(WA i 0 i (UB M 0 i)).take i:=by
    rw[ZJ (by omega)];exact List.mem_take_iff_getElem.2 ⟨x,by omega,rfl⟩
   obtain⟨y,hy,he⟩:=List.mem_take_iff_getElem.1 (nD.mem_iff.1 hm);rw[Vj] at hy;rw[<-he,<-ZJ,g y,if_neg (by omega)];by_cases h:y=0
   ·rw[if_pos h];exact top i (by omega)
   ·rw[if_neg h];exact top y (by omega)
  obtain⟨q1,q2⟩:=H_ i (WA i 0 i (UB M 0 i)) (by omega) (fun j=>p2 j (ae5 _)) fun x y Ge hy hyl=>by
   rw[hl] at hyl;rw[p3 y (.inr hy),g y];by_cases hyi:y=i
   ·rw[if_pos hyi];exact big x (by omega)
   ·rw[if_neg hyi,if_neg (by omega)];by_cases sk:x<i
    ·exact afG (big x sk) (hS 0 y (by omega) (by omega) hyl)
    ·rw[p3 x (.inr (by omega)),g x];by_cases hx:x=i
     ·rw[if_pos hx];exact hS 0 y (by omega) (by omega) hyl
     ·rw[if_neg hx,if_neg (by omega)];exact hS x y Ge (by omega) hyl
  exact⟨(q1.trans p1).trans pw,fun x y Ge hy=>q2 x y Ge (by rw[hl];exact hy)⟩
theorem Kg (M:List Nat):(UJ M).Perm M/\(UJ M).Pairwise (·<=·):=by
 unfold UJ;by_cases h0:M.length=0
 ·have:M=[]:=afq.1 h0;subst this;exact⟨List.Perm.refl _,List.Pairwise.nil⟩
 obtain⟨b1,b2⟩:=Mb ((M.length-1) / 2+1) M (by omega) (fun j hj c hc hch=>by omega);have hl:(Uf ((M.length-1) / 2+1) M.length M).length=M.length:=b1.length_eq;obtain⟨p1,p2⟩:=H_ M.length (Uf ((M.length-1) / 2+1) M.length M) (by omega) b2 (fun x y _ h1 h2=>by omega);refine⟨p1.trans b1,?_⟩;rw[afS];intro i j hi hj Ul;have OI:=p1.length_eq;have:=p2 i j Ul (by omega)
 rwa [ZJ hi,ZJ hj] at this
end Go.Am
namespace Go.Am
open Go
variable [Z3]
set_option maxRecDepth 100000
set_option maxHeartbeats 8000000
def z_ (k b:Nat)(s:St)(L:List Nat)(o:Option (AV×St)):Prop:=∃x,o=some x/\Y4 k b s L x.2
theorem XE {k b:Nat}{s s':St}{L L':List Nat}{m:Nat}{X:UK}(hR:Y4 k b s L s')(hb:b<s.next)(hm:s'.next<=m):Y4 k b s L' (((s'.upto m).put b X).put b (.cells (WT k L') 55 false 0 0)):=by
 obtain⟨_,hs,XY,YM⟩:=hR;refine⟨by rw[Z7,if_pos rfl],fun i h1 h2=>?_,?_,?_⟩
 ·rw[Z7,if_neg h2.symm,Z7,if_neg h2.symm,Z0];exact hs i h1 h2
 ·simp only[Z9,Z_];omega
 ·exact ((YM.upto hm).put (by rw[Z_];omega) _).put (by simp only[Z9,Z_];omega) _
theorem Xf {k b:Nat}{s s':St}{L:List Nat}{m:Nat}(hR:Y4 k b s L s')(hm:s'.next<=m):Y4 k b s L (s'.upto m) :=
 ⟨by rw[Z0];exact hR.1,fun i h1 h2=>by rw[Z0];exact hR.2.1 i h1 h2,by rw[Z_];have:=hR.2.2.1;omega,hR.2.2.2.upto hm⟩
theorem Zq {a:Int}{n:Nat}(h:a=(n:Int))(hn:n<2^62):IntKind.i64.wrap a=(n:Int):=by
 subst h;rw[wrap_i64] <;> omega
theorem eL {k n b:Nat}{cap:Option Nat}{P M S:List Nat}(WX:0<k)(hL:P.length+M.length+S.length=n)(hn:n<=2^20){s:St}(gb:s.get b=some (.cells (WT k (P++M++S)) 55 false 0 0))(hb:b<s.next)(fr:Fr s){f r hi:Nat}(D2:hi<=M.length)(hf:hi<=f+r)(hr:r<=2^20) :
  ∃v s',WW U 226 [.sl b 0 n cap 2,.int .i64 (r:Nat),.int .i64 (hi:Nat),.int .i64 (P.length:Nat),.fn (.func 91) [] []] s=some (v,s')/\Y4 k b s (P++WA f r hi M++S) s':=by
 suffices TK:z_ k b s (P++WA f r hi M++S) (go U (XZ U []) [] gG (ZM 0 [.sl b 0 n cap 2,.int .i64 (r:Nat),.int .i64 (hi:Nat),.int .i64 (P.length:Nat),.fn (.func 91) [] []] .nil) s) by
  obtain⟨x,h1,h2⟩:=TK;exact⟨x.1,x.2,Y3 aec (by kernel_rfl) h1,h2⟩
 simp only[go_sem,gG];refine ZC (ZV:=z_ k b s (P++WA f r hi M++S)) (σ:=Nat×Nat) (fun p=>p.1) (fun p e' s'=>Env.get e' 0=.sl b 0 n cap 2/\Env.get e' 2=.int .i64 (hi:Nat)/\Env.get e' 3=.int .i64 (P.length:Nat)/\Env.get e' 4=.fn (.func 91) [] []/\Env.get e' 10=.int .i64 (p.2:Nat)/\hi<=p.1+p.2/\p.2<=2^20 /\
   ∃L',L'.length=M.length/\Y4 k b s (P++L'++S) s'/\WA p.1 p.2 hi L'=WA f r hi M) (f,r) ?_
  ⟨?_,?_,?_,?_,?_,hf,hr,M,rfl,⟨gb,fun _ _ _=>rfl,aba _,fr⟩,rfl⟩
 ·rintro Lp ⟨g,q⟩ e' s' ⟨q0,q2,q3,q4,Um,hg,hq,L',Hy,hR,Zp⟩ IH;simp only at Um hg hq Zp;obtain⟨qb,hs,XY,YM⟩:=id hR;have w1:IntKind.i64.wrap (2*((q:Nat):Int))=((2*q:Nat):Int):=Zq (by omega) (by omega);have w2:IntKind.i64.wrap (((2*q:Nat):Int)+1)=((2*q+1:Nat):Int):=Zq (by omega) (by omega);by_cases hd:hi<=2*q+1
  ·have SY:decide (((2*q+1:Nat):Int)>=((hi:Nat):Int))=true:=decide_eq_true (by omega);have e:WA g q hi L'=L':=by
    cases g with
    |zero=>rfl
    |succ g=>rw[WA,decide_eq_true hd,cond_true]
   rw[e] at Zp;subst Zp;simp only[go_sem,NH,q2,Um,w1,w2,SY];exact⟨_,rfl,hR⟩
  ·obtain⟨g,rfl⟩:∃g',g=g'+1:=⟨g-1,by omega⟩;have SY:decide (((2*q+1:Nat):Int)>=((hi:Nat):Int))=false:=decide_eq_false (by omega);rw[WA,decide_eq_false hd,cond_false] at Zp;have w3:IntKind.i64.wrap (((2*q+1:Nat):Int)+1)=((2*q+2:Nat):Int):=Zq (by omega) (by omega);have w4:IntKind.i64.wrap (((P.length:Nat):Int)+((2*q+1:Nat):Int))=((P.length+(2*q+1):Nat):Int):=Zq (by omega) (by omega);have w5:IntKind.i64.wrap (((P.length+(2*q+1):Nat):Int)+1)=((P.length+(2*q+2):Nat):Int):=Zq (by omega) (by omega);have second:∀(c:Nat) (E:Env) (s2:St),c<hi->(c=2*q+1\/c=2*q+2)->(bif decide (gt L' q<gt L' c) then WA g c hi (UB L' q c) else L')=WA f r hi M->Y4 k b s (P++L'++S) s2->Env.get E 0=.sl b 0 n cap 2->Env.get E 2=.int .i64 (hi:Nat)->Env.get E 3=.int .i64 (P.length:Nat)->Env.get E 4=.fn (.func 91) [] []->Env.get E 10=.int .i64 (q:Nat)->Env.get E 11=.int .i64 (c:Nat) ->
     z_ k b s (P++WA f r hi M++S) (go U (XZ U []) [.bk 1,.lp Lp,.bk 0] Gw E s2):=by
    intro c E s2 hch hcq Zp TB p0 p2 p3 p4 G5 DU;obtain⟨pb,WC,NA,TC⟩:=id TB;have hc:c<L'.length:=by omega
    have qo:q<L'.length:=by omega
    have v1:IntKind.i64.wrap (((P.length:Nat):Int)+((q:Nat):Int))=((P.length+q:Nat):Int):=Zq (by omega) (by omega);have v2:IntKind.i64.wrap (((P.length:Nat):Int)+((c:Nat):Int))=((P.length+c:Nat):Int):=Zq (by omega) (by omega);have r1:=YW k (P:=P) (M:=L') (S:=S) qo;have r2:=YW k (P:=P) (M:=L') (S:=S) hc;have c1:=Pc ((L'[q] / k:Nat):Int) ((L'[q]%k:Nat):Int) ((L'[c] / k:Nat):Int) ((L'[c]%k:Nat):Int);have o1:=(XC (k:=k) (c:=L'[q]) (d:=L'[c]) WX).1;have h1:P.length+q<n:=by omega
    have h2:P.length+c<n:=by omega
    rw[ZJ qo,ZJ hc] at Zp;have y1:=VB k (P:=P) (M:=L') (S:=S) (i:=q) L'[c] qo;have y2:=VB k (P:=P) (M:=L'.set q L'[c]) (S:=S) (i:=c) L'[q] (by simpa using hc)
    cases Zm:decide (L'[q]<L'[c]) with
    |true =>
     rw[Zm] at o1 Zp;rw[cond_true] at Zp;simp only[go_sem,Gw,p0,p3,p4,G5,DU,pb,v1,v2,r1,r2,c1,o1,h1,h2,ad4,y1,y2];have xl:UB L' q c=(L'.set q L'[c]).set c L'[q]:=by unfold UB;rw[ZJ qo,ZJ hc]
     rw[xl] at Zp;refine IH (g,c) _ _ (by simp only;omega) ⟨?_,?_,?_,?_,?_,by simp only;omega,by simp only;omega,(L'.set q L'[c]).set c L'[q],by simp[Hy],XE (Xf TB (by omega)) hb (by rw[Z_];omega),Zp⟩
     all_goals simp only[go_sem,p0,p2,p3,p4]
    |false =>
     rw[Zm] at o1 Zp;rw[cond_false] at Zp;subst Zp;simp only[go_sem,Gw,p0,p3,p4,G5,DU,pb,v1,v2,r1,r2,c1,o1,h1,h2,ad4];exact⟨_,rfl,Xf TB (by omega)⟩
   by_cases hD:2*q+2<hi
   ·have Zm:decide (((2*q+2:Nat):Int)<((hi:Nat):Int))=true:=decide_eq_true (by omega);have a1:2*q+1<L'.length:=by omega
    have a2:2*q+2<L'.length:=by omega
    have r1:=YW k (P:=P) (M:=L') (S:=S) a1;have r2:=YW k (P:=P) (M:=L') (S:=S) a2;have c1:=Pc ((L'[2*q+1] / k:Nat):Int) ((L'[2*q+1]%k:Nat):Int) ((L'[2*q+2] / k:Nat):Int) ((L'[2*q+2]%k:Nat):Int);have o1:=(XC (k:=k) (c:=L'[2*q+1]) (d:=L'[2*q+2]) WX).1;have h1:P.length+(2*q+1)<n:=by omega
    have h2:P.length+(2*q+2)<n:=by omega
    rw[decide_eq_true hD,afU,ZJ a1,ZJ a2] at Zp
    cases hE:decide (L'[2*q+1]<L'[2*q+2]) with
    |true =>
     rw[hE] at o1;rw[hE,cond_true] at Zp;simp only[go_sem,NH,q0,q2,q3,q4,Um,w1,w2,w3,w4,w5,SY,Zm,qb,r1,r2,c1,o1,h1,h2,ad4];refine second (2*q+2) _ _ hD (.inr rfl) Zp (Xf hR (by omega)) ?_ ?_ ?_ ?_ ?_ ?_
     all_goals simp only[go_sem,q0,q2,q3,q4,Um]
    |false =>
     rw[hE] at o1;rw[hE,cond_false] at Zp;simp only[go_sem,NH,q0,q2,q3,q4,Um,w1,w2,w3,w4,w5,SY,Zm,qb,r1,r2,c1,o1,h1,h2,ad4];refine second (2*q+1) _ _ (by omega) (.inl rfl) Zp (Xf hR (by omega)) ?_ ?_ ?_ ?_ ?_ ?_
     all_goals simp only[go_sem,q0,q2,q3,q4,Um]
   ·have Zm:decide (((2*q+2:Nat):Int)<((hi:Nat):Int))=false:=decide_eq_false (by omega);rw[decide_eq_false hD,Bool.false_and,cond_false] at Zp;simp only[go_sem,NH,q0,q2,q3,q4,Um,w1,w2,w3,w4,w5,SY,Zm,qb,ad4];refine second (2*q+1) _ _ (by omega) (.inl rfl) Zp (Xf hR (by omega)) ?_ ?_ ?_ ?_ ?_ ?_
    all_goals simp only[go_sem,q0,q2,q3,q4,Um]
 all_goals simp only[go_sem]
theorem nO (args:List AV)(s:St):YX U (Zv U 226 args) 226 args s=WW U 226 args s:=(Zu ..).symm
theorem O7 (X:Cx)(t:TypeId)(c:Bool){n d:Nat}(h:n<2^62)(hd:0<d):X_ X .quo t c (.int .i64 (n:Int)) (.int .i64 (d:Int))=some (.int .i64 ((n / d:Nat):Int)):=by
 have hle:n / d<=n:=Nat.div_le_self n d;have e:((n:Int).tdiv (d:Int))=((n / d:Nat):Int):=rfl;have sm:¬(d:Int)=0:=by omega
 simp only[X_,RH,e,if_true];rw[if_neg sm,Zq rfl (by exact afA hle h)]
theorem abl {k n b:Nat}{cap:Option Nat}{P M S:List Nat}(WX:0<k)(hL:P.length+M.length+S.length=n)(hn:n<=2^20)(hM:1<=M.length){s:St}(gb:s.get b=some (.cells (WT k (P++M++S)) 55 false 0 0))(hb:b<s.next)(fr:Fr s) :
  ∃v s',WW U 198 [.sl b 0 n cap 2,.int .i64 (P.length:Nat),.int .i64 (P.length+M.length:Nat),.fn (.func 91) [] []] s=some (v,s')/\Y4 k b s (P++UJ M++S) s':=by
 suffices TK:z_ k b s (P++UJ M++S) (go U (XZ U []) [] lW (ZM 0 [.sl b 0 n cap 2,.int .i64 (P.length:Nat),.int .i64 (P.length+M.length:Nat),.fn (.func 91) [] []] .nil) s) by
  obtain⟨x,h1,h2⟩:=TK;exact⟨x.1,x.2,Y3 abm (by kernel_rfl) h1,h2⟩
 have w1:IntKind.i64.wrap (((P.length+M.length:Nat):Int)-((P.length:Nat):Int))=((M.length:Nat):Int):=Zq (by omega) (by omega);have w2:IntKind.i64.wrap (((M.length:Nat):Int)-1)=((M.length-1:Nat):Int):=Zq (by omega) (by omega);have w3:X_ U .quo 3 true (.int .i64 ((M.length-1:Nat):Int)) (.int .i64 2)=some (.int .i64 (((M.length-1) / 2:Nat):Int)):=O7 U 3 true (d:=2) (by omega) (by omega);simp only[go_sem,lW,w1,w2,w3];have eM:decide ((-1:Int)>=0)=false:=rfl;refine ZC (ZV:=z_ k b s (P++UJ M++S)) (σ:=Nat) (fun c=>c) (fun c e' s'=>c<=M.length/\Env.get e' 0=.sl b 0 n cap 2/\Env.get e' 3=.fn (.func 91) [] []/\Env.get e' 8=.int .i64 (P.length:Nat)/\Env.get e' 9=.int .i64 0/\Env.get e' 10=.int .i64 (M.length:Nat)/\Env.get e' 11=.int .i64 ((c:Int)-1) /\
   ∃L',L'.length=M.length/\Y4 k b s (P++L'++S) s'/\Uf c M.length L'=Uf ((M.length-1) / 2+1) M.length M) ((M.length-1) / 2+1) ?_
  ⟨by omega,?_,?_,?_,?_,?_,?_,M,rfl,⟨gb,fun _ _ _=>rfl,aba _,fr⟩,rfl⟩
 ·rintro Lp c e' s' ⟨hcM,q0,q3,q8,q9,Um,NB,L',Hy,hR,Zp⟩ IH;obtain⟨qb,hs,XY,YM⟩:=id hR
  cases c with
  |succ i =>
   have e1:(((i+1:Nat):Int)-1)=((i:Nat):Int):=by omega
   rw[e1] at NB;have SY:decide (((i:Nat):Int)>=0)=true:=decide_eq_true (by omega);have wi:IntKind.i64.wrap (((i:Nat):Int)-1)=((i:Nat):Int)-1:=by rw[wrap_i64] <;> omega
   rw[Uf] at Zp;obtain⟨v,s2,XF,TB⟩:=eL (cap:=cap) WX (P:=P) (M:=L') (S:=S) (n:=n) (by omega) hn qb (by omega) YM (f:=M.length) (r:=i) (hi:=M.length) (by omega) (by omega) (by omega);simp only[go_sem,Hx,q0,q3,q8,Um,NB,SY,nO,XF,wi];refine IH i _ _ (by omega) ⟨by omega,?_,?_,?_,?_,?_,?_,WA M.length i M.length L',by rw[RG];exact Hy,hR.trans TB,Zp⟩
   all_goals simp only[go_sem,q0,q3,q8,q9,Um]
  |zero =>
   have NB:Env.get e' 11=.int .i64 (-1):=NB;rw[Uf] at Zp;simp only[go_sem,Hx,Um,NB,eM,w2];have rG:UJ M=SZ M.length L':=by unfold UJ;rw[<-Zp]
   rw[rG];refine ZC (ZV:=z_ k b s (P++SZ M.length L'++S)) (σ:=Nat) (fun c=>c) (fun c e' s'=>c<=M.length/\Env.get e' 0=.sl b 0 n cap 2/\Env.get e' 3=.fn (.func 91) [] []/\Env.get e' 8=.int .i64 (P.length:Nat)/\Env.get e' 9=.int .i64 0/\Env.get e' 12=.int .i64 ((c:Int)-1) /\
     ∃L2,L2.length=M.length/\Y4 k b s (P++L2++S) s'/\SZ c L2=SZ M.length L') M.length ?_
    ⟨aba _,?_,?_,?_,?_,?_,L',Hy,hR,rfl⟩
   ·rintro Lq c e2 s2 ⟨aey,p0,p3,p8,p9,L0,L2,hL2,TB,BJ⟩ IH2;obtain⟨nM,WC,K2,TC⟩:=id TB
    cases c with
    |succ i =>
     have e1:(((i+1:Nat):Int)-1)=((i:Nat):Int):=by omega
     rw[e1] at L0;have SY:decide (((i:Nat):Int)>=0)=true:=decide_eq_true (by omega);have wi:IntKind.i64.wrap (((i:Nat):Int)-1)=((i:Nat):Int)-1:=by rw[wrap_i64] <;> omega
     have wa:IntKind.i64.wrap (((P.length:Nat):Int)+((i:Nat):Int))=((P.length+i:Nat):Int):=Zq (by omega) (by omega);have h0:0<L2.length:=by omega
     have hi:i<L2.length:=by omega
     have b0:P.length<n:=by omega
     have bi:P.length+i<n:=by omega
     have r0:=YW k (P:=P) (M:=L2) (S:=S) h0;have ri:=YW k (P:=P) (M:=L2) (S:=S) hi;have y0:=VB k (P:=P) (M:=L2) (S:=S) (i:=0) L2[i] h0;have y1:=VB k (P:=P) (M:=L2.set 0 L2[i]) (S:=S) (i:=i) L2[0] (by simpa using hi);rw[afD] at r0 y0;have xl:UB L2 0 i=(L2.set 0 L2[i]).set i L2[0]:=by unfold UB;rw[ZJ h0,ZJ hi]
     rw[SZ,xl] at BJ;obtain⟨S3,hS3⟩:∃S3,S3=((s2.upto (s2.next+20)).put b (.cells (WT k (P++L2.set 0 L2[i]++S)) 55 false 0 0)).put b (.cells (WT k (P++(L2.set 0 L2[i]).set i L2[0]++S)) 55 false 0 0):=⟨_,rfl⟩;have JC:Y4 k b s (P++(L2.set 0 L2[i]).set i L2[0]++S) S3:=by rw[hS3];exact XE TB hb (by omega)
     obtain⟨v,s4,XF,nL⟩:=eL (cap:=cap) WX (P:=P) (M:=(L2.set 0 L2[i]).set i L2[0]) (S:=S) (n:=n) (by simp;omega) hn JC.1 (by have:=JC.2.2.1;omega) JC.2.2.2 (f:=i) (r:=0) (hi:=i) (by simp;omega) (by omega) (by omega);have XF:WW U 226 [.sl b 0 n cap 2,.int .i64 0,.int .i64 (i:Nat),.int .i64 (P.length:Nat),.fn (.func 91) [] []] S3=some (v,s4):=XF;rw[hS3] at XF;simp only[go_sem,Hw,p0,p3,p8,p9,L0,SY,nM,wa,b0,bi,r0,ri,y0,y1,ad4,nO,XF,wi];refine IH2 i _ _ (by omega) ⟨by omega,?_,?_,?_,?_,?_,WA i 0 i ((L2.set 0 L2[i]).set i L2[0]),by rw[RG];simp[hL2],JC.trans nL,BJ⟩
     all_goals simp only[go_sem,p0,p3,p8,p9]
    |zero =>
     have L0:Env.get e2 12=.int .i64 (-1):=L0;rw[SZ] at BJ;subst BJ;simp only[go_sem,Hw,L0,eM];exact⟨_,rfl,TB⟩
   all_goals simp only[go_sem,q0,q3,q8,q9]
   all_goals first|rfl|(congr 1;omega)
 all_goals simp only[go_sem]
 all_goals first|rfl|(congr 1;omega)
theorem XI {M:List Nat}{i j:Nat}(hi:i<M.length)(hj:j<M.length):(M.set i M[j]).set j M[i]=UB M i j:=by
 unfold UB;rw[ZJ hi,ZJ hj]
theorem acO {k n b:Nat}{cap:Option Nat}{P M S:List Nat}(hL:P.length+M.length+S.length=n)(hn:n<=2^20)(hM:1<=M.length){fn:AV}{s:St}(gb:s.get b=some (.cells (WT k (P++M++S)) 55 false 0 0))(hb:b<s.next)(fr:Fr s) :
  ∃v s' M',WW U 201 [.sl b 0 n cap 2,.int .i64 (P.length:Nat),.int .i64 (P.length+M.length:Nat),fn] s=some (v,s')/\Y4 k b s (P++M'++S) s'/\M'.Perm M:=by
 suffices TK:∃x M',go U (XZ U []) [] iM (ZM 0 [.sl b 0 n cap 2,.int .i64 (P.length:Nat),.int .i64 (P.length+M.length:Nat),fn] .nil) s=some x/\Y4 k b s (P++M'++S) x.2/\M'.Perm M by
  obtain⟨x,M',h1,h2⟩:=TK;exact⟨x.1,x.2,M',Y3 ads (by kernel_rfl) h1,h2⟩
 have w1:IntKind.i64.wrap (((P.length+M.length:Nat):Int)-1)=((P.length+(M.length-1):Nat):Int):=Zq (by omega) (by omega);simp only[go_sem,iM,w1];refine ZC (ZV:=fun (o:Option (AV×St))=>∃x M',o=some x/\Y4 k b s (P++M'++S) x.2/\M'.Perm M) (σ:=Nat×Nat) (fun p=>p.2) (fun p e' s'=>p.2<M.length/\Env.get e' 0=.sl b 0 n cap 2/\Env.get e' 8=.int .i64 (P.length+p.1:Nat)/\Env.get e' 9=.int .i64 (P.length+p.2:Nat)/\p.1<=M.length /\
   ∃L',L'.length=M.length/\Y4 k b s (P++L'++S) s'/\L'.Perm M) (0,M.length-1) ?_
  ⟨by simp only;omega,?_,?_,?_,ae5 _,M,rfl,⟨gb,fun _ _ _=>rfl,aba _,fr⟩,List.Perm.refl _⟩
 ·rintro Lp ⟨i,j⟩ e' s' ⟨hj,q0,q8,q9,Uz,L',Hy,hR,hp⟩ IH;simp only at hj q8 q9 Uz;obtain⟨qb,hs,XY,YM⟩:=id hR;by_cases hd:i<j
  ·have Wy:P.length+i<P.length+j:=by omega
   have ai:i<L'.length:=by omega
   have aj:j<L'.length:=by omega
   have bi:P.length+i<n:=by omega
   have bj:P.length+j<n:=by omega
   have ri:=YW k (P:=P) (M:=L') (S:=S) ai;have rj:=YW k (P:=P) (M:=L') (S:=S) aj;have y0:=VB k (P:=P) (M:=L') (S:=S) (i:=i) L'[j] ai;have y1:=VB k (P:=P) (M:=L'.set i L'[j]) (S:=S) (i:=j) L'[i] (by simpa using aj);have w2:IntKind.i64.wrap (((P.length+i:Nat):Int)+1)=((P.length+(i+1):Nat):Int):=Zq (by omega) (by omega);have w3:IntKind.i64.wrap (((P.length+j:Nat):Int)-1)=((P.length+(j-1):Nat):Int):=Zq (by omega) (by omega);simp only[go_sem,GH,q0,q8,q9,Z8,Wy,qb,bi,bj,ri,rj,y0,y1,w2,w3,ad4];refine IH (i+1,j-1) _ _ (by simp only;omega) ⟨by simp only;omega,?_,?_,?_,by simp only;omega,(L'.set i L'[j]).set j L'[i],by simp[Hy],XE hR hb (by omega),by rw[XI ai aj];exact (XA ai aj).trans hp⟩
   all_goals simp only[go_sem,q0]
  ·have Wy:¬P.length+i<P.length+j:=by omega
   simp only[go_sem,GH,q8,q9,Z8,Wy];exact⟨_,L',rfl,hR,hp⟩
 all_goals simp only[go_sem]
 all_goals rfl
theorem dx {β:Type}{fin:Fl->β}{ks:List K}{ZV:β->Prop}{k n b i j:Nat}{cap:Option Nat}{P L S:List Nat}(WX:0<k)(hL:P.length+L.length+S.length=n)(hn:n<=2^20)(hi:1<=i)(Ul:i<=j+1)(hj:j<L.length)
  {e:Env}{s:St}(g0:Env.get e 0=.sl b 0 n cap 2)(g1:Env.get e 1=.int .i64 (P.length:Nat))(g4:Env.get e 4=.fn (.func 91) [] [])(OT:Env.get e 12=.int .i64 (P.length+i:Nat))(LV:Env.get e 13=.int .i64 (P.length+j:Nat))(gb:s.get b=some (.cells (WT k (P++L++S)) 55 false 0 0))(fr:Fr s)
  (hk:∀e' s' i',(∀t:Nat,t<32->t≠12->Env.get e' t=Env.get e t)->Env.get e' 12=.int .i64 (P.length+i':Nat)->i<=i'->i'<=j+1->(∀x,i<=x->x<i'->gt L x<gt L 0)->(i'=j+1\/¬gt L i'<gt L 0)->(∀j,s'.get j=s.get j)->s.next<=s'.next->Fr s'->ZV (goN U fin ks e' s')) :
  ZV (Vx U fin (.bk 0::ks) Oq e s):=by
 refine ZC (σ:=Nat) (fun q=>j+1-q) (fun q e' s'=>i<=q/\q<=j+1/\(∀t:Nat,t<32->t≠12->Env.get e' t=Env.get e t)/\Env.get e' 12=.int .i64 (P.length+q:Nat)/\(∀x,i<=x->x<q->gt L x<gt L 0)/\(∀j,s'.get j=s.get j)/\s.next<=s'.next/\Fr s') i ?_
  ⟨aba _,Ul,fun _ _ _=>rfl,OT,fun x h1 h2=>by omega,fun _=>rfl,aba _,fr⟩
 rintro Lp q e' s' ⟨h1,h2,hold,RR,Zm,hs,XY,YM⟩ IH;have q0:=(hold 0 (by omega) (by omega)).trans g0;have q1:=(hold 1 (by omega) (by omega)).trans g1;have q4:=(hold 4 (by omega) (by omega)).trans g4;have U6:=(hold 13 (by omega) (by omega)).trans LV;have qb:=(hs b).trans gb;have ZQ:∀t:Nat,t<32->t≠12->(12=t)=False/\∀k:Nat,32<=k->(k=t)=False:=fun t h1 h2=>⟨by simp;omega,fun k hk=>by simp;omega⟩
 by_cases hd:q<=j
 ·have d0:decide (((P.length+q:Nat):Int)<=((P.length+j:Nat):Int))=true:=decide_eq_true (by omega);have aq:q<L.length:=by omega
  have a0:0<L.length:=by omega
  have bq:P.length+q<n:=by omega
  have b0:P.length<n:=by omega
  have rq:=YW k (P:=P) (M:=L) (S:=S) aq;have r0:=YW k (P:=P) (M:=L) (S:=S) a0;rw[afD] at r0;have c1:=Pc ((L[q] / k:Nat):Int) ((L[q]%k:Nat):Int) ((L[0] / k:Nat):Int) ((L[0]%k:Nat):Int);have o1:=(XC (k:=k) (c:=L[q]) (d:=L[0]) WX).1;have w1:IntKind.i64.wrap (((P.length+q:Nat):Int)+1)=((P.length+(q+1):Nat):Int):=Zq (by omega) (by omega)
  cases hc:decide (L[q]<L[0]) with
  |true =>
   rw[hc] at o1;have hc:=of_decide_eq_true hc;simp only[go_sem,Oq,q0,q1,q4,RR,U6,d0,qb,bq,b0,rq,r0,c1,o1,w1,ad4];refine IH (q+1) _ _ (by omega) ⟨by omega,by omega,fun t h3 h4=>?_,?_,fun x h3 h4=>?_,fun j=>by rw[Z0];exact hs j,by rw[Z_];omega,YM.upto (by omega)⟩
   ·obtain⟨Iv,ZQ⟩:=ZQ t h3 h4;simp only[go_sem,Iv,ZQ];exact hold t h3 h4
   ·simp only[go_sem]
   ·by_cases hx:x=q
    ·subst hx;rw[ZJ aq,ZJ a0];exact hc
    ·exact Zm x h3 (by omega)
  |false =>
   rw[hc] at o1;have hc:=of_decide_eq_false hc;simp only[go_sem,Oq,q0,q1,q4,RR,U6,d0,qb,bq,b0,rq,r0,c1,o1,w1,ad4];refine hk _ _ q (fun t h3 h4=>?_) ?_ h1 h2 Zm (.inr (by rw[ZJ aq,ZJ a0];exact hc)) (fun j=>by rw[Z0];exact hs j) (by rw[Z_];omega) (YM.upto (by omega))
   ·obtain⟨Iv,ZQ⟩:=ZQ t h3 h4;simp only[go_sem,ZQ];exact hold t h3 h4
   ·simp only[go_sem,RR]
 ·have d0:decide (((P.length+q:Nat):Int)<=((P.length+j:Nat):Int))=false:=decide_eq_false (by omega);simp only[go_sem,Oq,q0,q1,q4,RR,U6,d0];refine hk _ _ q (fun t h3 h4=>?_) ?_ h1 h2 Zm (.inl (by omega)) (fun j=>by rw[Z0];exact hs j) (by rw[Z_];omega) (YM.upto (by omega))
  ·obtain⟨Iv,ZQ⟩:=ZQ t h3 h4;simp only[go_sem,ZQ];exact hold t h3 h4
  ·simp only[go_sem,RR]
theorem dw {β:Type}{fin:Fl->β}{ks:List K}{ZV:β->Prop}{k n b i j:Nat}{cap:Option Nat}{P L S:List Nat}(WX:0<k)(hL:P.length+L.length+S.length=n)(hn:n<=2^20)(hi:1<=i)(Ul:i<=j+1)(hj:j<L.length)
  {e:Env}{s:St}(g0:Env.get e 0=.sl b 0 n cap 2)(g1:Env.get e 1=.int .i64 (P.length:Nat))(g4:Env.get e 4=.fn (.func 91) [] [])(OT:Env.get e 12=.int .i64 (P.length+i:Nat))(LV:Env.get e 13=.int .i64 (P.length+j:Nat))(gb:s.get b=some (.cells (WT k (P++L++S)) 55 false 0 0))(fr:Fr s)
  (hk:∀e' s' j',(∀t:Nat,t<32->t≠13->Env.get e' t=Env.get e t)->Env.get e' 13=.int .i64 (P.length+j':Nat)->j'<=j->i<=j'+1->(∀x,j'<x->x<=j->¬gt L x<gt L 0)->(i=j'+1\/gt L j'<gt L 0)->(∀j,s'.get j=s.get j)->s.next<=s'.next->Fr s'->ZV (goN U fin ks e' s')) :
  ZV (Vx U fin (.bk 2::ks) Oo e s):=by
 refine ZC (σ:=Nat) (fun q=>q) (fun q e' s'=>q<=j/\i<=q+1/\(∀t:Nat,t<32->t≠13->Env.get e' t=Env.get e t)/\Env.get e' 13=.int .i64 (P.length+q:Nat)/\(∀x,q<x->x<=j->¬gt L x<gt L 0)/\(∀j,s'.get j=s.get j)/\s.next<=s'.next/\Fr s') j ?_
  ⟨aba _,Ul,fun _ _ _=>rfl,LV,fun x h1 h2=>by omega,fun _=>rfl,aba _,fr⟩
 rintro Lp q e' s' ⟨h1,h2,hold,U6,Zm,hs,XY,YM⟩ IH;have q0:=(hold 0 (by omega) (by omega)).trans g0;have q1:=(hold 1 (by omega) (by omega)).trans g1;have q4:=(hold 4 (by omega) (by omega)).trans g4;have RR:=(hold 12 (by omega) (by omega)).trans OT;have qb:=(hs b).trans gb;have ZQ:∀t:Nat,t<32->t≠13->(13=t)=False/\∀k:Nat,32<=k->(k=t)=False:=fun t h1 h2=>⟨by simp;omega,fun k hk=>by simp;omega⟩
 by_cases hd:i<=q
 ·have d0:decide (((P.length+i:Nat):Int)<=((P.length+q:Nat):Int))=true:=decide_eq_true (by omega);have aq:q<L.length:=by omega
  have a0:0<L.length:=by omega
  have bq:P.length+q<n:=by omega
  have b0:P.length<n:=by omega
  have rq:=YW k (P:=P) (M:=L) (S:=S) aq;have r0:=YW k (P:=P) (M:=L) (S:=S) a0;rw[afD] at r0;have c1:=Pc ((L[q] / k:Nat):Int) ((L[q]%k:Nat):Int) ((L[0] / k:Nat):Int) ((L[0]%k:Nat):Int);have o1:=(XC (k:=k) (c:=L[q]) (d:=L[0]) WX).1;have w1:IntKind.i64.wrap (((P.length+q:Nat):Int)-1)=((P.length+(q-1):Nat):Int):=Zq (by omega) (by omega)
  cases hc:decide (L[q]<L[0]) with
  |false =>
   rw[hc] at o1;have hc:=of_decide_eq_false hc;simp only[go_sem,Oo,q0,q1,q4,RR,U6,d0,qb,bq,b0,rq,r0,c1,o1,w1,ad4];refine IH (q-1) _ _ (by omega) ⟨by omega,by omega,fun t h3 h4=>?_,?_,fun x h3 h4=>?_,fun j=>by rw[Z0];exact hs j,by rw[Z_];omega,YM.upto (by omega)⟩
   ·obtain⟨G2,ZQ⟩:=ZQ t h3 h4;simp only[go_sem,G2,ZQ];exact hold t h3 h4
   ·simp only[go_sem]
   ·by_cases hx:x=q
    ·subst hx;rw[ZJ aq,ZJ a0];exact hc
    ·exact Zm x (by omega) h4
  |true =>
   rw[hc] at o1;have hc:=of_decide_eq_true hc;simp only[go_sem,Oo,q0,q1,q4,RR,U6,d0,qb,bq,b0,rq,r0,c1,o1,w1,ad4];refine hk _ _ q (fun t h3 h4=>?_) ?_ h1 h2 Zm (.inr (by rw[ZJ aq,ZJ a0];exact hc)) (fun j=>by rw[Z0];exact hs j) (by rw[Z_];omega) (YM.upto (by omega))
   ·obtain⟨G2,ZQ⟩:=ZQ t h3 h4;simp only[go_sem,ZQ];exact hold t h3 h4
   ·simp only[go_sem,U6]
 ·have d0:decide (((P.length+i:Nat):Int)<=((P.length+q:Nat):Int))=false:=decide_eq_false (by omega);simp only[go_sem,Oo,q0,q1,q4,RR,U6,d0];refine hk _ _ q (fun t h3 h4=>?_) ?_ h1 h2 Zm (.inl (by omega)) (fun j=>by rw[Z0];exact hs j) (by rw[Z_];omega) (YM.upto (by omega))
  ·obtain⟨G2,ZQ⟩:=ZQ t h3 h4;simp only[go_sem,ZQ];exact hold t h3 h4
  ·simp only[go_sem,U6]
theorem kq {β:Type}{fin:Fl->β}{ks:List K}{ZV:β->Prop}{k n b i j:Nat}{cap:Option Nat}{P L S:List Nat}(WX:0<k)(hL:P.length+L.length+S.length=n)(hn:n<=2^20)(hi:1<=i)(Ul:i<=j+1)(hj:j<L.length)
  {e:Env}{s:St}(g0:Env.get e 0=.sl b 0 n cap 2)(g1:Env.get e 1=.int .i64 (P.length:Nat))(g4:Env.get e 4=.fn (.func 91) [] [])(OT:Env.get e 12=.int .i64 (P.length+i:Nat))(LV:Env.get e 13=.int .i64 (P.length+j:Nat))(gb:s.get b=some (.cells (WT k (P++L++S)) 55 false 0 0))(fr:Fr s)
  (hk:∀e' s' i',(∀t:Nat,t<32->t≠12->Env.get e' t=Env.get e t)->Env.get e' 12=.int .i64 (P.length+i':Nat)->i<=i'->i'<=j+1->(∀x,i<=x->x<i'->gt L x<gt L 0)->(i'=j+1\/¬gt L i'<gt L 0)->(∀j,s'.get j=s.get j)->s.next<=s'.next->Fr s'->ZV (goN U fin ks e' s')) :
  ZV (Vx U fin (.bk 6::ks) On e s):=by
 refine ZC (σ:=Nat) (fun q=>j+1-q) (fun q e' s'=>i<=q/\q<=j+1/\(∀t:Nat,t<32->t≠12->Env.get e' t=Env.get e t)/\Env.get e' 12=.int .i64 (P.length+q:Nat)/\(∀x,i<=x->x<q->gt L x<gt L 0)/\(∀j,s'.get j=s.get j)/\s.next<=s'.next/\Fr s') i ?_
  ⟨aba _,Ul,fun _ _ _=>rfl,OT,fun x h1 h2=>by omega,fun _=>rfl,aba _,fr⟩
 rintro Lp q e' s' ⟨h1,h2,hold,RR,Zm,hs,XY,YM⟩ IH;have q0:=(hold 0 (by omega) (by omega)).trans g0;have q1:=(hold 1 (by omega) (by omega)).trans g1;have q4:=(hold 4 (by omega) (by omega)).trans g4;have U6:=(hold 13 (by omega) (by omega)).trans LV;have qb:=(hs b).trans gb;have ZQ:∀t:Nat,t<32->t≠12->(12=t)=False/\∀k:Nat,32<=k->(k=t)=False:=fun t h1 h2=>⟨by simp;omega,fun k hk=>by simp;omega⟩
 by_cases hd:q<=j
 ·have d0:decide (((P.length+q:Nat):Int)<=((P.length+j:Nat):Int))=true:=decide_eq_true (by omega);have aq:q<L.length:=by omega
  have a0:0<L.length:=by omega
  have bq:P.length+q<n:=by omega
  have b0:P.length<n:=by omega
  have rq:=YW k (P:=P) (M:=L) (S:=S) aq;have r0:=YW k (P:=P) (M:=L) (S:=S) a0;rw[afD] at r0;have c1:=Pc ((L[q] / k:Nat):Int) ((L[q]%k:Nat):Int) ((L[0] / k:Nat):Int) ((L[0]%k:Nat):Int);have o1:=(XC (k:=k) (c:=L[q]) (d:=L[0]) WX).1;have w1:IntKind.i64.wrap (((P.length+q:Nat):Int)+1)=((P.length+(q+1):Nat):Int):=Zq (by omega) (by omega)
  cases hc:decide (L[q]<L[0]) with
  |true =>
   rw[hc] at o1;have hc:=of_decide_eq_true hc;simp only[go_sem,On,q0,q1,q4,RR,U6,d0,qb,bq,b0,rq,r0,c1,o1,w1,ad4];refine IH (q+1) _ _ (by omega) ⟨by omega,by omega,fun t h3 h4=>?_,?_,fun x h3 h4=>?_,fun j=>by rw[Z0];exact hs j,by rw[Z_];omega,YM.upto (by omega)⟩
   ·obtain⟨Iv,ZQ⟩:=ZQ t h3 h4;simp only[go_sem,Iv,ZQ];exact hold t h3 h4
   ·simp only[go_sem]
   ·by_cases hx:x=q
    ·subst hx;rw[ZJ aq,ZJ a0];exact hc
    ·exact Zm x h3 (by omega)
  |false =>
   rw[hc] at o1;have hc:=of_decide_eq_false hc;simp only[go_sem,On,q0,q1,q4,RR,U6,d0,qb,bq,b0,rq,r0,c1,o1,w1,ad4];refine hk _ _ q (fun t h3 h4=>?_) ?_ h1 h2 Zm (.inr (by rw[ZJ aq,ZJ a0];exact hc)) (fun j=>by rw[Z0];exact hs j) (by rw[Z_];omega) (YM.upto (by omega))
   ·obtain⟨Iv,ZQ⟩:=ZQ t h3 h4;simp only[go_sem,ZQ];exact hold t h3 h4
   ·simp only[go_sem,RR]
 ·have d0:decide (((P.length+q:Nat):Int)<=((P.length+j:Nat):Int))=false:=decide_eq_false (by omega);simp only[go_sem,On,q0,q1,q4,RR,U6,d0];refine hk _ _ q (fun t h3 h4=>?_) ?_ h1 h2 Zm (.inl (by omega)) (fun j=>by rw[Z0];exact hs j) (by rw[Z_];omega) (YM.upto (by omega))
  ·obtain⟨Iv,ZQ⟩:=ZQ t h3 h4;simp only[go_sem,ZQ];exact hold t h3 h4
  ·simp only[go_sem,RR]
theorem kp {β:Type}{fin:Fl->β}{ks:List K}{ZV:β->Prop}{k n b i j:Nat}{cap:Option Nat}{P L S:List Nat}(WX:0<k)(hL:P.length+L.length+S.length=n)(hn:n<=2^20)(hi:1<=i)(Ul:i<=j+1)(hj:j<L.length)
  {e:Env}{s:St}(g0:Env.get e 0=.sl b 0 n cap 2)(g1:Env.get e 1=.int .i64 (P.length:Nat))(g4:Env.get e 4=.fn (.func 91) [] [])(OT:Env.get e 12=.int .i64 (P.length+i:Nat))(LV:Env.get e 13=.int .i64 (P.length+j:Nat))(gb:s.get b=some (.cells (WT k (P++L++S)) 55 false 0 0))(fr:Fr s)
  (hk:∀e' s' j',(∀t:Nat,t<32->t≠13->Env.get e' t=Env.get e t)->Env.get e' 13=.int .i64 (P.length+j':Nat)->j'<=j->i<=j'+1->(∀x,j'<x->x<=j->¬gt L x<gt L 0)->(i=j'+1\/gt L j'<gt L 0)->(∀j,s'.get j=s.get j)->s.next<=s'.next->Fr s'->ZV (goN U fin ks e' s')) :
  ZV (Vx U fin (.bk 8::ks) Om e s):=by
 refine ZC (σ:=Nat) (fun q=>q) (fun q e' s'=>q<=j/\i<=q+1/\(∀t:Nat,t<32->t≠13->Env.get e' t=Env.get e t)/\Env.get e' 13=.int .i64 (P.length+q:Nat)/\(∀x,q<x->x<=j->¬gt L x<gt L 0)/\(∀j,s'.get j=s.get j)/\s.next<=s'.next/\Fr s') j ?_
  ⟨aba _,Ul,fun _ _ _=>rfl,LV,fun x h1 h2=>by omega,fun _=>rfl,aba _,fr⟩
 rintro Lp q e' s' ⟨h1,h2,hold,U6,Zm,hs,XY,YM⟩ IH;have q0:=(hold 0 (by omega) (by omega)).trans g0;have q1:=(hold 1 (by omega) (by omega)).trans g1;have q4:=(hold 4 (by omega) (by omega)).trans g4;have RR:=(hold 12 (by omega) (by omega)).trans OT;have qb:=(hs b).trans gb;have ZQ:∀t:Nat,t<32->t≠13->(13=t)=False/\∀k:Nat,32<=k->(k=t)=False:=fun t h1 h2=>⟨by simp;omega,fun k hk=>by simp;omega⟩
 by_cases hd:i<=q
 ·have d0:decide (((P.length+i:Nat):Int)<=((P.length+q:Nat):Int))=true:=decide_eq_true (by omega);have aq:q<L.length:=by omega
  have a0:0<L.length:=by omega
  have bq:P.length+q<n:=by omega
  have b0:P.length<n:=by omega
  have rq:=YW k (P:=P) (M:=L) (S:=S) aq;have r0:=YW k (P:=P) (M:=L) (S:=S) a0;rw[afD] at r0;have c1:=Pc ((L[q] / k:Nat):Int) ((L[q]%k:Nat):Int) ((L[0] / k:Nat):Int) ((L[0]%k:Nat):Int);have o1:=(XC (k:=k) (c:=L[q]) (d:=L[0]) WX).1;have w1:IntKind.i64.wrap (((P.length+q:Nat):Int)-1)=((P.length+(q-1):Nat):Int):=Zq (by omega) (by omega)
  cases hc:decide (L[q]<L[0]) with
  |false =>
   rw[hc] at o1;have hc:=of_decide_eq_false hc;simp only[go_sem,Om,q0,q1,q4,RR,U6,d0,qb,bq,b0,rq,r0,c1,o1,w1,ad4];refine IH (q-1) _ _ (by omega) ⟨by omega,by omega,fun t h3 h4=>?_,?_,fun x h3 h4=>?_,fun j=>by rw[Z0];exact hs j,by rw[Z_];omega,YM.upto (by omega)⟩
   ·obtain⟨G2,ZQ⟩:=ZQ t h3 h4;simp only[go_sem,G2,ZQ];exact hold t h3 h4
   ·simp only[go_sem]
   ·by_cases hx:x=q
    ·subst hx;rw[ZJ aq,ZJ a0];exact hc
    ·exact Zm x (by omega) h4
  |true =>
   rw[hc] at o1;have hc:=of_decide_eq_true hc;simp only[go_sem,Om,q0,q1,q4,RR,U6,d0,qb,bq,b0,rq,r0,c1,o1,w1,ad4];refine hk _ _ q (fun t h3 h4=>?_) ?_ h1 h2 Zm (.inr (by rw[ZJ aq,ZJ a0];exact hc)) (fun j=>by rw[Z0];exact hs j) (by rw[Z_];omega) (YM.upto (by omega))
   ·obtain⟨G2,ZQ⟩:=ZQ t h3 h4;simp only[go_sem,ZQ];exact hold t h3 h4
   ·simp only[go_sem,U6]
 ·have d0:decide (((P.length+i:Nat):Int)<=((P.length+q:Nat):Int))=false:=decide_eq_false (by omega);simp only[go_sem,Om,q0,q1,q4,RR,U6,d0];refine hk _ _ q (fun t h3 h4=>?_) ?_ h1 h2 Zm (.inl (by omega)) (fun j=>by rw[Z0];exact hs j) (by rw[Z_];omega) (YM.upto (by omega))
  ·obtain⟨G2,ZQ⟩:=ZQ t h3 h4;simp only[go_sem,ZQ];exact hold t h3 h4
  ·simp only[go_sem,U6]
theorem cG (args:List AV)(s:St):YX U (Zv U 197 args) 197 args s=WW U 197 args s:=(Zu ..).symm
theorem Rj {k b:Nat}{s s' s2:St}{L:List Nat}(hR:Y4 k b s L s')(h:∀j,s2.get j=s'.get j)(hn:s'.next<=s2.next)(fr:Fr s2):Y4 k b s L s2 :=
 ⟨(h b).trans hR.1,fun j h1 h2=>(h j).trans (hR.2.1 j h1 h2),by have:=hR.2.2.1;omega,fr⟩
theorem dq {β:Type}{fin:Fl->β}{ks:List K}{ZV:β->Prop}{k n b i j:Nat}{cap:Option Nat}{P L S:List Nat}(WX:0<k)(hL:P.length+L.length+S.length=n)(hn:n<=2^20)(hi:1<=i)(Ul:i<=j+1)(hj:j<L.length){s0:St}(hb:b<s0.next)
  (Hq:∀x,1<=x->x<i->gt L x<gt L 0)(D2:∀x,j<x->x<L.length->¬gt L x<gt L 0)
  {e:Env}{s:St}(g0:Env.get e 0=.sl b 0 n cap 2)(g1:Env.get e 1=.int .i64 (P.length:Nat))(g4:Env.get e 4=.fn (.func 91) [] [])(OT:Env.get e 12=.int .i64 (P.length+i:Nat))(LV:Env.get e 13=.int .i64 (P.length+j:Nat))(rA:Y4 k b s0 (P++L++S) s)
  (hk:∀e' s' L' i' j',Env.get e' 0=.sl b 0 n cap 2->Env.get e' 1=.int .i64 (P.length:Nat)->Env.get e' 13=.int .i64 (P.length+j':Nat)->L'.Perm L->L'.length=L.length->i'=j'+1->1<=i'->j'<L.length->(∀x,1<=x->x<i'->gt L' x<gt L' 0)->(∀x,j'<x->x<L'.length->¬gt L' x<gt L' 0)->Y4 k b s0 (P++L'++S) s'->ZV (goN U fin ks e' s')) :
  ZV (Vx U fin (.bk 4::ks) G0 e s):=by
 refine ZC (σ:=Nat×Nat) (fun p=>p.2+1-p.1) (fun p e' s'=>1<=p.1/\p.1<=p.2+1/\p.2<L.length/\Env.get e' 0=.sl b 0 n cap 2/\Env.get e' 1=.int .i64 (P.length:Nat)/\Env.get e' 4=.fn (.func 91) [] []/\Env.get e' 12=.int .i64 (P.length+p.1:Nat)/\Env.get e' 13=.int .i64 (P.length+p.2:Nat) /\
   ∃L',L'.length=L.length/\L'.Perm L/\(∀x,1<=x->x<p.1->gt L' x<gt L' 0)/\(∀x,p.2<x->x<L'.length->¬gt L' x<gt L' 0)/\Y4 k b s0 (P++L'++S) s') (i,j) ?_
  ⟨hi,Ul,hj,g0,g1,g4,OT,LV,L,rfl,List.Perm.refl _,Hq,D2,rA⟩
 rintro Lp ⟨i1,j1⟩ e1 s1 ⟨h1,h2,h3,q0,q1,q4,RR,U6,L1,Ae,Je,cE,cD,qu⟩ IH;simp only at h1 h2 h3 RR U6 cE cD;obtain⟨qb,Ur,cC,Kr⟩:=id qu;simp only[go_sem,G0];refine kq (ZV:=ZV) WX (P:=P) (L:=L1) (S:=S) (n:=n) (i:=i1) (j:=j1) (cap:=cap) (by omega) hn h1 h2 (by omega) q0 q1 q4 RR U6 qb Kr fun e2 s2 i2 Vy L0 a1 a2 a3 a4 WC NA TC=>?_
 have TB:=Rj qu WC NA TC;simp only[go_sem];refine kp (ZV:=ZV) WX (P:=P) (L:=L1) (S:=S) (n:=n) (i:=i2) (j:=j1) (cap:=cap) (by omega) hn (by omega) (by omega) (by omega) ((Vy 0 (by omega) (by omega)).trans q0) ((Vy 1 (by omega) (by omega)).trans q1) ((Vy 4 (by omega) (by omega)).trans q4) L0 ((Vy 13 (by omega) (by omega)).trans U6) TB.1 TC fun e3 s3 j3 QG zV b1 b2 b3 b4 LI BL HF=>?_
 have JC:=Rj TB LI BL HF;have r0:=(QG 0 (by omega) (by omega)).trans ((Vy 0 (by omega) (by omega)).trans q0);have r1:=(QG 1 (by omega) (by omega)).trans ((Vy 1 (by omega) (by omega)).trans q1);have r4:=(QG 4 (by omega) (by omega)).trans ((Vy 4 (by omega) (by omega)).trans q4);have dt:=(QG 12 (by omega) (by omega)).trans L0;have lo:∀x,1<=x->x<i2->gt L1 x<gt L1 0:=fun x c1 c2=>by
  by_cases hx:x<i1
  ·exact cE x c1 hx
  ·exact a3 x (by omega) c2
 have dr:∀x,j3<x->x<L1.length->¬gt L1 x<gt L1 0:=fun x c1 c2=>by
  by_cases hx:x<=j1
  ·exact b3 x c1 hx
  ·exact cD x (by omega) c2
 by_cases hd:i2<=j3
 ·have Zm:i2<j3:=by
   have x1:¬gt L1 i2<gt L1 0:=by rcases a4 with h|h;omega;exact h
   have x2:gt L1 j3<gt L1 0:=by rcases b4 with h|h;omega;exact h
   rcases Nat.lt_or_ge i2 j3 with h|h
   ·exact h
   ·have:i2=j3:=by omega
    subst this;exact absurd x2 x1
  have x1:¬gt L1 i2<gt L1 0:=by rcases a4 with h|h;omega;exact h
  have x2:gt L1 j3<gt L1 0:=by rcases b4 with h|h;omega;exact h
  have dg:decide (((P.length+i2:Nat):Int)>((P.length+j3:Nat):Int))=false:=decide_eq_false (by omega);have ai:i2<L1.length:=by omega
  have aj:j3<L1.length:=by omega
  have bi:P.length+i2<n:=by omega
  have bj:P.length+j3<n:=by omega
  have ri:=YW k (P:=P) (M:=L1) (S:=S) ai;have rj:=YW k (P:=P) (M:=L1) (S:=S) aj;have y0:=VB k (P:=P) (M:=L1) (S:=S) (i:=i2) L1[j3] ai;have y1:=VB k (P:=P) (M:=L1.set i2 L1[j3]) (S:=S) (i:=j3) L1[i2] (by simpa using aj);have w2:IntKind.i64.wrap (((P.length+i2:Nat):Int)+1)=((P.length+(i2+1):Nat):Int):=Zq (by omega) (by omega);have w3:IntKind.i64.wrap (((P.length+j3:Nat):Int)-1)=((P.length+(j3-1):Nat):Int):=Zq (by omega) (by omega);simp only[go_sem,r0,r1,dt,zV,dg,JC.1,bi,bj,ri,rj,y0,y1,w2,w3,ad4];have g:=fun x=>PL (M:=L1) (i:=i2) (j:=j3) (x:=x) ai aj
  refine IH (i2+1,j3-1) _ _ (by simp only;omega) ⟨by simp only;omega,by simp only;omega,by simp only;omega,?_,?_,?_,?_,?_,(L1.set i2 L1[j3]).set j3 L1[i2],by simp[Ae],by rw[XI ai aj];exact (XA ai aj).trans Je,?_,?_,XE JC hb (by omega)⟩
  ·simp only[go_sem,r0]
  ·simp only[go_sem,r1]
  ·simp only[go_sem,r4]
  ·simp only[go_sem]
  ·simp only[go_sem]
  ·intro x c1 c2;simp only at c2;rw[XI ai aj,g x,g 0,if_neg (by omega:¬x=j3),if_neg (by omega:¬(0:Nat)=j3),if_neg (by omega:¬(0:Nat)=i2)];by_cases hx:x=i2
   ·rw[if_pos hx];exact x2
   ·rw[if_neg hx];exact lo x c1 (by omega)
  ·intro x c1 c2;simp only at c1;rw[afi,afi] at c2;rw[XI ai aj,g x,g 0,if_neg (by omega:¬(0:Nat)=j3),if_neg (by omega:¬(0:Nat)=i2)];by_cases hx:x=j3
   ·rw[if_pos hx];exact x1
   ·rw[if_neg hx,if_neg (by omega:¬x=i2)];exact dr x (by omega) c2
 ·have dg:decide (((P.length+i2:Nat):Int)>((P.length+j3:Nat):Int))=true:=decide_eq_true (by omega);simp only[go_sem,r0,r1,dt,zV,dg];refine hk _ _ L1 i2 j3 ?_ ?_ ?_ Je Ae (by omega) (by omega) (by omega) lo dr JC
  all_goals simp only[go_sem,r0,r1,zV]
def UM (M:List Nat)(q:Nat):Prop:=q<M.length/\(∀x,x<q->gt M x<gt M q)/\∀x,q<x->x<M.length->¬gt M x<gt M q
theorem wK {L:List Nat}{j:Nat}(hj:j<L.length)(Hq:∀x,1<=x->x<j+1->gt L x<gt L 0)(D2:∀x,j<x->x<L.length->¬gt L x<gt L 0):UM (UB L j 0) j:=by
 have h0:0<L.length:=by omega
 have g:=fun x=>PL (M:=L) (i:=j) (j:=0) (x:=x) hj h0
 have gj:gt (UB L j 0) j=gt L 0:=by
  rw[g j];by_cases h:j=0
  ·subst h;rfl
  ·rw[if_neg h,if_pos rfl]
 refine⟨by rw[Vj];exact hj,fun x hx=>?_,fun x hx eT=>?_⟩
 ·rw[gj,g x];by_cases h:x=0
  ·rw[if_pos h];exact Hq j (by omega) (by omega)
  ·rw[if_neg h,if_neg (by omega)];exact Hq x (by omega) (by omega)
 ·rw[Vj] at eT;rw[gj,g x,if_neg (by omega),if_neg (by omega)];exact D2 x hx eT
theorem abR {k n b pv:Nat}{cap:Option Nat}{P M S:List Nat}(WX:0<k)(hL:P.length+M.length+S.length=n)(hn:n<=2^20)(kT:pv<M.length){s:St}(gb:s.get b=some (.cells (WT k (P++M++S)) 55 false 0 0))(hb:b<s.next)(fr:Fr s) :
  ∃s' M' q fl,WW U 204 [.sl b 0 n cap 2,.int .i64 (P.length:Nat),.int .i64 (P.length+M.length:Nat),.int .i64 (P.length+pv:Nat),.fn (.func 91) [] []] s=some (.X' [.int .i64 (P.length+q:Nat),.bool fl],s')/\Y4 k b s (P++M'++S) s'/\M'.Perm M/\UM M' q:=by
 suffices TK:∃x M' q fl,go U (XZ U [.tmp 10,.tmp 11]) [] kR (ZM 0 [.sl b 0 n cap 2,.int .i64 (P.length:Nat),.int .i64 (P.length+M.length:Nat),.int .i64 (P.length+pv:Nat),.fn (.func 91) [] []] .nil) s=some x/\x.1=.X' [.int .i64 (P.length+q:Nat),.bool fl]/\Y4 k b s (P++M'++S) x.2/\M'.Perm M/\UM M' q by
  obtain⟨⟨v,s'⟩,M',q,fl,h1,h2,h3⟩:=TK;simp only at h2;subst h2;exact⟨s',M',q,fl,Y3 abS (by kernel_rfl) h1,h3⟩
 have a0:0<M.length:=by omega
 have b0:P.length<n:=by omega
 have bp:P.length+pv<n:=by omega
 have r0:=YW k (P:=P) (M:=M) (S:=S) a0;have rp:=YW k (P:=P) (M:=M) (S:=S) kT;have y0:=VB k (P:=P) (M:=M) (S:=S) (i:=0) M[pv] a0;have y1:=VB k (P:=P) (M:=M.set 0 M[pv]) (S:=S) (i:=pv) M[0] (by simpa using kT);rw[afD] at r0 y0;have w1:IntKind.i64.wrap (((P.length:Nat):Int)+1)=((P.length+1:Nat):Int):=Zq (by omega) (by omega);have w2:IntKind.i64.wrap (((P.length+M.length:Nat):Int)-1)=((P.length+(M.length-1):Nat):Int):=Zq (by omega) (by omega);simp only[go_sem,kR,gb,b0,bp,r0,rp,y0,y1,w1,w2,ad4];obtain⟨L,hLd⟩:∃L,L=(M.set 0 M[pv]).set pv M[0]:=⟨_,rfl⟩;have hLl:L.length=M.length:=by rw[hLd];simp
 have hLp:L.Perm M:=by rw[hLd,XI a0 kT];exact XA a0 kT
 have rA:Y4 k b s (P++L++S) (((s.upto (s.next+16)).put b (.cells (WT k (P++M.set 0 M[pv]++S)) 55 false 0 0)).put b (.cells (WT k (P++L++S)) 55 false 0 0)):=XE (L:=P++M++S) ⟨gb,fun _ _ _=>rfl,aba _,fr⟩ hb (by omega);rw[<-hLd];generalize ((s.upto (s.next+16)).put b (.cells (WT k (P++M.set 0 M[pv]++S)) 55 false 0 0)).put b (.cells (WT k (P++L++S)) 55 false 0 0)=S0 at *;refine dx (ZV:=fun (o:Option (AV×St))=>∃x M' q fl,o=some x/\x.1=.X' [.int .i64 (P.length+q:Nat),.bool fl]/\Y4 k b s (P++M'++S) x.2/\M'.Perm M/\UM M' q) WX (P:=P) (L:=L) (S:=S) (n:=n) (i:=1) (j:=M.length-1) (b:=b) (cap:=cap) (by omega) hn (by omega) (by omega) (by omega) ?_ ?_ ?_ ?_ ?_ rA.1 rA.2.2.2 fun e2 s2 i2 Vy L0 u1 u2 u3 u4 WC NA TC=>?_
 case refine_6 =>
  have TB:=Rj rA WC NA TC;have E2:∀t:Nat,t<5\/t=13->Env.get e2 t=(if t=0 then .sl b 0 n cap 2 else if t=1 then .int .i64 (P.length:Nat) else if t=4 then .fn (.func 91) [] [] else Env.get e2 t)\/True:=fun _ _=>.inr trivial
  have p0:Env.get e2 0=.sl b 0 n cap 2:=by rw[Vy 0 (by omega) (by omega)];simp only[go_sem]
  have p1:Env.get e2 1=.int .i64 (P.length:Nat):=by rw[Vy 1 (by omega) (by omega)];simp only[go_sem]
  have p4:Env.get e2 4=.fn (.func 91) [] []:=by rw[Vy 4 (by omega) (by omega)];simp only[go_sem]
  have zV:Env.get e2 13=.int .i64 (P.length+(M.length-1):Nat):=by rw[Vy 13 (by omega) (by omega)];simp only[go_sem]
  simp only[go_sem];refine dw (ZV:=fun (o:Option (AV×St))=>∃x M' q fl,o=some x/\x.1=.X' [.int .i64 (P.length+q:Nat),.bool fl]/\Y4 k b s (P++M'++S) x.2/\M'.Perm M/\UM M' q) WX (P:=P) (L:=L) (S:=S) (n:=n) (i:=i2) (j:=M.length-1) (b:=b) (cap:=cap) (by omega) hn (by omega) (by omega) (by omega) p0 p1 p4 L0 zV TB.1 TC fun e3 s3 j3 QG du v1 v2 v3 v4 LI BL HF=>?_
  have JC:=Rj TB LI BL HF;have r0:=(QG 0 (by omega) (by omega)).trans p0;have r1:=(QG 1 (by omega) (by omega)).trans p1;have r4:=(QG 4 (by omega) (by omega)).trans p4;have dt:=(QG 12 (by omega) (by omega)).trans L0;have h0:0<L.length:=by omega
  have lo:∀x,1<=x->x<i2->gt L x<gt L 0:=u3;have dr:∀x,j3<x->x<L.length->¬gt L x<gt L 0:=fun x c1 c2=>v3 x c1 (by omega)
  have fin:∀(L':List Nat) (j:Nat) (fl:Bool) (s4:St) (X:UK) (m:Nat),s4.next<=m->L'.length=M.length->L'.Perm M->j<M.length->(∀x,1<=x->x<j+1->gt L' x<gt L' 0)->(∀x,j<x->x<L'.length->¬gt L' x<gt L' 0)->Y4 k b s (P++L'++S) s4 ->
    ∃x M' q fl',some (AV.X' [.int .i64 (P.length+j:Nat),.bool fl],((s4.upto m).put b X).put b (.cells (WT k (P++UB L' j 0++S)) 55 false 0 0))=some x/\x.1=.X' [.int .i64 (P.length+q:Nat),.bool fl']/\Y4 k b s (P++M'++S) x.2/\M'.Perm M/\UM M' q:=fun L' j fl s4 X m hm hl hp hj Hq D2 hR =>
   ⟨_,UB L' j 0,j,fl,rfl,rfl,XE hR hb hm,(XA (by omega) (by omega)).trans hp,wK (by omega) Hq D2⟩
  by_cases hd:i2<=j3
  ·have x1:¬gt L i2<gt L 0:=by rcases u4 with h|h;omega;exact h
   have x2:gt L j3<gt L 0:=by rcases v4 with h|h;omega;exact h
   have Zm:i2<j3:=by
    rcases Nat.lt_or_ge i2 j3 with h|h
    ·exact h
    ·have:i2=j3:=by omega
     subst this;exact absurd x2 x1
   have dg:decide (((P.length+i2:Nat):Int)>((P.length+j3:Nat):Int))=false:=decide_eq_false (by omega);have ai:i2<L.length:=by omega
   have aj:j3<L.length:=by omega
   have bi:P.length+i2<n:=by omega
   have bj:P.length+j3<n:=by omega
   have ri:=YW k (P:=P) (M:=L) (S:=S) ai;have rj:=YW k (P:=P) (M:=L) (S:=S) aj;have y0:=VB k (P:=P) (M:=L) (S:=S) (i:=i2) L[j3] ai;have y1:=VB k (P:=P) (M:=L.set i2 L[j3]) (S:=S) (i:=j3) L[i2] (by simpa using aj);have w2:IntKind.i64.wrap (((P.length+i2:Nat):Int)+1)=((P.length+(i2+1):Nat):Int):=Zq (by omega) (by omega);have w3:IntKind.i64.wrap (((P.length+j3:Nat):Int)-1)=((P.length+(j3-1):Nat):Int):=Zq (by omega) (by omega);simp only[go_sem,r0,r1,dt,du,dg,JC.1,bi,bj,ri,rj,y0,y1,w2,w3,ad4];have g:=fun x=>PL (M:=L) (i:=i2) (j:=j3) (x:=x) ai aj
   refine dq (ZV:=fun (o:Option (AV×St))=>∃x M' q fl,o=some x/\x.1=.X' [.int .i64 (P.length+q:Nat),.bool fl]/\Y4 k b s (P++M'++S) x.2/\M'.Perm M/\UM M' q) WX (P:=P) (L:=(L.set i2 L[j3]).set j3 L[i2]) (S:=S) (n:=n) (i:=i2+1) (j:=j3-1) (b:=b) (cap:=cap) (s0:=s) (by simp;omega) hn (by omega) (by omega) (by simp;omega) hb ?_ ?_ ?_ ?_ ?_ ?_ ?_ (XE JC hb (by omega)) fun e4 s4 L4 i4 j4 p0' p1' dp fS hl4 aeB aeC hj4 abT abU nL=>?_
   case refine_8 =>
    rw[afi,afi] at hl4 hj4;have h04:0<L4.length:=by omega
    have kP:j4<L4.length:=by omega
    have b0:P.length<n:=by omega
    have bj4:P.length+j4<n:=by omega
    have r0:=YW k (P:=P) (M:=L4) (S:=S) h04;have rj:=YW k (P:=P) (M:=L4) (S:=S) kP;have y0:=VB k (P:=P) (M:=L4) (S:=S) (i:=j4) L4[0] kP;have y1:=VB k (P:=P) (M:=L4.set j4 L4[0]) (S:=S) (i:=0) L4[j4] (by simpa using h04);rw[afD] at r0 y1;simp only[go_sem,p0',p1',dp,nL.1,b0,bj4,r0,rj,y0,y1,ad4];rw[XI kP h04];have hpp:L4.Perm M:=by
     have:=fS;rw[XI ai aj] at this;exact this.trans ((XA ai aj).trans hLp)
    exact fin L4 j4 false s4 _ _ (by omega) (by omega) hpp (by omega) (fun x c1 c2=>abT x c1 (by omega)) abU nL
   case refine_1 =>
    intro x c1 c2;rw[XI ai aj,g x,g 0,if_neg (by omega:¬x=j3),if_neg (by omega:¬(0:Nat)=j3),if_neg (by omega:¬(0:Nat)=i2)];by_cases hx:x=i2
    ·rw[if_pos hx];exact x2
    ·rw[if_neg hx];exact lo x c1 (by omega)
   case refine_2 =>
    intro x c1 c2;rw[afi,afi] at c2;rw[XI ai aj,g x,g 0,if_neg (by omega:¬(0:Nat)=j3),if_neg (by omega:¬(0:Nat)=i2)];by_cases hx:x=j3
    ·rw[if_pos hx];exact x1
    ·rw[if_neg hx,if_neg (by omega:¬x=i2)];exact dr x (by omega) c2
   all_goals simp only[go_sem,r0,r1,r4]
  ·have dg:decide (((P.length+i2:Nat):Int)>((P.length+j3:Nat):Int))=true:=decide_eq_true (by omega);have aj:j3<L.length:=by omega
   have b0:P.length<n:=by omega
   have bj:P.length+j3<n:=by omega
   have r0':=YW k (P:=P) (M:=L) (S:=S) h0;have rj:=YW k (P:=P) (M:=L) (S:=S) aj;have y0:=VB k (P:=P) (M:=L) (S:=S) (i:=j3) L[0] aj;have y1:=VB k (P:=P) (M:=L.set j3 L[0]) (S:=S) (i:=0) L[j3] (by simpa using h0);rw[afD] at r0' y1;simp only[go_sem,r0,r1,dt,du,dg,JC.1,b0,bj,r0',rj,y0,y1,ad4];rw[XI aj h0];exact fin L j3 true s3 _ _ (by omega) (by omega) hLp (by omega) (fun x c1 c2=>lo x c1 (by omega)) dr JC
 all_goals simp only[go_sem]
end Go.Am
