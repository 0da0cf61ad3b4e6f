/- A part of the proof of a statement of this seat: the machine on which the program is read, and what it computes; for every input. -/
import Derived.Test.YtikiipfbkfgmbaaGreatDoorZ38
set_option linter.all false
namespace Go.Am
open Go
variable [Z4]
set_option maxRecDepth 100000
set_option maxHeartbeats 8000000
theorem a9 {m:Nat}{n:Int}:∀(l:List (Bool×List Int)) (f:List (Bool×List Bool)),l.length=f.length->(∀r∈l,r.2.length=m/\∀x∈r.2,0<=x/\x<n)->(∀r∈f,r.2.length=m)->zn (m:Nat) n l f=0
 |[],_,_,_,_=>rfl
 |r::l,[],h,_,_=>by simp at h
 |r::l,g::f,h,h1,h2=>by
  obtain⟨e1,e2⟩:=h1 r (aba ..);have e3:=h2 g (aba ..);have b1:((r.2.length:Int) != (m:Nat)||((((g::f).headD (true,[])).2.length:Int) != (m:Nat)))=false:=by simp[e1,e3]
  have b2:(r.2.any fun x=>outside x 0 (n-1))=false:=by
   rw[List.any_eq_false];intro x hx;have:=e2 x hx;simp[outside];omega
  rw[zn,b1,b2,Xv,Xv];exact a9 l f (by simpa using h) (fun r hr=>h1 r (aab _ hr)) fun r hr=>h2 r (aab _ hr)
theorem am7 {a:Yi}(h:a.ok)(h256:a.next.length<=256):ckA a=0:=by
 have hl:=h.lines;have hp:=h.pos;have b1:outside a.lines 1 4=false:=by simp[outside];omega
 have b2:((a.next.length:Int)==0)=false:=by simp;intro e;rw[e] at hp;simp at hp
 have b3:decide ((a.next.length:Int)>256)=false:=by simp;omega
 have b4:((a.ZD.length:Int) != a.next.length)=false:=by simp[h.fl]
 rw[ckA,b1,b2,b3,b4,Xv,Xv,Xv,Xv,Ny];refine a9 _ _ h.fl.symm (fun r hr=>?_) fun r hr=>?_
 ·obtain⟨i,hi,rfl⟩:=alP.1 hr;exact h.row i hi
 ·obtain⟨i,hi,rfl⟩:=alP.1 hr;exact h.XF i hi
theorem aoS {lines:Int}{l:List Int}(h:aai lines l=0)(n:Nat):aai lines (l.take n)=0:=by
 unfold aai at h ⊢;obtain⟨q1,h⟩:=U5 h (by decide);have q2:vS lines l=false:=by
  cases hb:vS lines l with
  |false=>rfl
  |true=>rw[hb] at h;exact absurd h (by decide)
 have q1':decide (((l.take n).length:Int)>4096)=false:=by
  have:=of_decide_eq_false q1;rw[amr];exact decide_eq_false (by omega)
 have q2':vS lines (l.take n)=false:=by
  rw[vS,List.any_eq_false] at q2 ⊢;exact fun x hx=>q2 x (List.mem_of_mem_take hx)
 rw[q1',q2',Xv,Xv]
theorem ao3 {f:Int->Bool}:∀l:List Int,l.take (l.takeWhile f).length=l.takeWhile f
 |[]=>rfl
 |x::l=>by
  rw[List.takeWhile_cons]
  cases f x with
  |true=>simp only[if_true,akd,List.take_succ_cons];rw[ao3 l]
  |false=>simp
theorem aoT {f:Int->Bool}:∀l:List Int,(l.takeWhile f).length<=l.length
 |[]=>agB _
 |x::l=>by
  rw[List.takeWhile_cons]
  cases f x with
  |true=>simp only[if_true,akd];have:=aoT (f:=f) l;omega
  |false=>simp
section
variable {nl:Bool}{l T:List Int}(hl:Hb l)(hT:T.length<=4096)
include hT
theorem an8 {ks:List K}{r:Option AV}{e:Env}{s:St}{n:Nat}{x1 x2 x7 x8 x16 x17 x135 x136:AV}
  (g1:Env.get e 1=x1)(g2:Env.get e 2=x2)(g5:Env.get e 5=ZG true (ints T))(g7:Env.get e 7=x7)(g8:Env.get e 8=x8)(vQ:Env.get e 15=.int .i64 (n:Nat))(Il:Env.get e 16=x16)(UY:Env.get e 17=x17)(bV:Env.get e 18=.int .i64 ((0:Nat):Int))(ahU:Env.get e 135=x135)(ahV:Env.get e 136=x136)
  (hk:∀e',Env.get e' 1=x1->Env.get e' 2=x2->Env.get e' 5=ZG true (ints T)->Env.get e' 7=x7->Env.get e' 8=x8->Env.get e' 16=x16->Env.get e' 17=x17->Env.get e' 18=.int .i64 ((T.takeWhile fun x=>decide (x<(n:Int))).length:Nat)->Env.get e' 135=x135->Env.get e' 136=x136->goN U (Mt U [.tmp 4]) ks e' s=r) :
  SD U (Mt U [.tmp 4]) (.bk 4::ks) aoK e s=r:=by
 refine YP (σ:=Nat) (ZB:=fun (x:Option AV)=>x=r) (fun k=>T.length-k) (fun k e s'=>s'=s/\k<=T.length/\Env.get e 1=x1/\Env.get e 2=x2/\Env.get e 5=ZG true (ints T)/\Env.get e 7=x7/\Env.get e 8=x8/\Env.get e 15=.int .i64 (n:Nat)/\Env.get e 16=x16/\Env.get e 17=x17/\Env.get e 18=.int .i64 (k:Nat)/\Env.get e 135=x135/\Env.get e 136=x136 /\
  k+((T.drop k).takeWhile fun x=>decide (x<(n:Int))).length=(T.takeWhile fun x=>decide (x<(n:Int))).length) 0 ?_ ⟨rfl,aic _,g1,g2,g5,g7,g8,vQ,Il,UY,bV,ahU,ahV,by rw[amd,ald]⟩
 clear g1 g2 g5 g7 g8 vQ Il UY bV ahU ahV e;rintro L k e s' ⟨rfl,hk0,g1,g2,g5,g7,g8,vQ,Il,UY,bV,ahU,ahV,hc⟩ IH;by_cases hd:k<T.length
 ·have hw:=ZN hd (by omega);have hx:=F6 (nl:=true) hd;rw[abc hd,List.takeWhile_cons] at hc
  cases hb:decide (T[k]<(n:Int)) with
  |true =>
   rw[hb,if_pos rfl,akd] at hc;simp only[go_sem,aoK,g1,g2,g5,g7,g8,vQ,Il,UY,bV,ahU,ahV,ZI,YK,Z8,hd,hx,hb,hw];refine IH (k+1) _ _ (by omega) ⟨rfl,by omega,?_,?_,?_,?_,?_,?_,?_,?_,?_,?_,?_,by omega⟩ <;> simp only[go_sem,g1,g2,g5,g7,g8,vQ,Il,UY,bV,ahU,ahV,hw]
  |false =>
   rw[hb,if_neg (by decide),List.length_nil,Nat.add_zero] at hc;simp only[go_sem,aoK,g1,g2,g5,g7,g8,vQ,Il,UY,bV,ahU,ahV,ZI,YK,Z8,hd,hx,hb];refine hk _ ?_ ?_ ?_ ?_ ?_ ?_ ?_ ?_ ?_ ?_ <;> simp only[go_sem,g1,g2,g5,g7,g8,Il,UY,bV,ahU,ahV,<-hc]
 ·have:k=T.length:=by omega
  subst this;rw[alO,List.takeWhile_nil,List.length_nil,Nat.add_zero] at hc;simp only[go_sem,aoK,g1,g2,g5,g7,g8,vQ,Il,UY,bV,ahU,ahV,ZI,YK,Z8,alh,V0,S5,amq];refine hk _ ?_ ?_ ?_ ?_ ?_ ?_ ?_ ?_ ?_ ?_ <;> simp only[go_sem,g1,g2,g5,g7,g8,Il,UY,bV,ahU,ahV,<-hc]
include hl
theorem an9 {p:Prog}(dF:ZE U 33 [Vw p]=some (Vw p.norm))(q32:∀n,n<=l.length->ZE U 32 [Vw p.norm,ZG (nl&&l.isEmpty) (ints (l.take n))]=some (.XU [ZG true (ints (T.takeWhile fun x=>decide (x<(n:Int)))),.int .i64 0]))
  {ks:List K}{r:Option AV}{e:Env}{s:St}{q:Nat}{ca:List AV}{x8:AV}(hq:8<q/\q<s.next)
  (gp:s.get 8=some (.cells [.int .i64 p.lines,ZG p.nl (Zx p.steps)] 31 false 0 0))(ga:s.get q=some (.cells ca 69 false 0 0))(g1:Env.get e 1=ZG nl (ints l))(g2:Env.get e 2=.ptr 8 0)(g5:Env.get e 5=ZG true (ints T))(g7:Env.get e 7=.ptr q 0)(g8:Env.get e 8=x8)(ahU:Env.get e 135=.int .i64 l.length)(ahV:Env.get e 136=.int .i64 ((0:Nat):Int))
  (hk:∀e' s',Env.get e' 1=ZG nl (ints l)->Env.get e' 2=.ptr 8 0->Env.get e' 5=ZG true (ints T)->Env.get e' 7=.ptr q 0->Env.get e' 8=x8->q<s'.next->s'.get 8=some (.cells [.int .i64 p.lines,ZG p.nl (Zx p.steps)] 31 false 0 0)->s'.get q=some (.cells ca 69 false 0 0)->goN U (Mt U [.tmp 4]) ks e' s'=r) :
  SD U (Mt U [.tmp 4]) (.bk 2::ks) ao4 e s=r:=by
 have hlen:=hl.1;refine YP (σ:=Nat) (ZB:=fun (x:Option AV)=>x=r) (fun i=>l.length-i) (fun i e s=>i<=l.length/\Env.get e 1=ZG nl (ints l)/\Env.get e 2=.ptr 8 0/\Env.get e 5=ZG true (ints T)/\Env.get e 7=.ptr q 0/\Env.get e 8=x8/\Env.get e 135=.int .i64 l.length/\Env.get e 136=.int .i64 (i:Nat)/\q<s.next /\
  s.get 8=some (.cells [.int .i64 p.lines,ZG p.nl (Zx p.steps)] 31 false 0 0)/\s.get q=some (.cells ca 69 false 0 0)) 0 ?_ ⟨aic _,g1,g2,g5,g7,g8,ahU,ahV,hq.2,gp,ga⟩
 clear g1 g2 g5 g7 g8 ahU ahV gp ga e;rintro L i e s ⟨hi,g1,g2,g5,g7,g8,ahU,ahV,nx,gp,ga⟩ IH;by_cases hd:i<l.length
 ·have hw:=ZN hd (by omega);have QK:=aoo (nl:=nl) (show i<=l.length by omega);have q2:=q32 i (by omega);rw[X9] at dF;simp only[go_sem,ao4,g1,g2,g5,g7,g8,ahU,ahV,gp,Z8,hd,QK,dF,q2,ZL,Zu];refine an8 (T:=T) hT (n:=i) (x1:=ZG nl (ints l)) (x2:=.ptr 8 0) (x7:=.ptr q 0) (x8:=x8) (x16:=ZG true (ints (T.takeWhile fun x=>decide (x<(i:Int))))) (x17:=.int .i64 0) (x135:=.int .i64 l.length) (x136:=.int .i64 (i:Nat)) ?_ ?_ ?_ ?_ ?_ ?_ ?_ ?_ ?_ ?_ ?_ ?_
  case refine_12 =>
   intro e' k1 k2 k5 k7 k8m k16 k17 k18 anN anO;have S4:=aoo (nl:=true) (l:=T) (aoT (f:=fun x=>decide (x<(i:Int))) T);rw[ao3] at S4;have q56:=c56 true (true&&T.isEmpty) (T.takeWhile fun x=>decide (x<(i:Int))) (T.takeWhile fun x=>decide (x<(i:Int))) (by have:=aoT (f:=fun x=>decide (x<(i:Int))) T;omega);rw[My,al9] at q56;rw[al9] at S4;simp only[go_sem,k1,k2,k5,k7,k8m,k16,k17,k18,anN,anO,S4,q56,hw];refine IH (i+1) _ (s.upto (s.next+11)) (by omega) ⟨by omega,?_,?_,?_,?_,?_,?_,?_,by rw[Z6];omega,by rw[ZT];exact gp,by rw[ZT];exact ga⟩ <;> simp only[go_sem,k1,k2,k5,k7,k8m,anN,anO,hw]
  all_goals simp only[go_sem,g1,g2,g5,g7,g8,ahU,ahV]
  all_goals rfl
 ·have:i=l.length:=by omega
  subst this;simp only[go_sem,ao4,ahU,ahV,Z8,alh];refine hk _ _ ?_ ?_ ?_ ?_ ?_ nx gp ga <;> simp only[go_sem,g1,g2,g5,g7,g8]
end
end Go.Am
