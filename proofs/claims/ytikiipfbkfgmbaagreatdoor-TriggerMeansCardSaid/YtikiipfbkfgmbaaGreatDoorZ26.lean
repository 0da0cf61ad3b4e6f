/- A part of the proof of a statement of this seat: the machine on which the program is read, and what it computes; for every input. -/
import Derived.Test.YtikiipfbkfgmbaaGreatDoorZ06
import Derived.Test.YtikiipfbkfgmbaaGreatDoorZ25
import Derived.Test.YtikiipfbkfgmbaaGreatDoorZ16
set_option linter.all false
namespace Go.Am
open Go
variable [Z4]
set_option maxRecDepth 100000
set_option maxHeartbeats 8000000
theorem aoG (n k:Int)(h:Qe n)(h2:0<=k)(h3:k<64):ZE U 121 [.int .i64 n,.int .i64 k]=some (.bool (WR n k)):=by
 refine ZR an_ (by kernel_rfl) rfl ?_;have:=BD k.toNat h.1;have h4:=h.2;simp only[go_sem,anU,Hs _ _ _ _ h2 (show k<=64 by omega),KJ _ _ _ this.1 (by omega)];rfl
theorem V0 (b:Bool):MI undef b=false:=rfl
theorem S5 (x:Option AV)(s:St):SJ false x s=some (undef,s):=rfl
theorem S2 (x:Option AV)(f:FuncId)(args:List AV)(s:St):OU U false x f args s=some (undef,s):=rfl
theorem E4 (c:Bool)(x y:Bool):Wg U .neq 4 c (.bool x) (.bool y)=some (.bool (x != y)):=by
 have h:U.Zd 4=some .bool:=by kernel_rfl
 simp only[Wg,IY,Au,h]
 cases x <;> cases y <;> rfl
theorem anD (pat:XV)(sym:Int)(hs:Qe sym)(hp:pat.length<=16)(X5:∀c∈pat,c=48\/c=49\/c=120):ZE U 122 [.str pat,.int .i64 sym]=some (.bool (yW sym 0 pat)):=by
 refine ZR an' (by kernel_rfl) rfl ?_;have QK:=hs.1;have S4:=hs.2;have hrg:=@oX _ (k:=7) (b:=pat);simp only[go_sem,anV,hrg];refine YH (σ:=Nat) (fun i=>pat.length-i) (fun i=>some (AV.bool (yW sym i (pat.drop i)))) (fun i e s=>i<=pat.length/\Env.get e 8=.ptr 8 0/\Env.get e 1=.int .i64 sym/\s.get 8=some (.iter (pat.drop i) i)) 0 ?_ rfl ?_
 ·rintro L i e s ⟨hi,h8,h1,hit⟩ ih;by_cases hd:i<pat.length
  ·rw[abc hd] at hit;have hc:=X5 pat[i] (adm hd);have agl:pat[i].toNat<128:=by rcases hc with h|h|h <;> rw[h] <;> decide
   have hn:=oV h8 hit agl;have CG:=Lv sym (i:Int);have q:=aoG sym (i:Int) hs (by omega) (by omega);rw[PJ] at q;rw[abc hd,yW,iM];have next:∀e',Env.get e' 8=.ptr 8 0->Env.get e' 1=.int .i64 sym->SD U (Mt U [.tmp 4]) [K.bk 0,K.sq ((RC.ops [⟨some 4,none,none,false,.O9 (.v (.bool true))⟩]).seq RC.ret)] L e' (s.put 8 (.iter (pat.drop (i+1)) (i+1)))=some (AV.bool (yW sym (i+1) (pat.drop (i+1)))) :=
    fun e' q8 q1=>ih (i+1) _ _ (by omega) ⟨by omega,q8,q1,by rw[Z9,if_pos rfl]⟩
   rcases hc with h|h|h <;> rw[h] at hn ⊢
   ·have fF:((48:UInt8).toNat:Int)=48:=rfl;rw[fF] at hn;rcases CG with hz|hz <;> rw[hz] at q ⊢
    ·simp only[go_sem,zf,h8,h1,hn,q,E4,Bool.bne_true,Bool.bne_false,ama,amp];refine next _ ?_ ?_ <;> simp only[go_sem,h8,h1]
    ·simp only[go_sem,zf,h8,h1,hn,q,E4,Bool.bne_true,Bool.bne_false,ama,amp];rfl
   ·have fF:((49:UInt8).toNat:Int)=49:=rfl;rw[fF] at hn;rcases CG with hz|hz <;> rw[hz] at q ⊢
    ·simp only[go_sem,zf,h8,h1,hn,q,E4,Bool.bne_true,Bool.bne_false,ama,amp];rfl
    ·simp only[go_sem,zf,h8,h1,hn,q,E4,Bool.bne_true,Bool.bne_false,ama,amp];refine next _ ?_ ?_ <;> simp only[go_sem,h8,h1]
   ·have fF:((120:UInt8).toNat:Int)=120:=rfl;rw[fF] at hn;simp only[go_sem,zf,h8,h1,hn];refine next _ ?_ ?_ <;> simp only[go_sem,h8,h1]
  ·have:i=pat.length:=by omega
   subst this;rw[alO] at hit;have hn:=oW h8 hit;simp only[go_sem,zf,h8,h1,hn];rw[alO];rfl
 ·refine⟨aic _,?_,?_,?_⟩ <;> simp only[go_sem,amd]
section
variable {nl:Bool}{l:List Int}(hl:Hb l){t:Nat}(ht:t+1=l.length){k:XV}{a b mi ma:Int}{pat:XV}{kids:AV}(ha:0<=a/\a<16)
include hl ht ha
theorem anE {β:Type}{fin:Fl->β}{ks:List K}{r:β}{e:Env}{s:St}(g1:Env.get e 1=ZG nl (ints l))(g2:Env.get e 2=.ptr 8 0)(g5:Env.get e 5=.int .i64 (t:Int))(g6:Env.get e 6=.int .i64 ((0:Nat):Int))(g7:Env.get e 7=.bool false)(g8:Env.get e 8=.int .i64 ((t:Int)-1))(nx:8<s.next)
  (hs:s.get 8=some (.cells [.str k,.int .i64 a,.int .i64 b,.int .i64 mi,.int .i64 ma,.str pat,kids] 39 false 0 0))
  (hk:∀e' s',Env.get e' 1=ZG nl (ints l)->Env.get e' 2=.ptr 8 0->Env.get e' 5=.int .i64 (t:Int)->Env.get e' 6=.int .i64 (((bkN l a (t-1) t 0).1:Nat):Int)->Env.get e' 7=.bool (bkN l a (t-1) t 0).2->8<s'.next->s'.get 8=some (.cells [.str k,.int .i64 a,.int .i64 b,.int .i64 mi,.int .i64 ma,.str pat,kids] 39 false 0 0)->goN U fin ks e' s'=r) :
  SD U fin (.bk 0::ks) ow e s=r:=by
 have hlen:=hl.1;refine YP (σ:=Nat×Nat×Bool) (ZB:=fun (x:β)=>x=r) (fun x=>x.1) (fun x e s=>x.1<=t/\x.2.1<=t-x.1/\(x.2.2=true->x.1<t)/\Env.get e 1=ZG nl (ints l)/\Env.get e 2=.ptr 8 0/\Env.get e 5=.int .i64 (t:Int)/\Env.get e 6=.int .i64 ((x.2.1:Nat):Int)/\Env.get e 7=.bool x.2.2/\Env.get e 8=.int .i64 ((x.1:Int)-1)/\8<s.next /\
  s.get 8=some (.cells [.str k,.int .i64 a,.int .i64 b,.int .i64 mi,.int .i64 ma,.str pat,kids] 39 false 0 0)/\(bif x.2.2 then (x.2.1,true) else bkN l a (t-1) x.1 x.2.1)=bkN l a (t-1) t 0) (t,0,false) ?_ ⟨agB _,by simp,fun h=>(by cases h),g1,g2,g5,g6,g7,g8,nx,hs,rfl⟩
 clear g1 g2 g5 g6 g7 g8 nx hs e s;rintro Lp ⟨u,r0,bb⟩ e s ⟨hu,hr0,hbt,g1,g2,g5,g6,g7,g8,nx,hs,YA⟩ IH;simp only at hu hr0 hbt g6 g7 g8 YA IH
 cases bb with
 |true =>
  rw[cond_true] at YA;have Bb:=fun e' s' h1 h2 h3 h4 h5=>hk e' s' h1 h2 h3 (by rw[<-YA];exact h4) (by rw[<-YA];exact h5)
  cases hg:decide ((u:Int)-1>=0) with
  |true =>
   simp only[go_sem,ow,g1,g2,g5,g6,g7,g8,hg];refine Bb _ _ ?_ ?_ ?_ ?_ ?_ nx hs <;> simp only[go_sem,g1,g2,g5,g6,g7]
  |false =>
   simp only[go_sem,ow,g1,g2,g5,g6,g7,g8,hg];refine Bb _ _ ?_ ?_ ?_ ?_ ?_ nx hs <;> simp only[go_sem,g1,g2,g5,g6,g7]
 |false =>
  rw[cond_false] at YA
  cases u with
  |zero =>
   rw[bkN] at YA;have Bb:=fun e' s' h1 h2 h3 h4 h5=>hk e' s' h1 h2 h3 (by rw[<-YA];exact h4) (by rw[<-YA];exact h5)
   have hg:decide (((0:Nat):Int)-1>=0)=false:=by decide
   simp only[go_sem,ow,g1,g2,g5,g6,g7,g8,hg];refine Bb _ _ ?_ ?_ ?_ ?_ ?_ nx hs <;> simp only[go_sem,g1,g2,g5,g6,g7]
  |succ v =>
   have e8:((v+1:Nat):Int)-1=(v:Int):=by omega
   rw[e8] at g8;have hg:decide ((v:Int)>=0)=true:=by simp
   have w1:IntKind.i64.wrap ((t:Int)-1)=((t-1:Nat):Int):=by rw[wrap_i64] <;> omega
   have w2:IntKind.i64.wrap ((v:Int)-1)=(v:Int)-1:=by rw[wrap_i64] <;> omega
   have w3:IntKind.i64.wrap ((r0:Int)+1)=((r0+1:Nat):Int):=by rw[wrap_i64] <;> omega
   have q1:=aoG (Xg l (v:Int)) a (vh hl _) ha.1 (by omega);have q2:=aoG (Xg l ((t-1:Nat):Int)) a (vh hl _) ha.1 (by omega);have ZC:=mQ (Xg l (v:Int)) (Xg l ((t-1:Nat):Int)) a;have am':(Zy (Xg l ((t-1:Nat):Int)) a==Zy (Xg l (v:Int)) a)=(Zy (Xg l (v:Int)) a==Zy (Xg l ((t-1:Nat):Int)) a):=by rw[amj];simp;exact eq_comm
   rw[am'] at ZC;rw[bkN] at YA;simp only[go_sem,ow,g1,g2,g5,g6,g7,g8,hg,hs,w1,w2,w3,E4,Ys (nl:=nl) (show v<l.length by omega),Ys (nl:=nl) (show t-1<l.length by omega),q1,q2,ZC]
   cases hb:Zy (Xg l (v:Int)) a==Zy (Xg l ((t-1:Nat):Int)) a with
   |true =>
    rw[hb,cond_true] at YA;simp only[go_sem,g1,g2,g5,g6,g7,g8,w2,w3];refine IH (v,r0+1,false) _ _ (by simp only;omega) ⟨by simp only;omega,by simp only;omega,fun h=>(by cases h),?_,?_,?_,?_,?_,?_,by rw[Z6];omega,by rw[ZT];exact hs,YA⟩ <;> simp only[go_sem,g1,g2,g5,g6,g7,g8,w2,w3]
   |false =>
    rw[hb,cond_false] at YA;simp only[go_sem,g1,g2,g5,g6,g7,g8,w2,w3];refine IH (v,r0,true) _ _ (by simp only;omega) ⟨by simp only;omega,by simp only;omega,fun _=>by simp only;omega,?_,?_,?_,?_,?_,?_,by rw[Z6];omega,by rw[ZT];exact hs,YA⟩ <;> simp only[go_sem,g1,g2,g5,g6,g7,g8,w2,w3]
end
end Go.Am
