/- A part of the proof of a statement of this seat: the machine on which the program is read, and what it computes; for every input. -/
import Derived.Test.YtikiipfbkfgmbaaGreatDoorZ10
set_option linter.all false
namespace Go.Am
open Go
variable [Z4]
set_option maxRecDepth 100000
set_option maxHeartbeats 8000000
theorem Eh {f:Nat->List Nat}{n:Nat}:∀{ms:List Nat},(∀u∈ms,u<n)->(∀c,c<n->(f c).length<=n)->(ms.flatMap f).length<=ms.length*n
 |[],_,_=>by simp
 |c::l,h1,h2=>by
  have ih:=Eh (f:=f) (ms:=l) (fun u hu=>h1 u (aab _ hu)) h2;have:=h2 c (h1 c (aba ..));rw[al7,agy,akd,Nat.succ_mul];omega
theorem ady {β:Type}{fin:Fl->β}{ks:List K}{ZB:β->Prop}{pb n m bl bp bs bb be bm N B lo hi:Nat}{bf:Nat->Nat->List Nat}{nx:Nat->Nat->Nat}{bx:Nat->Nat}{vs:Nat->Nat->AV}{p:Pt}{W ms:List Nat}{wv mv:AV}{e:Env}{s:St}(hn:n<=2^9)(hm:m<=2^8)(h:LI s pb n bl bp bs bb be bm p)(hw:p.Wf n)(hz:p.Zero)(hM:∀u∈ms,u<n)(hml:ms.length<=2^9)(hWl:W.length<=2^20)
  (hb:∀y,y<m->∀c,c<n->∀u,u∈bf y c<->u<n/\nx u y=c)(Hd:∀y,y<m->∀c,c<n->(bf y c).length<=n)
  (g3:Env.get e 3=.ptr pb 0)(g4:Env.get e 4=.sl B 0 m (some m) 1)(g8:Env.get e 8=wv)(fk:Env.get e 11=mv)(nD:Env.get e 119=.int .i64 (m:Int))(nC:Env.get e 120=.int .i64 (0:Nat))
  (hW:NP s N W wv)(PQ:∀j,Xb wv j->Xk pb bl bp bs bb be bm j/\Ou lo hi j)(hN:N<=s.next)(hMr:CH s ms mv)(hMf:∀j,Xb mv j->Xk pb bl bp bs bb be bm j/\¬Xb wv j)
  (hB:AT s B m n bf lo hi bx vs)(fj:∀j,Ou lo hi j\/Xk pb bl bp bs bb be bm j)(fr:Fr s)
  (hk:∀e' s' Ph Pg Pf Pe,(∀t:Nat,t<8\/8<t/\t<12->Env.get e' t=Env.get e t)->Env.get e' 8=Ph->LI s' pb n bl bp bs Pg Pf Pe (OW bf ms m 0 p W).1->NP s' N (OW bf ms m 0 p W).2 Ph->(∀j,Xb Ph j->Xb wv j\/s.next<=j)->(∀j,Xb Ph j->Xk pb bl bp bs Pg Pf Pe j) ->
   (Pg=bb\/s.next<=Pg)->(Pf=be\/s.next<=Pf)->(Pe=bm\/s.next<=Pe) ->
   (∀j,j<s.next->Xk pb bl bp bs bb be bm j->¬Xb wv j->s'.get j=s.get j)->s.next<=s'.next->Fr s'->ZB (goN U fin ks e' s')) :
  ZB (SD U fin (.bk 8::ks) Ic e s):=by
 have alb:=hw.few;refine YP (σ:=Nat) (fun x=>m-x) (fun x e' s'=>x<=m/\(∀t:Nat,t<8\/8<t/\t<12\/20<t/\t<120->Env.get e' t=Env.get e t)/\Env.get e' 120=.int .i64 (x:Nat)/\s.next<=s'.next/\Fr s' /\
   ∃p' W' Ph Pg Pf Pe,Env.get e' 8=Ph/\LI s' pb n bl bp bs Pg Pf Pe p'/\p'.Wf n/\p'.Zero/\OW bf ms (m-x) x p' W'=OW bf ms m 0 p W/\W'.length+p.bg.length=W.length+p'.bg.length/\NP s' N W' Ph/\(∀j,Xb Ph j->Xb wv j\/s.next<=j)/\(∀j,Xb Ph j->Xk pb bl bp bs Pg Pf Pe j) /\
    (Pg=bb\/s.next<=Pg)/\(Pf=be\/s.next<=Pf)/\(Pe=bm\/s.next<=Pe)/\(∀j,j<s.next->Xk pb bl bp bs bb be bm j->¬Xb wv j->s'.get j=s.get j)) 0 ?_
  ⟨aic _,fun _ _=>rfl,nC,agB _,fr,p,W,wv,bb,be,bm,g8,h,hw,hz,rfl,rfl,hW,fun j=>.inl,fun j hj=>(PQ j hj).1,.inl rfl,.inl rfl,.inl rfl,fun _ _ _ _=>rfl⟩
 rintro Lp x e' s' ⟨gg,hold,xp,Vl,Xx,p',W',Ph,Pg,Pf,Pe,q8,P,LS,f_,nB,hlen,rE,U2,Iy,xn,hbe,hbm,hs⟩ IH;have q3:=(hold 3 (by omega)).trans g3;have q4:=(hold 4 (by omega)).trans g4;have tT:=(hold 11 (by omega)).trans fk;have nz:=(hold 119 (by omega)).trans nD;have lts:=h.fZ;have hle:=hB.le;have Si:=LS.few;by_cases hd:x<m
 ·have Rm:=ZN hd (by omega);have B2:=hB.keep Vl fun j h1 h2=>by
   have h3:Xk pb bl bp bs bb be bm j:=by rcases fj j with h|h;unfold Ou at h;omega;exact h
   exact hs j (by omega) h3 fun hb=>by have:=(PQ j hb).2;unfold Ou at this;omega
  have M2:=hMr.keep Vl fun j h1 h2=>by obtain⟨h3,h4⟩:=hMf j h2;exact hs j h1 h3 h4
  have ahp:∀j,Xb mv j->j<s.next:=fun j hj=>by
   rcases hMr with⟨rfl,_⟩|⟨b,rfl,_,hb⟩
   ·exact absurd hj (V' j)
   ·rw[Yl] at hj;omega
  have ahq:∀j,Xb mv j->Xk pb bl bp bs Pg Pf Pe j/\¬Xb Ph j:=fun j hj=>by
   obtain⟨h3,h4⟩:=hMf j hj;have h5:=ahp j hj;refine⟨by unfold Xk at h3 ⊢;omega,fun h6=>?_⟩;rcases U2 j h6 with h7|h7
   ·exact h4 h7
   ·omega
  have ahr:∀j,Ou lo hi j\/Xk pb bl bp bs Pg Pf Pe j:=fun j=>by
   rcases fj j with h3|h3
   ·exact .inl h3
   ·unfold Xk at h3 ⊢;unfold Ou;omega
  have alg:∀j,Xb Ph j->Ou lo hi j:=fun j hj=>by
   rcases U2 j hj with h3|h3
   ·exact (PQ j h3).2
   ·unfold Ou;omega
  have Kf:=A5 LS f_ W' (nx:=fun u=>nx u x) hM (hb x hd);have MC:∀u∈ms.flatMap (bf x),u<n:=fun u hu=>by
   rw[List.mem_flatMap] at hu;obtain⟨c,h1,h2⟩:=hu;exact ((hb x hd c (hM c h1) u).1 h2).1
  have fu:Tch p' []:=⟨by simp,fun k hk=>by simp[f_ k hk],fun k hk=>by simp at hk⟩;have ny:=PR (ms.flatMap (bf x)) LS fu MC;have adz:=OT (ms.flatMap (bf x)) p' [];have MB:=Eh hM (fun c hc=>Hd x hd c hc);rw[List.length_nil,ald] at adz;have tS:ms.length*n<=2^9*2^9:=Nat.mul_le_mul hml hn;rw[show m-x=(m-(x+1))+1 by omega,OW] at nB;unfold rF at nB Kf;simp only[go_sem,Ic,tT,nz,xp,Z8,hd,M2.SW];refine adA (N:=N) (p:=p') (T:=[]) (tv:=.ZW) (ms:=ms) (mv:=mv) (B:=B) (m:=m) (lo:=lo) (hi:=hi) (x:=x) (bf:=bf) (bx:=bx) (vs:=vs) (by omega) (by omega) hd P LS hM (by omega) (by simp;omega) (fun c hc=>⟨Hd x hd c hc,fun u hu=>((hb x hd c hc u).1 hu).1⟩) ?_ ?_ ?_ ?_ ?_ ?_ ?_ (.inl ⟨rfl,rfl⟩) (fun j hj=>absurd hj (V' j)) (by omega) M2 (fun j hj=>⟨(ahq j hj).1,V' j⟩) B2 ahr Xx ?_
  case refine_8 =>
   intro e2 s2 tv2 QF fh P2 T2 ht2 fs2 rD O1;have p8:Env.get e2 8=Ph:=by rw[QF 8 (by omega)];simp only[go_sem,q8]
   have p3:Env.get e2 3=.ptr pb 0:=by rw[QF 3 (by omega)];simp only[go_sem,q3]
   have aaO:=P.fZ;have W2:=rE.keep rD fun j h1 h2 h3=>by
    have h4:=Iy j h3;unfold Xk at h4;exact fs2 j h1 (by omega) (by omega) (by omega) (V' j)
   simp only[go_sem,fh,T2.SW];refine adB (N:=N) (p:=(YD (ms.flatMap (bf x)) p' []).1) (T:=(YD (ms.flatMap (bf x)) p' []).2) (tv:=tv2) (W:=W') (wv:=Ph) (by omega) P2 ny.wf ny.aR.nd (fun k hk=>⟨ny.aR.lt k hk,(ny.aR.mem k (ny.aR.lt k hk)).1 hk⟩) (by omega) (by omega) ?_ ?_ ?_ ?_ ?_ T2 W2 (by omega) (fun j hj=>?_) Iy O1 ?_
   case refine_7 =>
    intro e3 s3 wv3 cb ce cm Eg h3b P3 W3 xm hf3 hcb hce Ef fs3 fg rC;have ahs:Env.get e3 120=.int .i64 (x:Nat):=by
     rw[Eg 120 (by omega)];simp only[go_sem];rw[QF 120 (by omega)];simp only[go_sem,xp]
    simp only[go_sem,ahs,Rm];have PY:=Kf.rG;refine IH (x+1) _ _ (by omega) ⟨by omega,fun t ht=>?_,?_,by omega,rC,_,_,wv3,cb,ce,cm,?_,P3,Kf.wf,Kf.zero,nB,by omega,W3,fun j hj=>?_,hf3,by omega,by omega,by omega,fun j h1 h2 h3=>?_⟩
    ·have ZC:∀k:Nat,120<=k->(k=t)=False:=fun k hk=>by simp;omega
     have adC:(12=t)=False:=by simp;omega
     have nu:(13=t)=False:=by simp;omega
     simp only[go_sem,ZC];rw[Eg t (by omega)];simp only[go_sem,ZC];rw[QF t (by omega)];simp only[go_sem,ZC,adC,nu];exact hold t ht
    ·simp only[go_sem]
    ·simp only[go_sem,h3b]
    ·rcases xm j hj with h6|h6
     ·exact U2 j h6
     ·right;omega
    ·by_cases hb:Xb Ph j
     ·rcases U2 j hb with h6|h6
      ·exact absurd h6 h3
      ·omega
     ·unfold Xk at h2;rw[fs3 j (by omega) (by omega) (by omega) (by omega) (by omega) (by omega) hb,fs2 j (by omega) (by omega) (by omega) (by omega) (V' j),hs j h1 h2 h3]
   case refine_6 =>
    rcases ht2 j hj with h6|h6
    ·exact absurd h6 (V' j)
    ·refine⟨by unfold Xk;omega,fun hb=>?_⟩;have:=rE.lt hb;omega
   all_goals simp only[go_sem,p3,p8]
   all_goals rfl
  all_goals simp only[go_sem,q3,q4]
  all_goals rfl
 ·have:x=m:=by omega
  subst this;rw[Nat.sub_self,OW] at nB;rw[<-nB] at hk;simp only[go_sem,Ic,nz,xp,Z8,alh];refine hk _ _ Ph Pg Pf Pe (fun t ht=>?_) ?_ P rE U2 Iy xn hbe hbm hs Vl Xx
  ·have ZC:∀k:Nat,120<=k->(k=t)=False:=fun k hk=>by simp;omega
   simp only[go_sem,ZC];exact hold t (by omega)
  ·simp only[go_sem,q8]
end Go.Am
