/- A part of the proof of a statement of this seat: the machine on which the program is read, and what it computes; for every input. -/
import Derived.Test.YtikiipfbkfgmbaaGreatDoorZ09
set_option linter.all false
namespace Go.Am
open Go
variable [Z4]
set_option maxRecDepth 100000
set_option maxHeartbeats 8000000
theorem adB {β:Type}{fin:Fl->β}{ks:List K}{ZB:β->Prop}{pb n bl bp bs bb be bm N:Nat}{p:Pt}{T W:List Nat}{tv wv:AV}{e:Env}{s:St}(hn:n<=2^9)(h:LI s pb n bl bp bs bb be bm p)(hw:p.Wf n)(EG:T.Nodup)(hTp:∀k∈T,k<p.bg.length/\0<gt p.mr k)(eD:T.length<=2^29)(hWl:W.length+T.length<=2^30)
  (g3:Env.get e 3=.ptr pb 0)(g8:Env.get e 8=wv)(akD:Env.get e 156=tv)(akE:Env.get e 157=.int .i64 T.length)(akF:Env.get e 158=.int .i64 (0:Nat))
  (hT:NP s N T tv)(hW:NP s N W wv)(hN:N<=s.next)(uo:∀j,Xb tv j->Xk pb bl bp bs bb be bm j/\¬Xb wv j)(PQ:∀j,Xb wv j->Xk pb bl bp bs bb be bm j)(fr:Fr s)
  (hk:∀e' s' Ph Pg Pf Pe,(∀t:Nat,t<8\/8<t/\t<19\/20<t/\t<156->Env.get e' t=Env.get e t)->Env.get e' 8=Ph->LI s' pb n bl bp bs Pg Pf Pe (SZ T p W).1->NP s' N (SZ T p W).2 Ph->(∀j,Xb Ph j->Xb wv j\/s.next<=j)->(∀j,Xb Ph j->Xk pb bl bp bs Pg Pf Pe j) ->
   (Pg=bb\/s.next<=Pg)->(Pf=be\/s.next<=Pf)->(Pe=bm\/s.next<=Pe) ->
   (∀j,j<s.next->j≠pb->j≠bs->j≠bb->j≠be->j≠bm->¬Xb wv j->s'.get j=s.get j)->s.next<=s'.next->Fr s'->ZB (goN U fin ks e' s')) :
  ZB (SD U fin (.bk 14::ks) KP e s):=by
 refine YP (σ:=Nat) (fun i=>T.length-i) (fun i e' s'=>i<=T.length/\(∀t:Nat,t<8\/8<t/\t<19\/20<t/\t<158->Env.get e' t=Env.get e t)/\Env.get e' 158=.int .i64 (i:Nat)/\s.next<=s'.next/\Fr s' /\
   ∃p' W' Ph Pg Pf Pe,Env.get e' 8=Ph/\LI s' pb n bl bp bs Pg Pf Pe p'/\p'.Wf n/\(∀k∈T.drop i,k<p'.bg.length/\0<gt p'.mr k)/\SZ (T.drop i) p' W'=SZ T p W/\W'.length<=W.length+i/\NP s' N W' Ph/\(∀j,Xb Ph j->Xb wv j\/s.next<=j)/\(∀j,Xb Ph j->Xk pb bl bp bs Pg Pf Pe j) /\
    (Pg=bb\/s.next<=Pg)/\(Pf=be\/s.next<=Pf)/\(Pe=bm\/s.next<=Pe)/\(∀j,j<s.next->j≠pb->j≠bs->j≠bb->j≠be->j≠bm->¬Xb wv j->s'.get j=s.get j)) 0 ?_
  ⟨aic _,fun _ _=>rfl,akF,agB _,fr,p,W,wv,bb,be,bm,g8,h,hw,hTp,rfl,by omega,hW,fun j=>.inl,PQ,.inl rfl,.inl rfl,.inl rfl,fun _ _ _ _ _ _ _ _=>rfl⟩
 rintro Lp i e' s' ⟨ra,hold,bB,Vl,Xx,p',W',Ph,Pg,Pf,Pe,q8,P,LS,agZ,J7,hlen,rE,U2,Iy,xn,hbe,hbm,hs⟩ IH;have q3:=(hold 3 (by omega)).trans g3;have ag0:=(hold 156 (by omega)).trans akD;have ac0:=(hold 157 (by omega)).trans akE;have lts:=h.fZ;by_cases hd:i<T.length
 ·have Rm:=ZN hd (by omega);have T2:=hT.keep Vl fun j h1 h2 h3=>by
   obtain⟨h4,h5⟩:=uo j h3;unfold Xk at h4;exact hs j h1 (by omega) (by omega) (by omega) (by omega) (by omega) h5
  obtain⟨b,R,rfl,hg,o1⟩:=T2.get hd;have Fo:=agZ T[i] (by rw[abc hd];exact aba ..);rw[abc hd,SZ] at J7;have UF:∀k∈T.drop (i+1),(k<p'.bg.length/\0<gt p'.mr k)/\k≠T[i]:=fun k hk=>by
   refine⟨agZ k (by rw[abc hd];exact aab _ hk),?_⟩;have hdn:(T.drop i).Nodup:=EG.sublist (List.drop_sublist i T);rw[abc hd,amv] at hdn;rintro rfl;exact hdn.1 hk
  generalize T[i]=k at *;obtain⟨Jd,BW⟩:=Fo;have hc:=A6 LS Jd BW;obtain⟨s2,cb,ce,cm,c1,P2,c2,c3,c4,c5,c6,c7⟩:=akm P LS (by omega) Xx Jd BW;have aaO:=P.fZ;have CZ:∀x∈T.drop (i+1),x<(p'.cut k).1.bg.length/\0<gt (p'.cut k).1.mr x:=fun x hx=>by
   obtain⟨⟨h1,h2⟩,h3⟩:=UF x hx;have hlen:=hc.len;rw[hc.mr x h1 h3];exact⟨by omega,h2⟩
  have W2:=rE.keep c2 fun j h1 h2 h3=>by
   have h4:=Iy j h3;unfold Xk at h4;exact c7 j h1 (by omega) (by omega) (by omega) (by omega) (by omega)
  have Si:=LS.few;have fs:∀j,j<s.next->j≠pb->j≠bs->j≠bb->j≠be->j≠bm->¬Xb wv j->s2.get j=s.get j:=fun j h1 h2 h3 h4 h5 h6 h7=>by
   rw[c7 j (by omega) h2 h3 (by omega) (by omega) (by omega),hs j h1 h2 h3 h4 h5 h6 h7]
  cases VP:(p'.cut k).2 with
  |false =>
   rw[VP] at c1 J7;rw[cond_false] at J7 c1;simp only[go_sem,KP,q3,q8,ag0,ac0,bB,Z8,hd,hg,o1,aah,c1,Rm,ah1];refine IH (i+1) _ _ (by omega) ⟨by omega,fun t ht=>?_,?_,by omega,c3,_,W',Ph,cb,ce,cm,?_,P2,hc.wf,CZ,J7,by omega,W2,U2,fun j hj=>?_,by omega,by omega,by omega,fs⟩
   ·have ZC:∀k:Nat,158<=k->(k=t)=False:=fun k hk=>by simp;omega
    have ia:(19=t)=False:=by simp;omega
    have h_:(20=t)=False:=by simp;omega
    simp only[go_sem,ZC,ia,h_];exact hold t ht
   ·simp only[go_sem]
   ·simp only[go_sem,q8]
   ·have h4:=Iy j hj;have h5:=rE.lt hj;unfold Xk at h4 ⊢;omega
  |true =>
   rw[VP] at c1 J7;rw[cond_true] at J7 c1;have fS:=W2.Xj;have EH:decide ((p'.bg.length:Int)>=0)=true:=by simp
   have tA:(W'.length+1)*8<=1099511627776:=by omega
   have nZ:W'.length+1<=1099511627776:=by omega
   simp only[go_sem,KP,q3,q8,ag0,ac0,bB,Z8,hd,hg,o1,aah,c1,ah1,ZH,Nat.reducePow,fS,tA,nZ];have T3:NP (s2.new (.cells [.int .i64 (p'.bg.length:Int)] 3 false 0 0)) N W' Ph:=W2.keep (by rw[Z_];omega) fun j h1 _ _=>by rw[Z7,if_neg (by omega)]
   obtain⟨s4,d1,d2,d3,d4,d5⟩:=T3.app (by rw[Z_];omega) p'.bg.length;rw[Z_] at d1 d2 d3 d4;rw[d1];simp only[go_sem,bB,Rm];have k4:∀j,j<s2.next->¬Xb Ph j->s4.get j=s2.get j:=fun j h1 h2=>by rw[d4 j (by omega) h2,Z7,if_neg (by omega)]
   have alA:=P2.fZ;refine IH (i+1) _ _ (by omega) ⟨by omega,fun t ht=>?_,?_,by omega,d5 (c3.new _),_,W'++[p'.bg.length],.sl (s2.next+1) 0 (W'.length+1) none 1,cb,ce,cm,?_,P2.mono (by omega) fun j hj=>k4 j (P2.lt j hj) fun hb=>?_,hc.wf,CZ,J7,by simp;omega,d3,fun j hj=>?_,fun j hj=>?_,by omega,by omega,by omega,fun j h1 h2 h3 h4 h5 h6 h7=>?_⟩
   ·have ZC:∀k:Nat,158<=k->(k=t)=False:=fun k hk=>by simp;omega
    have ia:(19=t)=False:=by simp;omega
    have h_:(20=t)=False:=by simp;omega
    have uC:(8=t)=False:=by simp;omega
    simp only[go_sem,ZC,ia,h_,uC];exact hold t ht
   ·simp only[go_sem]
   ·simp only[go_sem]
   ·have h4:=Iy j hb;have h5:=rE.lt hb;unfold Xk at h4;simp only[alL,List.not_mem_nil,or_false] at hj;omega
   ·rw[Yl] at hj;omega
   ·rw[Yl] at hj;unfold Xk;omega
   ·by_cases hb:Xb Ph j
    ·rcases U2 j hb with h8|h8
     ·exact absurd h8 h7
     ·omega
    ·rw[k4 j (by omega) hb,fs j h1 h2 h3 h4 h5 h6 h7]
 ·have:i=T.length:=by omega
  subst this;rw[alO,SZ] at J7;rw[<-J7] at hk;simp only[go_sem,KP,ac0,bB,Z8,alh];refine hk _ _ Ph Pg Pf Pe (fun t ht=>?_) ?_ P rE U2 Iy xn hbe hbm hs Vl Xx
  ·have ZC:∀k:Nat,158<=k->(k=t)=False:=fun k hk=>by simp;omega
   simp only[go_sem,ZC];exact hold t (by omega)
  ·simp only[go_sem,q8]
end Go.Am
