/- A part of the proof of a statement of this seat: the machine on which the program is read, and what it computes; for every input. -/
import Derived.Test.YtkmaeondbkpajaaGreatDoorG09
set_option linter.all false
namespace Go.Am
open Go
variable [ZZ]
set_option maxRecDepth 100000
set_option maxHeartbeats 8000000
theorem acn {β:Type}{fin:Fl->β}{ks:List K}{Zu:β->Prop}{pb n bl bp bs bb be bm N:Nat}{p:Pt}{T W:List Nat}{tv wv:AV}{e:Env}{s:St}(hn:n<=2^9)(h:M9 s pb n bl bp bs bb be bm p)(hw:p.Wf n)(BL:T.Nodup)(hTp:∀k∈T,k<p.bg.length/\0<gt p.mr k)(hTl:T.length<=2^29)(hWl:W.length+T.length<=2^30)
  (g3:Env.get e 3=.ptr pb 0)(g8:Env.get e 8=wv)(aii:Env.get e 156=tv)(aij:Env.get e 157=.int .i64 T.length)(aik:Env.get e 158=.int .i64 (0:Nat))
  (hT:OO s N T tv)(hW:OO s N W wv)(hN:N<=s.next)(aH:∀j,Xi tv j->Xr pb bl bp bs bb be bm j/\¬Xi wv j)(bL:∀j,Xi wv j->Xr pb bl bp bs bb be bm j)(fr:Fr s)
  (hk:∀e' s' Qt Qs Qr Qq,(∀t:Nat,t<8\/8<t/\t<19\/20<t/\t<156->Env.get e' t=Env.get e t)->Env.get e' 8=Qt->M9 s' pb n bl bp bs Qs Qr Qq (TL T p W).1->OO s' N (TL T p W).2 Qt->(∀j,Xi Qt j->Xi wv j\/s.next<=j)->(∀j,Xi Qt j->Xr pb bl bp bs Qs Qr Qq j) ->
   (Qs=bb\/s.next<=Qs)->(Qr=be\/s.next<=Qr)->(Qq=bm\/s.next<=Qq) ->
   (∀j,j<s.next->j≠pb->j≠bs->j≠bb->j≠be->j≠bm->¬Xi wv j->s'.get j=s.get j)->s.next<=s'.next->Fr s'->Zu (goN U fin ks e' s')) :
  Zu (SC U fin (.bk 14::ks) L5 e s):=by
 refine YG (σ:=Nat) (fun i=>T.length-i) (fun i e' s'=>i<=T.length/\(∀t:Nat,t<8\/8<t/\t<19\/20<t/\t<158->Env.get e' t=Env.get e t)/\Env.get e' 158=.int .i64 (i:Nat)/\s.next<=s'.next/\Fr s' /\
   ∃p' W' Qt Qs Qr Qq,Env.get e' 8=Qt/\M9 s' pb n bl bp bs Qs Qr Qq p'/\p'.Wf n/\(∀k∈T.drop i,k<p'.bg.length/\0<gt p'.mr k)/\TL (T.drop i) p' W'=TL T p W/\W'.length<=W.length+i/\OO s' N W' Qt/\(∀j,Xi Qt j->Xi wv j\/s.next<=j)/\(∀j,Xi Qt j->Xr pb bl bp bs Qs Qr Qq j) /\
    (Qs=bb\/s.next<=Qs)/\(Qr=be\/s.next<=Qr)/\(Qq=bm\/s.next<=Qq)/\(∀j,j<s.next->j≠pb->j≠bs->j≠bb->j≠be->j≠bm->¬Xi wv j->s'.get j=s.get j)) 0 ?_
  ⟨aji _,fun _ _=>rfl,aik,ajg _,fr,p,W,wv,bb,be,bm,g8,h,hw,hTp,rfl,by omega,hW,fun j=>.inl,bL,.inl rfl,.inl rfl,.inl rfl,fun _ _ _ _ _ _ _ _=>rfl⟩
 rintro Lp i e' s' ⟨dC,hold,ek,UL,UB,p',W',Qt,Qs,Qr,Qq,q8,P,M8,afu,Ll,hlen,tp,Vq,J_,yS,hbe,hbm,hs⟩ IH;have q3:=(hold 3 (by omega)).trans g3;have afv:=(hold 156 (by omega)).trans aii;have abQ:=(hold 157 (by omega)).trans aij;have lts:=h.jC;by_cases hd:i<T.length
 ·have Qp:=ZE hd (by omega);have T2:=hT.keep UL fun j h1 h2 h3=>by
   obtain⟨h4,h5⟩:=aH j h3;unfold Xr at h4;exact hs j h1 (by omega) (by omega) (by omega) (by omega) (by omega) h5
  obtain⟨b,R,rfl,hg,o1⟩:=T2.get hd;have GQ:=afu T[i] (by rw[abc hd];exact aba ..);rw[abc hd,TL] at Ll;have TW:∀k∈T.drop (i+1),(k<p'.bg.length/\0<gt p'.mr k)/\k≠T[i]:=fun k hk=>by
   refine⟨afu k (by rw[abc hd];exact aab _ hk),?_⟩;have hdn:(T.drop i).Nodup:=BL.sublist (List.drop_sublist i T);rw[abc hd,aj8] at hdn;rintro rfl;exact hdn.1 hk
  generalize T[i]=k at *;obtain⟨JJ,A5⟩:=GQ;have hc:=Cj M8 JJ A5;obtain⟨s2,cb,ce,cm,c1,P2,c2,c3,c4,c5,c6,c7⟩:=ah2 P M8 (by omega) UB JJ A5;have bK:=P.jC;have Ef:∀x∈T.drop (i+1),x<(p'.cut k).1.bg.length/\0<gt (p'.cut k).1.mr x:=fun x hx=>by
   obtain⟨⟨h1,h2⟩,h3⟩:=TW x hx;have hlen:=hc.len;rw[hc.mr x h1 h3];exact⟨by omega,h2⟩
  have W2:=tp.keep c2 fun j h1 h2 h3=>by
   have h4:=J_ j h3;unfold Xr at h4;exact c7 j h1 (by omega) (by omega) (by omega) (by omega) (by omega)
  have Qg:=M8.few;have fs:∀j,j<s.next->j≠pb->j≠bs->j≠bb->j≠be->j≠bm->¬Xi wv j->s2.get j=s.get j:=fun j h1 h2 h3 h4 h5 h6 h7=>by
   rw[c7 j (by omega) h2 h3 (by omega) (by omega) (by omega),hs j h1 h2 h3 h4 h5 h6 h7]
  cases VD:(p'.cut k).2 with
  |false =>
   rw[VD] at c1 Ll;rw[cond_false] at Ll c1;simp only[go_sem,L5,q3,q8,afv,abQ,ek,Z9,hd,hg,o1,da,c1,Qp,ajj];refine IH (i+1) _ _ (by omega) ⟨by omega,fun t ht=>?_,?_,by omega,c3,_,W',Qt,cb,ce,cm,?_,P2,hc.wf,Ef,Ll,by omega,W2,Vq,fun j hj=>?_,by omega,by omega,by omega,fs⟩
   ·have Zv:∀k:Nat,158<=k->(k=t)=False:=fun k hk=>by simp;omega
    have kj:(19=t)=False:=by simp;omega
    have ki:(20=t)=False:=by simp;omega
    simp only[go_sem,Zv,kj,ki];exact hold t ht
   ·simp only[go_sem]
   ·simp only[go_sem,q8]
   ·have h4:=J_ j hj;have h5:=tp.lt hj;unfold Xr at h4 ⊢;omega
  |true =>
   rw[VD] at c1 Ll;rw[cond_true] at Ll c1;have ju:=W2.Xg;have Gu:decide ((p'.bg.length:Int)>=0)=true:=by simp
   have vq:(W'.length+1)*8<=1099511627776:=by omega
   have pY:W'.length+1<=1099511627776:=by omega
   simp only[go_sem,L5,q3,q8,afv,abQ,ek,Z9,hd,hg,o1,da,c1,Qp,ajj,ajB,Gu,ZD,Nat.reducePow,ju,vq,pY];have T3:OO (s2.new (.cells [.int .i64 (p'.bg.length:Int)] 3 false 0 0)) N W' Qt:=W2.keep (by rw[Z'];omega) fun j h1 _ _=>by rw[ZY,if_neg (by omega)]
   obtain⟨s4,d1,d2,d3,d4,d5⟩:=T3.app (by rw[Z'];omega) p'.bg.length;rw[Z'] at d1 d2 d3 d4;rw[d1];simp only[go_sem,ek,Qp];have k4:∀j,j<s2.next->¬Xi Qt j->s4.get j=s2.get j:=fun j h1 h2=>by rw[d4 j (by omega) h2,ZY,if_neg (by omega)]
   have ai7:=P2.jC;refine IH (i+1) _ _ (by omega) ⟨by omega,fun t ht=>?_,?_,by omega,d5 (c3.new _),_,W'++[p'.bg.length],.sl (s2.next+1) 0 (W'.length+1) none 1,cb,ce,cm,?_,P2.mono (by omega) fun j hj=>k4 j (P2.lt j hj) fun hb=>?_,hc.wf,Ef,Ll,by simp;omega,d3,fun j hj=>?_,fun j hj=>?_,by omega,by omega,by omega,fun j h1 h2 h3 h4 h5 h6 h7=>?_⟩
   ·have Zv:∀k:Nat,158<=k->(k=t)=False:=fun k hk=>by simp;omega
    have kj:(19=t)=False:=by simp;omega
    have ki:(20=t)=False:=by simp;omega
    have kZ:(8=t)=False:=by simp;omega
    simp only[go_sem,Zv,kj,ki,kZ];exact hold t ht
   ·simp only[go_sem]
   ·simp only[go_sem]
   ·have h4:=J_ j hb;have h5:=tp.lt hb;unfold Xr at h4;simp only[ajo,List.not_mem_nil,or_false] at hj;omega
   ·rw[Yu] at hj;omega
   ·rw[Yu] at hj;unfold Xr;omega
   ·by_cases hb:Xi Qt j
    ·rcases Vq j hb with h8|h8
     ·exact absurd h8 h7
     ·omega
    ·rw[k4 j (by omega) hb,fs j h1 h2 h3 h4 h5 h6 h7]
 ·have:i=T.length:=by omega
  subst this;rw[ajy,TL] at Ll;rw[<-Ll] at hk;simp only[go_sem,L5,abQ,ek,Z9,ajp];refine hk _ _ Qt Qs Qr Qq (fun t ht=>?_) ?_ P tp Vq J_ yS hbe hbm hs UL UB
  ·have Zv:∀k:Nat,158<=k->(k=t)=False:=fun k hk=>by simp;omega
   simp only[go_sem,Zv];exact hold t (by omega)
  ·simp only[go_sem,q8]
theorem FN {f:Nat->List Nat}{n:Nat}:∀{ms:List Nat},(∀u∈ms,u<n)->(∀c,c<n->(f c).length<=n)->(ms.flatMap f).length<=ms.length*n
 |[],_,_=>by simp
 |c::l,h1,h2=>by
  have ih:=FN (f:=f) (ms:=l) (fun u hu=>h1 u (aab _ hu)) h2;have:=h2 c (h1 c (aba ..));rw[ajL,ajh,ajk,Nat.succ_mul];omega
theorem acj {β:Type}{fin:Fl->β}{ks:List K}{Zu:β->Prop}{pb n m bl bp bs bb be bm N B lo hi:Nat}{bf:Nat->Nat->List Nat}{nx:Nat->Nat->Nat}{bx:Nat->Nat}{vs:Nat->Nat->AV}{p:Pt}{W ms:List Nat}{wv mv:AV}{e:Env}{s:St}(hn:n<=2^9)(hm:m<=2^8)(h:M9 s pb n bl bp bs bb be bm p)(hw:p.Wf n)(hz:p.Zero)(hM:∀u∈ms,u<n)(hml:ms.length<=2^9)(hWl:W.length<=2^20)
  (hb:∀y,y<m->∀c,c<n->∀u,u∈bf y c<->u<n/\nx u y=c)(Gn:∀y,y<m->∀c,c<n->(bf y c).length<=n)
  (g3:Env.get e 3=.ptr pb 0)(g4:Env.get e 4=.sl B 0 m (some m) 1)(g8:Env.get e 8=wv)(DZ:Env.get e 11=mv)(pC:Env.get e 119=.int .i64 (m:Int))(pB:Env.get e 120=.int .i64 (0:Nat))
  (hW:OO s N W wv)(bL:∀j,Xi wv j->Xr pb bl bp bs bb be bm j/\Ou lo hi j)(hN:N<=s.next)(hMr:DY s ms mv)(hMf:∀j,Xi mv j->Xr pb bl bp bs bb be bm j/\¬Xi wv j)
  (hB:Cb s B m n bf lo hi bx vs)(iU:∀j,Ou lo hi j\/Xr pb bl bp bs bb be bm j)(fr:Fr s)
  (hk:∀e' s' Qt Qs Qr Qq,(∀t:Nat,t<8\/8<t/\t<12->Env.get e' t=Env.get e t)->Env.get e' 8=Qt->M9 s' pb n bl bp bs Qs Qr Qq (P8 bf ms m 0 p W).1->OO s' N (P8 bf ms m 0 p W).2 Qt->(∀j,Xi Qt j->Xi wv j\/s.next<=j)->(∀j,Xi Qt j->Xr pb bl bp bs Qs Qr Qq j) ->
   (Qs=bb\/s.next<=Qs)->(Qr=be\/s.next<=Qr)->(Qq=bm\/s.next<=Qq) ->
   (∀j,j<s.next->Xr pb bl bp bs bb be bm j->¬Xi wv j->s'.get j=s.get j)->s.next<=s'.next->Fr s'->Zu (goN U fin ks e' s')) :
  Zu (SC U fin (.bk 8::ks) JQ e s):=by
 have aiK:=hw.few;refine YG (σ:=Nat) (fun x=>m-x) (fun x e' s'=>x<=m/\(∀t:Nat,t<8\/8<t/\t<12\/20<t/\t<120->Env.get e' t=Env.get e t)/\Env.get e' 120=.int .i64 (x:Nat)/\s.next<=s'.next/\Fr s' /\
   ∃p' W' Qt Qs Qr Qq,Env.get e' 8=Qt/\M9 s' pb n bl bp bs Qs Qr Qq p'/\p'.Wf n/\p'.Zero/\P8 bf ms (m-x) x p' W'=P8 bf ms m 0 p W/\W'.length+p.bg.length=W.length+p'.bg.length/\OO s' N W' Qt/\(∀j,Xi Qt j->Xi wv j\/s.next<=j)/\(∀j,Xi Qt j->Xr pb bl bp bs Qs Qr Qq j) /\
    (Qs=bb\/s.next<=Qs)/\(Qr=be\/s.next<=Qr)/\(Qq=bm\/s.next<=Qq)/\(∀j,j<s.next->Xr pb bl bp bs bb be bm j->¬Xi wv j->s'.get j=s.get j)) 0 ?_
  ⟨aji _,fun _ _=>rfl,pB,ajg _,fr,p,W,wv,bb,be,bm,g8,h,hw,hz,rfl,rfl,hW,fun j=>.inl,fun j hj=>(bL j hj).1,.inl rfl,.inl rfl,.inl rfl,fun _ _ _ _=>rfl⟩
 rintro Lp x e' s' ⟨jF,hold,yT,UL,UB,p',W',Qt,Qs,Qr,Qq,q8,P,M8,jE,pA,hlen,tp,Vq,J_,yS,hbe,hbm,hs⟩ IH;have q3:=(hold 3 (by omega)).trans g3;have q4:=(hold 4 (by omega)).trans g4;have jD:=(hold 11 (by omega)).trans DZ;have pz:=(hold 119 (by omega)).trans pC;have lts:=h.jC;have hle:=hB.le;have Qg:=M8.few;by_cases hd:x<m
 ·have Qp:=ZE hd (by omega);have B2:=hB.keep UL fun j h1 h2=>by
   have h3:Xr pb bl bp bs bb be bm j:=by rcases iU j with h|h;unfold Ou at h;omega;exact h
   exact hs j (by omega) h3 fun hb=>by have:=(bL j hb).2;unfold Ou at this;omega
  have M2:=hMr.keep UL fun j h1 h2=>by obtain⟨h3,h4⟩:=hMf j h2;exact hs j h1 h3 h4
  have afR:∀j,Xi mv j->j<s.next:=fun j hj=>by
   rcases hMr with⟨rfl,_⟩|⟨b,rfl,_,hb⟩
   ·exact absurd hj (Ws j)
   ·rw[Yu] at hj;omega
  have afS:∀j,Xi mv j->Xr pb bl bp bs Qs Qr Qq j/\¬Xi Qt j:=fun j hj=>by
   obtain⟨h3,h4⟩:=hMf j hj;have h5:=afR j hj;refine⟨by unfold Xr at h3 ⊢;omega,fun h6=>?_⟩;rcases Vq j h6 with h7|h7
   ·exact h4 h7
   ·omega
  have afT:∀j,Ou lo hi j\/Xr pb bl bp bs Qs Qr Qq j:=fun j=>by
   rcases iU j with h3|h3
   ·exact .inl h3
   ·unfold Xr at h3 ⊢;unfold Ou;omega
  have aiR:∀j,Xi Qt j->Ou lo hi j:=fun j hj=>by
   rcases Vq j hj with h3|h3
   ·exact (bL j h3).2
   ·unfold Ou;omega
  have Lu:=Ci M8 jE W' (nx:=fun u=>nx u x) hM (hb x hd);have NP:∀u∈ms.flatMap (bf x),u<n:=fun u hu=>by
   rw[List.mem_flatMap] at hu;obtain⟨c,h1,h2⟩:=hu;exact ((hb x hd c (hM c h1) u).1 h2).1
  have iX:Tch p' []:=⟨by simp,fun k hk=>by simp[jE k hk],fun k hk=>by simp at hk⟩;have py:=QX (ms.flatMap (bf x)) M8 iX NP;have ack:=P6 (ms.flatMap (bf x)) p' [];have Lt:=FN hM (fun c hc=>Gn x hd c hc);rw[List.length_nil,ajr] at ack;have Ca:ms.length*n<=2^9*2^9:=Nat.mul_le_mul hml hn;rw[show m-x=(m-(x+1))+1 by omega,P8] at pA;unfold tw at pA Lu;simp only[go_sem,JQ,jD,pz,yT,Z9,hd,M2.TK];refine acm (N:=N) (p:=p') (T:=[]) (tv:=.ZM) (ms:=ms) (mv:=mv) (B:=B) (m:=m) (lo:=lo) (hi:=hi) (x:=x) (bf:=bf) (bx:=bx) (vs:=vs) (by omega) (by omega) hd P M8 hM (by omega) (by simp;omega) (fun c hc=>⟨Gn x hd c hc,fun u hu=>((hb x hd c hc u).1 hu).1⟩) ?_ ?_ ?_ ?_ ?_ ?_ ?_ (.inl ⟨rfl,rfl⟩) (fun j hj=>absurd hj (Ws j)) (by omega) M2 (fun j hj=>⟨(afS j hj).1,Ws j⟩) B2 afT UB ?_
  case refine_8 =>
   intro e2 s2 tv2 Og jB P2 T2 ht2 fs2 qf IV;have p8:Env.get e2 8=Qt:=by rw[Og 8 (by omega)];simp only[go_sem,q8]
   have p3:Env.get e2 3=.ptr pb 0:=by rw[Og 3 (by omega)];simp only[go_sem,q3]
   have bK:=P.jC;have W2:=tp.keep qf fun j h1 h2 h3=>by
    have h4:=J_ j h3;unfold Xr at h4;exact fs2 j h1 (by omega) (by omega) (by omega) (Ws j)
   simp only[go_sem,jB,T2.TK];refine acn (N:=N) (p:=(YJ (ms.flatMap (bf x)) p' []).1) (T:=(YJ (ms.flatMap (bf x)) p' []).2) (tv:=tv2) (W:=W') (wv:=Qt) (by omega) P2 py.wf py.dR.nd (fun k hk=>⟨py.dR.lt k hk,(py.dR.mem k (py.dR.lt k hk)).1 hk⟩) (by omega) (by omega) ?_ ?_ ?_ ?_ ?_ T2 W2 (by omega) (fun j hj=>?_) J_ IV ?_
   case refine_7 =>
    intro e3 s3 wv3 cb ce cm FM h3b P3 W3 yQ hf3 hcb hce Gy fs3 iT tn;have afU:Env.get e3 120=.int .i64 (x:Nat):=by
     rw[FM 120 (by omega)];simp only[go_sem];rw[Og 120 (by omega)];simp only[go_sem,yT]
    simp only[go_sem,afU,Qp];have bR:=Lu.tA;refine IH (x+1) _ _ (by omega) ⟨by omega,fun t ht=>?_,?_,by omega,tn,_,_,wv3,cb,ce,cm,?_,P3,Lu.wf,Lu.zero,pA,by omega,W3,fun j hj=>?_,hf3,by omega,by omega,by omega,fun j h1 h2 h3=>?_⟩
    ·have Zv:∀k:Nat,120<=k->(k=t)=False:=fun k hk=>by simp;omega
     have aco:(12=t)=False:=by simp;omega
     have px:(13=t)=False:=by simp;omega
     simp only[go_sem,Zv];rw[FM t (by omega)];simp only[go_sem,Zv];rw[Og t (by omega)];simp only[go_sem,Zv,aco,px];exact hold t ht
    ·simp only[go_sem]
    ·simp only[go_sem,h3b]
    ·rcases yQ j hj with h6|h6
     ·exact Vq j h6
     ·right;omega
    ·by_cases hb:Xi Qt j
     ·rcases Vq j hb with h6|h6
      ·exact absurd h6 h3
      ·omega
     ·unfold Xr at h2;rw[fs3 j (by omega) (by omega) (by omega) (by omega) (by omega) (by omega) hb,fs2 j (by omega) (by omega) (by omega) (by omega) (Ws j),hs j h1 h2 h3]
   case refine_6 =>
    rcases ht2 j hj with h6|h6
    ·exact absurd h6 (Ws j)
    ·refine⟨by unfold Xr;omega,fun hb=>?_⟩;have:=tp.lt hb;omega
   all_goals simp only[go_sem,p3,p8,jB]
   all_goals rfl
  all_goals simp only[go_sem,q3,q4,jD]
  all_goals rfl
 ·have:x=m:=by omega
  subst this;rw[Nat.sub_self,P8] at pA;rw[<-pA] at hk;simp only[go_sem,JQ,pz,yT,Z9,ajp];refine hk _ _ Qt Qs Qr Qq (fun t ht=>?_) ?_ P tp Vq J_ yS hbe hbm hs UL UB
  ·have Zv:∀k:Nat,120<=k->(k=t)=False:=fun k hk=>by simp;omega
   simp only[go_sem,Zv];exact hold t (by omega)
  ·simp only[go_sem,q8]
end Go.Am
