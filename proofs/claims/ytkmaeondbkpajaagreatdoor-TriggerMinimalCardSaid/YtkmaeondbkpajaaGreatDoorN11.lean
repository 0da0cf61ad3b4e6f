/- A part of the proof of a statement of this seat: the machine on which the program is read, and what it computes; for every input. -/
import Derived.Test.YtkmaeondbkpajaaGreatDoorN10
set_option linter.all false
namespace Go.Am
open Go
variable [Z3]
set_option maxRecDepth 100000
set_option maxHeartbeats 8000000
theorem eO {β:Type}{fin:Fl->β}{ks:List K}{ZV:β->Prop}{pb n bl bp bs bb be bm N:Nat}{p:Pt}{T W:List Nat}{tv wv:AV}{e:Env}{s:St}(hn:n<=2^9)(h:O8 s pb n bl bp bs bb be bm p)(hw:p.Wf n)(LX:T.Nodup)(hTp:∀k∈T,k<p.bg.length/\0<gt p.mr k)(lI:T.length<=2^29)(hWl:W.length+T.length<=2^30)
  (g3:Env.get e 3=.ptr pb 0)(g8:Env.get e 8=wv)(ad9:Env.get e 156=tv)(ad_:Env.get e 157=.int .i64 T.length)(ad':Env.get e 158=.int .i64 (0:Nat))
  (hT:QH s N T tv)(hW:QH s N W wv)(hN:N<=s.next)(lH:∀j,Yn tv j->Yj pb bl bp bs bb be bm j/\¬Yn wv j)(me:∀j,Yn wv j->Yj pb bl bp bs bb be bm j)(fr:Fr s)
  (hk:∀e' s' R8 R7 R6 R5,(∀t:Nat,t<8\/8<t/\t<19\/20<t/\t<156->Env.get e' t=Env.get e t)->Env.get e' 8=R8->O8 s' pb n bl bp bs R7 R6 R5 (US T p W).1->QH s' N (US T p W).2 R8->(∀j,Yn R8 j->Yn wv j\/s.next<=j)->(∀j,Yn R8 j->Yj pb bl bp bs R7 R6 R5 j) ->
   (R7=bb\/s.next<=R7)->(R6=be\/s.next<=R6)->(R5=bm\/s.next<=R5) ->
   (∀j,j<s.next->j≠pb->j≠bs->j≠bb->j≠be->j≠bm->¬Yn wv j->s'.get j=s.get j)->s.next<=s'.next->Fr s'->ZV (goN U fin ks e' s')) :
  ZV (Vx U fin (.bk 14::ks) N4 e s):=by
 refine ZC (σ:=Nat) (fun i=>T.length-i) (fun i e' s'=>i<=T.length/\(∀t:Nat,t<8\/8<t/\t<19\/20<t/\t<158->Env.get e' t=Env.get e t)/\Env.get e' 158=.int .i64 (i:Nat)/\s.next<=s'.next/\Fr s' /\
   ∃p' W' R8 R7 R6 R5,Env.get e' 8=R8/\O8 s' pb n bl bp bs R7 R6 R5 p'/\p'.Wf n/\(∀k∈T.drop i,k<p'.bg.length/\0<gt p'.mr k)/\US (T.drop i) p' W'=US T p W/\W'.length<=W.length+i/\QH s' N W' R8/\(∀j,Yn R8 j->Yn wv j\/s.next<=j)/\(∀j,Yn R8 j->Yj pb bl bp bs R7 R6 R5 j) /\
    (R7=bb\/s.next<=R7)/\(R6=be\/s.next<=R6)/\(R5=bm\/s.next<=R5)/\(∀j,j<s.next->j≠pb->j≠bs->j≠bb->j≠be->j≠bm->¬Yn wv j->s'.get j=s.get j)) 0 ?_
  ⟨ae5 _,fun _ _=>rfl,ad',aba _,fr,p,W,wv,bb,be,bm,g8,h,hw,hTp,rfl,by omega,hW,fun j=>.inl,me,.inl rfl,.inl rfl,.inl rfl,fun _ _ _ _ _ _ _ _=>rfl⟩
 rintro Lp i e' s' ⟨Gr,hold,oC,XY,YM,p',W',R8,R7,R6,R5,q8,P,L5,aaY,Nr,hlen,Aa,WH,L3,mc,hbe,hbm,hs⟩ IH;have q3:=(hold 3 (by omega)).trans g3;have aaZ:=(hold 156 (by omega)).trans ad9;have g_:=(hold 157 (by omega)).trans ad_;have lts:=h.su;by_cases hd:i<T.length
 ·have S6:=ZI hd (by omega);have T2:=hT.keep XY fun j h1 h2 h3=>by
   obtain⟨h4,h5⟩:=lH j h3;unfold Yj at h4;exact hs j h1 (by omega) (by omega) (by omega) (by omega) (by omega) h5
  obtain⟨b,R,rfl,hg,o1⟩:=T2.get hd;have NZ:=aaY T[i] (by rw[aeY hd];exact aeZ ..);rw[aeY hd,US] at Nr;have U_:∀k∈T.drop (i+1),(k<p'.bg.length/\0<gt p'.mr k)/\k≠T[i]:=fun k hk=>by
   refine⟨aaY k (by rw[aeY hd];exact abc _ hk),?_⟩;have hdn:(T.drop i).Nodup:=LX.sublist (List.drop_sublist i T);rw[aeY hd,afI] at hdn;rintro rfl;exact hdn.1 hk
  generalize T[i]=k at *;obtain⟨FA,zw⟩:=NZ;have hc:=Gi L5 FA zw;obtain⟨s2,cb,ce,cm,c1,P2,c2,c3,c4,c5,c6,c7⟩:=ad3 P L5 (by omega) YM FA zw;have l9:=P.su;have H4:∀x∈T.drop (i+1),x<(p'.cut k).1.bg.length/\0<gt (p'.cut k).1.mr x:=fun x hx=>by
   obtain⟨⟨h1,h2⟩,h3⟩:=U_ x hx;have hlen:=hc.len;rw[hc.mr x h1 h3];exact⟨by omega,h2⟩
  have W2:=Aa.keep c2 fun j h1 h2 h3=>by
   have h4:=L3 j h3;unfold Yj at h4;exact c7 j h1 (by omega) (by omega) (by omega) (by omega) (by omega)
  have Te:=L5.few;have fs:∀j,j<s.next->j≠pb->j≠bs->j≠bb->j≠be->j≠bm->¬Yn wv j->s2.get j=s.get j:=fun j h1 h2 h3 h4 h5 h6 h7=>by
   rw[c7 j (by omega) h2 h3 (by omega) (by omega) (by omega),hs j h1 h2 h3 h4 h5 h6 h7]
  cases TG:(p'.cut k).2 with
  |false =>
   rw[TG] at c1 Nr;rw[cond_false] at Nr c1;simp only[go_sem,N4,q3,q8,aaZ,g_,oC,Z8,hd,hg,o1,nq,c1,S6,ae3];refine IH (i+1) _ _ (by omega) ⟨by omega,fun t ht=>?_,?_,by omega,c3,_,W',R8,cb,ce,cm,?_,P2,hc.wf,H4,Nr,by omega,W2,WH,fun j hj=>?_,by omega,by omega,by omega,fs⟩
   ·have ZQ:∀k:Nat,158<=k->(k=t)=False:=fun k hk=>by simp;omega
    have tf:(19=t)=False:=by simp;omega
    have tb:(20=t)=False:=by simp;omega
    simp only[go_sem,ZQ,tf,tb];exact hold t ht
   ·simp only[go_sem]
   ·simp only[go_sem,q8]
   ·have h4:=L3 j hj;have h5:=Aa.lt hj;unfold Yj at h4 ⊢;omega
  |true =>
   rw[TG] at c1 Nr;rw[cond_true] at Nr c1;have Gl:=W2.WK;have SY:decide ((p'.bg.length:Int)>=0)=true:=by simp
   have Bt:(W'.length+1)*8<=1099511627776:=by omega
   have xR:W'.length+1<=1099511627776:=by omega
   simp only[go_sem,N4,q3,q8,aaZ,g_,oC,Z8,hd,hg,o1,nq,c1,S6,ae3,afu,SY,ZD,Nat.reducePow,Gl,Bt,xR];have T3:QH (s2.new (.cells [.int .i64 (p'.bg.length:Int)] 3 false 0 0)) N W' R8:=W2.keep (by rw[Z'];omega) fun j h1 _ _=>by rw[ZZ,if_neg (by omega)]
   obtain⟨s4,d1,d2,d3,d4,d5⟩:=T3.app (by rw[Z'];omega) p'.bg.length;rw[Z'] at d1 d2 d3 d4;rw[d1];simp only[go_sem,oC,S6];have k4:∀j,j<s2.next->¬Yn R8 j->s4.get j=s2.get j:=fun j h1 h2=>by rw[d4 j (by omega) h2,ZZ,if_neg (by omega)]
   have aeR:=P2.su;refine IH (i+1) _ _ (by omega) ⟨by omega,fun t ht=>?_,?_,by omega,d5 (c3.new _),_,W'++[p'.bg.length],.sl (s2.next+1) 0 (W'.length+1) none 1,cb,ce,cm,?_,P2.mono (by omega) fun j hj=>k4 j (P2.lt j hj) fun hb=>?_,hc.wf,H4,Nr,by simp;omega,d3,fun j hj=>?_,fun j hj=>?_,by omega,by omega,by omega,fun j h1 h2 h3 h4 h5 h6 h7=>?_⟩
   ·have ZQ:∀k:Nat,158<=k->(k=t)=False:=fun k hk=>by simp;omega
    have tf:(19=t)=False:=by simp;omega
    have tb:(20=t)=False:=by simp;omega
    have tI:(8=t)=False:=by simp;omega
    simp only[go_sem,ZQ,tf,tb,tI];exact hold t ht
   ·simp only[go_sem]
   ·simp only[go_sem]
   ·have h4:=L3 j hb;have h5:=Aa.lt hb;unfold Yj at h4;simp only[afa,List.not_mem_nil,or_false] at hj;omega
   ·rw[Y6] at hj;omega
   ·rw[Y6] at hj;unfold Yj;omega
   ·by_cases hb:Yn R8 j
    ·rcases WH j hb with h8|h8
     ·exact absurd h8 h7
     ·omega
    ·rw[k4 j (by omega) hb,fs j h1 h2 h3 h4 h5 h6 h7]
 ·have:i=T.length:=by omega
  subst this;rw[afE,US] at Nr;rw[<-Nr] at hk;simp only[go_sem,N4,g_,oC,Z8,afg];refine hk _ _ R8 R7 R6 R5 (fun t ht=>?_) ?_ P Aa WH L3 mc hbe hbm hs XY YM
  ·have ZQ:∀k:Nat,158<=k->(k=t)=False:=fun k hk=>by simp;omega
   simp only[go_sem,ZQ];exact hold t (by omega)
  ·simp only[go_sem,q8]
theorem I3 {f:Nat->List Nat}{n:Nat}:∀{ms:List Nat},(∀u∈ms,u<n)->(∀c,c<n->(f c).length<=n)->(ms.flatMap f).length<=ms.length*n
 |[],_,_=>by simp
 |c::l,h1,h2=>by
  have ih:=I3 (f:=f) (ms:=l) (fun u hu=>h1 u (abc _ hu)) h2;have:=h2 c (h1 c (aeZ ..));rw[afn,aeW,afc,Nat.succ_mul];omega
theorem eU {β:Type}{fin:Fl->β}{ks:List K}{ZV:β->Prop}{pb n m bl bp bs bb be bm N B lo hi:Nat}{bf:Nat->Nat->List Nat}{nx:Nat->Nat->Nat}{bx:Nat->Nat}{vs:Nat->Nat->AV}{p:Pt}{W ms:List Nat}{wv mv:AV}{e:Env}{s:St}(hn:n<=2^9)(hm:m<=2^8)(h:O8 s pb n bl bp bs bb be bm p)(hw:p.Wf n)(hz:p.Zero)(hM:∀u∈ms,u<n)(hml:ms.length<=2^9)(hWl:W.length<=2^20)
  (hb:∀y,y<m->∀c,c<n->∀u,u∈bf y c<->u<n/\nx u y=c)(LK:∀y,y<m->∀c,c<n->(bf y c).length<=n)
  (g3:Env.get e 3=.ptr pb 0)(g4:Env.get e 4=.sl B 0 m (some m) 1)(g8:Env.get e 8=wv)(Ga:Env.get e 11=mv)(xt:Env.get e 119=.int .i64 (m:Int))(xr:Env.get e 120=.int .i64 (0:Nat))
  (hW:QH s N W wv)(me:∀j,Yn wv j->Yj pb bl bp bs bb be bm j/\Ou lo hi j)(hN:N<=s.next)(hMr:HG s ms mv)(hMf:∀j,Yn mv j->Yj pb bl bp bs bb be bm j/\¬Yn wv j)
  (hB:F' s B m n bf lo hi bx vs)(rL:∀j,Ou lo hi j\/Yj pb bl bp bs bb be bm j)(fr:Fr s)
  (hk:∀e' s' R8 R7 R6 R5,(∀t:Nat,t<8\/8<t/\t<12->Env.get e' t=Env.get e t)->Env.get e' 8=R8->O8 s' pb n bl bp bs R7 R6 R5 (RJ bf ms m 0 p W).1->QH s' N (RJ bf ms m 0 p W).2 R8->(∀j,Yn R8 j->Yn wv j\/s.next<=j)->(∀j,Yn R8 j->Yj pb bl bp bs R7 R6 R5 j) ->
   (R7=bb\/s.next<=R7)->(R6=be\/s.next<=R6)->(R5=bm\/s.next<=R5) ->
   (∀j,j<s.next->Yj pb bl bp bs bb be bm j->¬Yn wv j->s'.get j=s.get j)->s.next<=s'.next->Fr s'->ZV (goN U fin ks e' s')) :
  ZV (Vx U fin (.bk 8::ks) LJ e s):=by
 have aem:=hw.few;refine ZC (σ:=Nat) (fun x=>m-x) (fun x e' s'=>x<=m/\(∀t:Nat,t<8\/8<t/\t<12\/20<t/\t<120->Env.get e' t=Env.get e t)/\Env.get e' 120=.int .i64 (x:Nat)/\s.next<=s'.next/\Fr s' /\
   ∃p' W' R8 R7 R6 R5,Env.get e' 8=R8/\O8 s' pb n bl bp bs R7 R6 R5 p'/\p'.Wf n/\p'.Zero/\RJ bf ms (m-x) x p' W'=RJ bf ms m 0 p W/\W'.length+p.bg.length=W.length+p'.bg.length/\QH s' N W' R8/\(∀j,Yn R8 j->Yn wv j\/s.next<=j)/\(∀j,Yn R8 j->Yj pb bl bp bs R7 R6 R5 j) /\
    (R7=bb\/s.next<=R7)/\(R6=be\/s.next<=R6)/\(R5=bm\/s.next<=R5)/\(∀j,j<s.next->Yj pb bl bp bs bb be bm j->¬Yn wv j->s'.get j=s.get j)) 0 ?_
  ⟨ae5 _,fun _ _=>rfl,xr,aba _,fr,p,W,wv,bb,be,bm,g8,h,hw,hz,rfl,rfl,hW,fun j=>.inl,fun j hj=>(me j hj).1,.inl rfl,.inl rfl,.inl rfl,fun _ _ _ _=>rfl⟩
 rintro Lp x e' s' ⟨eT,hold,DN,XY,YM,p',W',R8,R7,R6,R5,q8,P,L5,nP,SZ,hlen,Aa,WH,L3,mc,hbe,hbm,hs⟩ IH;have q3:=(hold 3 (by omega)).trans g3;have q4:=(hold 4 (by omega)).trans g4;have NB:=(hold 11 (by omega)).trans Ga;have xq:=(hold 119 (by omega)).trans xt;have lts:=h.su;have hle:=hB.le;have Te:=L5.few;by_cases hd:x<m
 ·have S6:=ZI hd (by omega);have B2:=hB.keep XY fun j h1 h2=>by
   have h3:Yj pb bl bp bs bb be bm j:=by rcases rL j with h|h;unfold Ou at h;omega;exact h
   exact hs j (by omega) h3 fun hb=>by have:=(me j hb).2;unfold Ou at this;omega
  have M2:=hMr.keep XY fun j h1 h2=>by obtain⟨h3,h4⟩:=hMf j h2;exact hs j h1 h3 h4
  have abg:∀j,Yn mv j->j<s.next:=fun j hj=>by
   rcases hMr with⟨rfl,_⟩|⟨b,rfl,_,hb⟩
   ·exact absurd hj (XH j)
   ·rw[Y6] at hj;omega
  have abh:∀j,Yn mv j->Yj pb bl bp bs R7 R6 R5 j/\¬Yn R8 j:=fun j hj=>by
   obtain⟨h3,h4⟩:=hMf j hj;have h5:=abg j hj;refine⟨by unfold Yj at h3 ⊢;omega,fun h6=>?_⟩;rcases WH j h6 with h7|h7
   ·exact h4 h7
   ·omega
  have abi:∀j,Ou lo hi j\/Yj pb bl bp bs R7 R6 R5 j:=fun j=>by
   rcases rL j with h3|h3
   ·exact .inl h3
   ·unfold Yj at h3 ⊢;unfold Ou;omega
  have aes:∀j,Yn R8 j->Ou lo hi j:=fun j hj=>by
   rcases WH j hj with h3|h3
   ·exact (me j h3).2
   ·unfold Ou;omega
  have MD:=Gh L5 nP W' (nx:=fun u=>nx u x) hM (hb x hd);have PS:∀u∈ms.flatMap (bf x),u<n:=fun u hu=>by
   rw[List.mem_flatMap] at hu;obtain⟨c,h1,h2⟩:=hu;exact ((hb x hd c (hM c h1) u).1 h2).1
  have ml:eX p' []:=⟨by simp,fun k hk=>by simp[nP k hk],fun k hk=>by simp at hk⟩;have eS:=Sw (ms.flatMap (bf x)) L5 ml PS;have eR:=RI (ms.flatMap (bf x)) p' [];have Sx:=I3 hM (fun c hc=>LK x hd c hc);rw[List.length_nil,ad4] at eR;have BM:ms.length*n<=2^9*2^9:=Nat.mul_le_mul hml hn;rw[show m-x=(m-(x+1))+1 by omega,RJ] at SZ;unfold Ac at SZ MD;simp only[go_sem,LJ,NB,xq,DN,Z8,hd,M2.Zf];refine eQ (N:=N) (p:=p') (T:=[]) (tv:=.ZR) (ms:=ms) (mv:=mv) (B:=B) (m:=m) (lo:=lo) (hi:=hi) (x:=x) (bf:=bf) (bx:=bx) (vs:=vs) (by omega) (by omega) hd P L5 hM (by omega) (by simp;omega) (fun c hc=>⟨LK x hd c hc,fun u hu=>((hb x hd c hc u).1 hu).1⟩) ?_ ?_ ?_ ?_ ?_ ?_ ?_ (.inl ⟨rfl,rfl⟩) (fun j hj=>absurd hj (XH j)) (by omega) M2 (fun j hj=>⟨(abh j hj).1,XH j⟩) B2 abi YM ?_
  case refine_8 =>
   intro e2 s2 tv2 Vy sr P2 T2 ht2 eP NA TC;have p8:Env.get e2 8=R8:=by rw[Vy 8 (by omega)];simp only[go_sem,q8]
   have p3:Env.get e2 3=.ptr pb 0:=by rw[Vy 3 (by omega)];simp only[go_sem,q3]
   have l9:=P.su;have W2:=Aa.keep NA fun j h1 h2 h3=>by
    have h4:=L3 j h3;unfold Yj at h4;exact eP j h1 (by omega) (by omega) (by omega) (XH j)
   simp only[go_sem,sr,T2.Zf];refine eO (N:=N) (p:=(Zd (ms.flatMap (bf x)) p' []).1) (T:=(Zd (ms.flatMap (bf x)) p' []).2) (tv:=tv2) (W:=W') (wv:=R8) (by omega) P2 eS.wf eS.nU.nd (fun k hk=>⟨eS.nU.lt k hk,(eS.nU.mem k (eS.nU.lt k hk)).1 hk⟩) (by omega) (by omega) ?_ ?_ ?_ ?_ ?_ T2 W2 (by omega) (fun j hj=>?_) L3 TC ?_
   case refine_7 =>
    intro e3 s3 wv3 cb ce cm QG h3b P3 W3 LI hf3 hcb hce sn fX BL HF;have abj:Env.get e3 120=.int .i64 (x:Nat):=by
     rw[QG 120 (by omega)];simp only[go_sem];rw[Vy 120 (by omega)];simp only[go_sem,DN]
    simp only[go_sem,abj,S6];have mh:=MD.Ad;refine IH (x+1) _ _ (by omega) ⟨by omega,fun t ht=>?_,?_,by omega,HF,_,_,wv3,cb,ce,cm,?_,P3,MD.wf,MD.zero,SZ,by omega,W3,fun j hj=>?_,hf3,by omega,by omega,by omega,fun j h1 h2 h3=>?_⟩
    ·have ZQ:∀k:Nat,120<=k->(k=t)=False:=fun k hk=>by simp;omega
     have eN:(12=t)=False:=by simp;omega
     have xp:(13=t)=False:=by simp;omega
     simp only[go_sem,ZQ];rw[QG t (by omega)];simp only[go_sem,ZQ];rw[Vy t (by omega)];simp only[go_sem,ZQ,eN,xp];exact hold t ht
    ·simp only[go_sem]
    ·simp only[go_sem,h3b]
    ·rcases LI j hj with h6|h6
     ·exact WH j h6
     ·right;omega
    ·by_cases hb:Yn R8 j
     ·rcases WH j hb with h6|h6
      ·exact absurd h6 h3
      ·omega
     ·unfold Yj at h2;rw[fX j (by omega) (by omega) (by omega) (by omega) (by omega) (by omega) hb,eP j (by omega) (by omega) (by omega) (by omega) (XH j),hs j h1 h2 h3]
   case refine_6 =>
    rcases ht2 j hj with h6|h6
    ·exact absurd h6 (XH j)
    ·refine⟨by unfold Yj;omega,fun hb=>?_⟩;have:=Aa.lt hb;omega
   all_goals simp only[go_sem,p3,p8,sr]
   all_goals rfl
  all_goals simp only[go_sem,q3,q4,NB]
  all_goals rfl
 ·have:x=m:=by omega
  subst this;rw[Nat.sub_self,RJ] at SZ;rw[<-SZ] at hk;simp only[go_sem,LJ,xq,DN,Z8,afg];refine hk _ _ R8 R7 R6 R5 (fun t ht=>?_) ?_ P Aa WH L3 mc hbe hbm hs XY YM
  ·have ZQ:∀k:Nat,120<=k->(k=t)=False:=fun k hk=>by simp;omega
   simp only[go_sem,ZQ];exact hold t (by omega)
  ·simp only[go_sem,q8]
end Go.Am
