/- A part of the proof. -/
import Derived.Test.YtkmaeondbkpajaaGreatDoorE08
set_option linter.all false
set_option maxHeartbeats 8000000
set_option maxRecDepth 100000
namespace Go.Am
open Go
variable [Z8]
variable {β:Type}{fin:Fl->β}{ks:List K}{ZC:β->Prop}{e:Env}{s:St}
def agM {pb n bl bp bs bb be bm N:Nat}{p:Pt}{T W:List Nat}{tv wv:AV}(hn:n<=2^9)(h:KY s pb n bl bp bs bb be bm p)(hw:p.Wf n)(Ax:T.Nodup)(hTp:∀k∈T,k<p.bg.length/\0<gt p.mr k)(hTl:T.length<=2^29)(hWl:W.length+T.length<=2^30)
  (g3:e.get 3=.ptr pb 0)(g8:e.get 8=wv)(aoS:e.get 156=tv)(aoT:e.get 157=.int .i64 T.length)(aoU:e.get 158=.int .i64 (0:Nat))
  (hT:M7 s N T tv)(hW:M7 s N W wv)(hN:N<=s.next)(hTf:∀j,WN tv j->WZ pb bl bp bs bb be bm j/\¬WN wv j)(hWf:∀j,WN wv j->WZ pb bl bp bs bb be bm j)(fr:Fr s)
  (hk:∀e' s' OP OO OM OL,(∀t:Nat,t<8\/8<t/\t<19\/20<t/\t<156->e'.get t=e.get t)->e'.get 8=OP->KY s' pb n bl bp bs OO OM OL (SF T p W).1->M7 s' N (SF T p W).2 OP->(∀j,WN OP j->WN wv j\/s.next<=j)->(∀j,WN OP j->WZ pb bl bp bs OO OM OL j) ->
   (OO=bb\/s.next<=OO)->(OM=be\/s.next<=OM)->(OL=bm\/s.next<=OL) ->
   (∀j,j<s.next->j≠pb->j≠bs->j≠bb->j≠be->j≠bm->¬WN wv j->s'.get j=s.get j)->s.next<=s'.next->Fr s'->ZC (goN U fin ks e' s')) :
  ZC (SJ U fin (.bk 14::ks) JT e s):=by
 refine YT (σ:=Nat) (λi=>T.length-i) (λi e' s'=>i<=T.length/\(∀t:Nat,t<8\/8<t/\t<19\/20<t/\t<158->e'.get t=e.get t)/\e'.get 158=.int .i64 (i:Nat)/\s.next<=s'.next/\Fr s' /\
   ∃p' W' OP OO OM OL,e'.get 8=OP/\KY s' pb n bl bp bs OO OM OL p'/\p'.Wf n/\(∀k∈T.drop i,k<p'.bg.length/\0<gt p'.mr k)/\SF (T.drop i) p' W'=SF T p W/\W'.length<=W.length+i/\M7 s' N W' OP/\(∀j,WN OP j->WN wv j\/s.next<=j)/\(∀j,WN OP j->WZ pb bl bp bs OO OM OL j) /\
    (OO=bb\/s.next<=OO)/\(OM=be\/s.next<=OM)/\(OL=bm\/s.next<=OL)/\(∀j,j<s.next->j≠pb->j≠bs->j≠bb->j≠be->j≠bm->¬WN wv j->s'.get j=s.get j)) 0 ?_
  ⟨apW _,λ_ _=>rfl,aoU,api _,fr,p,W,wv,bb,be,bm,g8,h,hw,hTp,rfl,J,hW,λj=>.inl,hWf,.inl rfl,.inl rfl,.inl rfl,λ_ _ _ _ _ _ _ _=>rfl⟩
 rintro Lp i e' s' ⟨DR,hold,acD,Vq,Wk,p',W',OP,OO,OM,OL,q8,P,Lb,aky,Mt,hlen,nt,UG,Hq,tV,hbe,hbm,hs⟩ IH;have q3:=(hold 3 J).trans g3;have akz:=(hold 156 J).trans aoS;have agb:=(hold 157 J).trans aoT;have lts:=h.ltA;by_cases hd:i<T.length
 ·have Ql:=ZI hd J;have T2:=hT.keep Vq λj h1 h2 h3=>by
   obtain⟨h4,h5⟩:=hTf j h3;unfold WZ at h4;exact hs j h1 J J J J J h5
  obtain⟨b,R,rfl,hg,o1⟩:=T2.get hd;have G':=aky T[i] (by rw[aea hd];exact aba ..);rw[aea hd,SF] at Mt;have SX:∀k∈T.drop (i+1),(k<p'.bg.length/\0<gt p'.mr k)/\k≠T[i]:=λk hk=>by
   refine⟨aky k (by rw[aea hd];exact aab _ hk),?_⟩;have hdn:(T.drop i).Nodup:=Ax.sublist (List.drop_sublist i T);rw[aea hd,aqW] at hdn;rintro rfl;exact hdn.1 hk
  generalize T[i]=k at *;obtain⟨G0,xh⟩:=G';have hc:=zh Lb G0 xh;obtain⟨s2,cb,ce,cm,c1,P2,c2,c3,c4,c5,c6,c7⟩:=aoB P Lb J Wk G0 xh;have adN:=P.ltA;have Br:∀x∈T.drop (i+1),x<(p'.cut k).1.bg.length/\0<gt (p'.cut k).1.mr x:=λx hx=>by
   obtain⟨⟨h1,h2⟩,h3⟩:=SX x hx;have hlen:=hc.len;rw[hc.mr x h1 h3];exact⟨J,h2⟩
  have W2:=nt.keep c2 λj h1 h2 h3=>by
   have h4:=Hq j h3;unfold WZ at h4;exact c7 j h1 J J J J J
  have Pm:=Lb.few;have fs:∀j,j<s.next->j≠pb->j≠bs->j≠bb->j≠be->j≠bm->¬WN wv j->s2.get j=s.get j:=λj h1 h2 h3 h4 h5 h6 h7=>by
   rw[c7 j J h2 h3 J J J,hs j h1 h2 h3 h4 h5 h6 h7]
  cases U5:(p'.cut k).2 with
  |false =>
   rw[U5] at c1 Mt;rw[cond_false] at Mt c1;simp only[go_sem,JT,q3,q8,akz,agb,acD,Z9,hd,hg,o1,adg,c1,Ql,ap3];refine IH (i+1) _ _ J ⟨J,λt ht=>?_,?_,J,c3,_,W',OP,cb,ce,cm,?_,P2,hc.wf,Br,Mt,J,W2,UG,λj hj=>?_,J,J,J,fs⟩
   ·have ZB:∀k:Nat,158<=k->(k=t)=False:=λk hk=>F_
    have aN:(19=t)=False:=F_;have aM:(20=t)=False:=F_;simp only[go_sem,ZB,aN,aM];exact hold t ht
   ·simp only[go_sem]
   ·simp only[go_sem,q8]
   ·have h4:=Hq j hj;have h5:=nt.lt hj;unfold WZ at h4 ⊢;omega
  |true =>
   rw[U5] at c1 Mt;rw[cond_true] at Mt c1;have pJ:=W2.WV;have Dz:decide ((p'.bg.length:Int)>=0)=true:=by simp
   have pL:(W'.length+1)*8<=1099511627776:=J;have iY:W'.length+1<=1099511627776:=J;simp only[go_sem,JT,q3,q8,akz,agb,acD,Z9,hd,hg,o1,adg,c1,ap3,Zx,Nat.reducePow,pJ,pL,iY];have T3:M7 (s2.new (.cells [.int .i64 (p'.bg.length:Int)] 3 false 0 0)) N W' OP:=W2.keep O0 λj h1 _ _=>by rw[Z5,O3 J]
   obtain⟨s4,d1,d2,d3,d4,d5⟩:=T3.app O0 p'.bg.length;rw[Z'] at d1 d2 d3 d4;rw[d1];simp only[go_sem,acD,Ql];have k4:∀j,j<s2.next->¬WN OP j->s4.get j=s2.get j:=λj h1 h2=>by rw[d4 j J h2,Z5,O3 J]
   have apP:=P2.ltA;refine IH (i+1) _ _ J ⟨J,λt ht=>?_,?_,J,d5 (c3.new _),_,W'++[p'.bg.length],.sl (s2.next+1) 0 (W'.length+1) none 1,cb,ce,cm,?_,P2.mono J λj hj=>k4 j (P2.lt j hj) λhb=>?_,hc.wf,Br,Mt,F_,d3,λj hj=>?_,λj hj=>?_,J,J,J,λj h1 h2 h3 h4 h5 h6 h7=>?_⟩
   ·have ZB:∀k:Nat,158<=k->(k=t)=False:=λk hk=>F_
    have aN:(19=t)=False:=F_;have aM:(20=t)=False:=F_;have bE:(8=t)=False:=F_;simp only[go_sem,ZB,aN,aM,bE];exact hold t ht
   ·simp only[go_sem]
   ·simp only[go_sem]
   ·have h4:=Hq j hb;have h5:=nt.lt hb;unfold WZ at h4;simp only[ap9,List.not_mem_nil,or_false] at hj;omega
   ·rw[X_] at hj;omega
   ·rw[X_] at hj;unfold WZ;omega
   ·by_cases hb:WN OP j
    ·rcases UG j hb with h8|h8
     ·exact absurd h8 h7
     ·omega
    ·rw[k4 j J hb,fs j h1 h2 h3 h4 h5 h6 h7]
 ·have:i=T.length:=J;subst this;rw[aqi,SF] at Mt;rw[<-Mt] at hk;simp only[go_sem,JT,agb,acD,Z9,ap5];refine hk _ _ OP OO OM OL (λt ht=>?_) ?_ P nt UG Hq tV hbe hbm hs Vq Wk
  ·have ZB:∀k:Nat,158<=k->(k=t)=False:=λk hk=>F_
   simp only[go_sem,ZB];exact hold t J
  ·simp only[go_sem,q8]
def C_ {f:Nat->List Nat}{n:Nat}:∀{ms:List Nat},(∀u∈ms,u<n)->(∀c,c<n->(f c).length<=n)->(ms.flatMap f).length<=ms.length*n
 |[],_,_=>by simp
 |c::l,h1,h2=>by
  have ih:=C_ (f:=f) (ms:=l) (λu hu=>h1 u (aab _ hu)) h2;have:=h2 c (h1 c (aba ..));rw[aqp,ann,ap1,Nat.succ_mul];omega
def agJ {pb n m bl bp bs bb be bm N B lo hi:Nat}{bf:Nat->Nat->List Nat}{nx:Nat->Nat->Nat}{bx:Nat->Nat}{vs:Nat->Nat->AV}{p:Pt}{W ms:List Nat}{wv mv:AV}(hn:n<=2^9)(hm:m<=2^8)(h:KY s pb n bl bp bs bb be bm p)(hw:p.Wf n)(hz:p.Zero)(hM:∀u∈ms,u<n)(hml:ms.length<=2^9)(hWl:W.length<=2^20)
  (hb:∀y,y<m->∀c,c<n->∀u,u∈bf y c<->u<n/\nx u y=c)(Ik:∀y,y<m->∀c,c<n->(bf y c).length<=n)
  (g3:e.get 3=.ptr pb 0)(g4:e.get 4=.sl B 0 m (some m) 1)(g8:e.get 8=wv)(uK:e.get 11=mv)(ij:e.get 119=.int .i64 (m:Int))(ig:e.get 120=.int .i64 (0:Nat))
  (hW:M7 s N W wv)(hWf:∀j,WN wv j->WZ pb bl bp bs bb be bm j/\Ou lo hi j)(hN:N<=s.next)(hMr:A' s ms mv)(hMf:∀j,WN mv j->WZ pb bl bp bs bb be bm j/\¬WN wv j)
  (hB:yZ s B m n bf lo hi bx vs)(hPo:∀j,Ou lo hi j\/WZ pb bl bp bs bb be bm j)(fr:Fr s)
  (hk:∀e' s' OP OO OM OL,(∀t:Nat,t<8\/8<t/\t<12->e'.get t=e.get t)->e'.get 8=OP->KY s' pb n bl bp bs OO OM OL (Oo bf ms m 0 p W).1->M7 s' N (Oo bf ms m 0 p W).2 OP->(∀j,WN OP j->WN wv j\/s.next<=j)->(∀j,WN OP j->WZ pb bl bp bs OO OM OL j) ->
   (OO=bb\/s.next<=OO)->(OM=be\/s.next<=OM)->(OL=bm\/s.next<=OL) ->
   (∀j,j<s.next->WZ pb bl bp bs bb be bm j->¬WN wv j->s'.get j=s.get j)->s.next<=s'.next->Fr s'->ZC (goN U fin ks e' s')) :
  ZC (SJ U fin (.bk 8::ks) G8 e s):=by
 have apn:=hw.few;refine YT (σ:=Nat) (λx=>m-x) (λx e' s'=>x<=m/\(∀t:Nat,t<8\/8<t/\t<12\/20<t/\t<120->e'.get t=e.get t)/\e'.get 120=.int .i64 (x:Nat)/\s.next<=s'.next/\Fr s' /\
   ∃p' W' OP OO OM OL,e'.get 8=OP/\KY s' pb n bl bp bs OO OM OL p'/\p'.Wf n/\p'.Zero/\Oo bf ms (m-x) x p' W'=Oo bf ms m 0 p W/\W'.length+p.bg.length=W.length+p'.bg.length/\M7 s' N W' OP/\(∀j,WN OP j->WN wv j\/s.next<=j)/\(∀j,WN OP j->WZ pb bl bp bs OO OM OL j) /\
    (OO=bb\/s.next<=OO)/\(OM=be\/s.next<=OM)/\(OL=bm\/s.next<=OL)/\(∀j,j<s.next->WZ pb bl bp bs bb be bm j->¬WN wv j->s'.get j=s.get j)) 0 ?_
  ⟨apW _,λ_ _=>rfl,ig,api _,fr,p,W,wv,bb,be,bm,g8,h,hw,hz,rfl,rfl,hW,λj=>.inl,λj hj=>(hWf j hj).1,.inl rfl,.inl rfl,.inl rfl,λ_ _ _ _=>rfl⟩
 rintro Lp x e' s' ⟨hxl,hold,tW,Vq,Wk,p',W',OP,OO,OM,OL,q8,P,Lb,uJ,ie,hlen,nt,UG,Hq,tV,hbe,hbm,hs⟩ IH;have q3:=(hold 3 J).trans g3;have q4:=(hold 4 J).trans g4;have qx:=(hold 11 J).trans uK;have ic:=(hold 119 J).trans ij;have lts:=h.ltA;have hle:=hB.le;have Pm:=Lb.few;by_cases hd:x<m
 ·have Ql:=ZI hd J;have B2:=hB.keep Vq λj h1 h2=>by
   have h3:WZ pb bl bp bs bb be bm j:=by rcases hPo j with h|h;unfold Ou at h;omega;exact h
   exact hs j J h3 λhb=>by have:=(hWf j hb).2;unfold Ou at this;omega
  have M2:=hMr.keep Vq λj h1 h2=>by obtain⟨h3,h4⟩:=hMf j h2;exact hs j h1 h3 h4
  have ak1:∀j,WN mv j->j<s.next:=λj hj=>by
   rcases hMr with⟨rfl,_⟩|⟨b,rfl,_,hb⟩
   ·exact absurd hj (VB j)
   ·rw[X_] at hj;omega
  have ak2:∀j,WN mv j->WZ pb bl bp bs OO OM OL j/\¬WN OP j:=λj hj=>by
   obtain⟨h3,h4⟩:=hMf j hj;have h5:=ak1 j hj;refine⟨by unfold WZ at h3 ⊢;omega,λh6=>?_⟩;rcases UG j h6 with h7|h7
   ·exact h4 h7
   ·omega
  have ak3:∀j,Ou lo hi j\/WZ pb bl bp bs OO OM OL j:=λj=>by
   rcases hPo j with h3|h3
   ·exact .inl h3
   ·unfold WZ at h3 ⊢;unfold Ou;omega
  have apv:∀j,WN OP j->Ou lo hi j:=λj hj=>by
   rcases UG j hj with h3|h3
   ·exact (hWf j h3).2
   ·unfold Ou;omega
  have Jk:=zg Lb uJ W' (nx:=λu=>nx u x) hM (hb x hd);have LU:∀u∈ms.flatMap (bf x),u<n:=λu hu=>by
   rw[List.mem_flatMap] at hu;obtain⟨c,h1,h2⟩:=hu;exact ((hb x hd c (hM c h1) u).1 h2).1
  have ht0:Tch p' []:=⟨by simp,λk hk=>by simp[uJ k hk],λk hk=>by simp at hk⟩;have Jx:=Pn (ms.flatMap (bf x)) Lb ht0 LU;have agK:=Om (ms.flatMap (bf x)) p' [];have Mw:=C_ hM (λc hc=>Ik x hd c hc);rw[List.length_nil,ap4] at agK;have yY:ms.length*n<=2^9*2^9:=Nat.mul_le_mul hml hn;rw[show m-x=(m-(x+1))+1 by omega,Oo] at ie;unfold nz at ie Jk;simp only[go_sem,G8,qx,ic,tW,Z9,hd,M2.QE];refine agL (N:=N) (p:=p') (T:=[]) (tv:=.ZQ) (ms:=ms) (mv:=mv) (B:=B) (m:=m) (lo:=lo) (hi:=hi) (x:=x) (bf:=bf) (bx:=bx) (vs:=vs) J J hd P Lb hM J F_ (λc hc=>⟨Ik x hd c hc,λu hu=>((hb x hd c hc u).1 hu).1⟩) ?_ ?_ ?_ ?_ ?_ ?_ ?_ (.inl ⟨rfl,rfl⟩) (λj hj=>absurd hj (VB j)) J M2 (λj hj=>⟨(ak2 j hj).1,VB j⟩) B2 ak3 Wk ?_
  case refine_8 =>
   intro e2 s2 tv2 Ol h2b P2 T2 ht2 fs2 C0 OJ;have p8:e2.get 8=OP:=by rw[Ol 8 J];simp only[go_sem,q8]
   have p3:e2.get 3=.ptr pb 0:=by rw[Ol 3 J];simp only[go_sem,q3]
   have adN:=P.ltA;have W2:=nt.keep C0 λj h1 h2 h3=>by
    have h4:=Hq j h3;unfold WZ at h4;exact fs2 j h1 J J J (VB j)
   simp only[go_sem,h2b,T2.QE];refine agM (N:=N) (p:=(Yp (ms.flatMap (bf x)) p' []).1) (T:=(Yp (ms.flatMap (bf x)) p' []).2) (tv:=tv2) (W:=W') (wv:=OP) J P2 Jx.wf Jx.tch.nd (λk hk=>⟨Jx.tch.lt k hk,(Jx.tch.mem k (Jx.tch.lt k hk)).1 hk⟩) J J ?_ ?_ ?_ ?_ ?_ T2 W2 J (λj hj=>?_) Hq OJ ?_
   case refine_7 =>
    intro e3 s3 wv3 cb ce cm CZ h3b P3 W3 yX hf3 hcb hce DW fs3 ib tU;have ak4:e3.get 120=.int .i64 (x:Nat):=by
     rw[CZ 120 J];simp only[go_sem];rw[Ol 120 J];simp only[go_sem,tW]
    simp only[go_sem,ak4,Ql];have hwl:=Jk.nC;refine IH (x+1) _ _ J ⟨J,λt ht=>?_,?_,J,tU,_,_,wv3,cb,ce,cm,?_,P3,Jk.wf,Jk.zero,ie,J,W3,λj hj=>?_,hf3,J,J,J,λj h1 h2 h3=>?_⟩
    ·have ZB:∀k:Nat,120<=k->(k=t)=False:=λk hk=>F_
     have agN:(12=t)=False:=F_;have ia:(13=t)=False:=F_;simp only[go_sem,ZB];rw[CZ t J];simp only[go_sem,ZB];rw[Ol t J];simp only[go_sem,ZB,agN,ia];exact hold t ht
    ·simp only[go_sem]
    ·simp only[go_sem,h3b]
    ·rcases yX j hj with h6|h6
     ·exact UG j h6
     ·right;omega
    ·by_cases hb:WN OP j
     ·rcases UG j hb with h6|h6
      ·exact absurd h6 h3
      ·omega
     ·unfold WZ at h2;rw[fs3 j J J J J J J hb,fs2 j J J J J (VB j),hs j h1 h2 h3]
   case refine_6 =>
    rcases ht2 j hj with h6|h6
    ·exact absurd h6 (VB j)
    ·refine⟨by unfold WZ;omega,λhb=>?_⟩;have:=nt.lt hb;omega
   all_goals simp only[go_sem,p3,p8]
   all_goals rfl
  all_goals simp only[go_sem,q3,q4]
  all_goals rfl
 ·have:x=m:=J;subst this;rw[Nat.sub_self,Oo] at ie;rw[<-ie] at hk;simp only[go_sem,G8,ic,tW,Z9,ap5];refine hk _ _ OP OO OM OL (λt ht=>?_) ?_ P nt UG Hq tV hbe hbm hs Vq Wk
  ·have ZB:∀k:Nat,120<=k->(k=t)=False:=λk hk=>F_
   simp only[go_sem,ZB];exact hold t J
  ·simp only[go_sem,q8]
end Go.Am
