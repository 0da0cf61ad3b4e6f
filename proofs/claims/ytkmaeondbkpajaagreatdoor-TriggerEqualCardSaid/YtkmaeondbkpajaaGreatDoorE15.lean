/- A part of the proof. -/
import Derived.Test.YtkmaeondbkpajaaGreatDoorE13
set_option linter.all false
set_option maxHeartbeats 8000000
set_option maxRecDepth 100000
namespace Go.Am
open Go
variable [Z8]
variable {β:Type}{fin:Fl->β}{ks:List K}{ZC:β->Prop}{e:Env}{s:St}{cap:Option Nat}{t:TypeId}{v:AV}{L:List Nat}
def DP.pt {s s':St}{N:Nat}{a b:Zv}{f:Nat->Prop}{A0 B0 mp pt:Nat}{T:List Yb}{pv sv:AV}(h:DP s N a b f A0 B0 mp pt T pv sv)(hn:s.next<s'.next)(hg:∀j,j<s.next->s'.get j=s.get j)(Mw:∀j,f j->j<s.next):DP s' N a b f A0 B0 mp s.next T pv sv:=by
 obtain⟨gA,gB,gm,hp,hs,⟨l1,l2,l3,l4,l5,l6,l7,l8⟩,⟨f1,f2,f3,f4⟩,fp,fs,np⟩:=h;exact⟨(hg _ l1).trans gA,(hg _ l2).trans gB,(hg _ l3).trans gm,hp.HQ J λj h1 _=>hg j h1,hs.HQ J λj h1 _=>hg j h1,⟨J,J,J,hn,l5,l6,l7,J⟩,⟨f1,f2,f3,λh=>by have:=Mw _ h;omega⟩,λj hj=>⟨(fp j hj).1,by have:=(hp.lP hj).2.1;omega⟩,fs,⟨J,J,J⟩⟩
def NZ.trans {G:Type}{QU:G->Nat->Nat->G->Prop}{g g1 g2:G}{l l':List (Nat×Nat)}(h:NZ QU g l g1)(h':NZ QU g1 l' g2):NZ QU g (l++l') g2:=by
 induction h' with
 |nil=>rw[aqw];exact h
 |snoc h1 h2 ih=>rw[<-aqs];exact .snoc ih h2
def qv (k:Nat):∀L:List Nat,(RT k L).length=L.length*2
 |[]=>rfl
 |c::l=>by
  have:=qv k l;rw[RT,aqp,ann,ap1];unfold RT at this;rw[this];show 2+_=_;omega
def TE (k:Nat):∀(L:List Nat) (i:Nat) (h:i<L.length),Xi 2 (i*2) (RT k L)=some (Yr k L[i])
 |c::l,0,_=>by
  rw[RT,aqp,Nat.zero_mul];simp[Yr,UI,UH]
 |c::l,i+1,h=>by
  have:=TE k l i (by rw[ap1] at h;omega);rw[RT,aqp,show (i+1)*2=i*2+2 by omega];exact this
def ahR {a b:Zv}(ha:a.ok)(hb:b.ok)(VK:a.lines=b.lines){fn:AV}{N:Nat}{G:Type}{CI:G->St->Prop}{fp:G->Nat->Prop}{QO:Nat->Nat->Prop}{y:Nat->Nat->Bool}{QU:G->Nat->Nat->G->Prop}
  (Y:Yld fn b.fa.n N G CI fp QO y QU)(Lv:∀c x,c<(Zg a.fa b.fa).n->x<2^a.lines.toNat->QO c x){A0 B0 mp pt:Nat}{pv sv:AV}{g:G}
  (g2:e.get 2=fn)(g3:e.get 3=.ptr A0 0)(g4:e.get 4=.ptr B0 0)(g8:e.get 8=.map mp)(g9:e.get 9=pv)(Cj:e.get 10=sv)(yU:e.get 13=.int .i64 (0:Nat))
  (V:DP s N a b (fp g) A0 B0 mp pt [(0,0,0)] pv sv)(AK:CI g s)(fr:Fr s)(hN:N<=s.next)
  (hk:(Yw (Zg a.fa b.fa) y).2=none->∀e' s' SD K9 pt' g',e'.get 11=e.get 11->e'.get 12=e.get 12->e'.get 9=SD->e'.get 10=K9->DP s' N a b (fp g') A0 B0 mp pt' (Yw (Zg a.fa b.fa) y).1 SD K9->NZ QU g ((Xz (Yw (Zg a.fa b.fa) y).1).flatMap λc=>Ad c (2^a.lines.toNat)) g'->CI g' s'->(∀j,j<N->¬fp g j->s'.get j=s.get j)->s.next<=s'.next->(∀j,fp g' j->fp g j\/N<=j)->Fr s'->ZC (goN U fin ks e' s'))
  (hx:∀k z,(Yw (Zg a.fa b.fa) y).2=some (k,z)->∀e' s' SD K9 pt' w g',e'.get 9=SD->e'.get 10=K9->e'.get 11=.int .i64 (k:Nat)->e'.get 12=.sl w 0 1 (some 1) 1->s'.get w=some (.cells (Zz [z]) 3 false 0 0)->N<=w->w<s'.next->¬fp g' w->DP s' N a b (fp g') A0 B0 mp pt' (Yw (Zg a.fa b.fa) y).1 SD K9->CI g' s'->(∀j,j<N->¬fp g j->s'.get j=s.get j)->s.next<=s'.next->(∀j,fp g' j->fp g j\/N<=j)->Fr s'->ZC (goN U fin ks e' s')) :
  ZC (SJ U fin (.bk 0::ks) GC e s):=by
 have hA:=J9 ha.UU hb.UU (by show 2^a.lines.toNat=2^b.lines.toNat;rw[VK]);have hnn:(Zg a.fa b.fa).n<=262144:=Nat.mul_le_mul ha.few hb.few;have SI:=Vf U 3 true .i64 (n:=a.lines) (by have:=ha.lines;omega);have qz:((2:Int)^a.lines.toNat)=((2^a.lines.toNat:Nat):Int):=by simp
 rw[qz] at SI;refine YT (σ:=Nat) (λi=>(Zg a.fa b.fa).n-i) (λi e' s'=>e'.get 2=fn/\e'.get 3=.ptr A0 0/\e'.get 4=.ptr B0 0/\e'.get 8=.map mp/\e'.get 11=e.get 11/\e'.get 12=e.get 12/\e'.get 13=.int .i64 (i:Nat) /\
   (∀j,j<N->¬fp g j->s'.get j=s.get j)/\s.next<=s'.next/\Fr s' /\
   ∃T' SD K9 pt' g',Sx (Zg a.fa b.fa) y ((Zg a.fa b.fa).n+1-i) i T'=Yw (Zg a.fa b.fa) y/\QA (Zg a.fa b.fa) T'/\i<=T'.length/\e'.get 9=SD/\e'.get 10=K9/\DP s' N a b (fp g') A0 B0 mp pt' T' SD K9/\CI g' s'/\NZ QU g (((Xz T').take i).flatMap λc=>Ad c (2^a.lines.toNat)) g'/\(∀j,fp g' j->fp g j\/N<=j)) 0 ?_
  ⟨g2,g3,g4,g8,rfl,rfl,yU,λ_ _ _=>rfl,api _,fr,[(0,0,0)],pv,sv,pt,g,rfl,ox hA,apW _,g9,Cj,V,AK,.nil g,λj hj=>.inl hj⟩
 rintro Lp i e' s' ⟨q2,q3,q4,q8,qx,uy,La,hs,Vq,Wk,T',SD,K9,pt',g1,Yf,pK,hi,q9,HX,V',kZ,W_,iQ⟩ IH;have hTl:=pK.len;have hlen:=V'.hp.WV;obtain⟨bp,cap,hpv,xR,qf,hp4,hp5,hp6⟩:=V'.hp;rw[show (Zg a.fa b.fa).n+1-i=((Zg a.fa b.fa).n-i)+1 by omega,Sx] at Yf;by_cases hd:i<T'.length
 ·have Ql:=ZI hd J;rw[aaa hd] at Yf;simp only at Yf;have hc:T'[i].1<(Zg a.fa b.fa).n:=pK.lt _ (adm hd);have hcx:(Xz T')[i]'(by rw[Ti];exact hd)=T'[i].1:=by simp[Xz]
  have gr:=TE b.fa.n (Xz T') i (by rw[Ti];exact hd);rw[hcx] at gr;have hg9:=q9.trans hpv;have abu:=Y.lt g1 s' kZ;have hgA:=V'.gA;obtain⟨l1,l2,l3,l4,l5,l6,l7,l8⟩:=V'.lt;have f1:(s'.next=A0)=False:=F_;generalize hcd:T'[i].1=c at *;unfold Yr at gr;simp only[go_sem,GC,q3,La,hg9,Z9,hd,qf,gr,hgA,SI,f1];obtain⟨S,hS⟩:∃S,S=(s'.new (.cells [.int .i64 0,.int .i64 0] 164 false 0 0)).put s'.next (.cells [.int .i64 ((c / b.fa.n:Nat):Int),.int .i64 ((c%b.fa.n:Nat):Int)] 164 false 0 0):=⟨_,rfl⟩;rw[<-hS];have DX:S.next=s'.next+1:=by rw[hS,Z_,Z']
  have kS:∀j,j<s'.next->S.get j=s'.get j:=λj h1=>by rw[hS,Z7,O3 J,Z5,O3 J]
  have hpt:S.get s'.next=some (.cells (Yr b.fa.n c) 164 false 0 0):=by rw[hS,Z7,Of rfl];rfl
  have Jh:Fr S:=by rw[hS];exact (Wk.new _).put O0 _
  have VS:DP S N a b (fp g1) A0 B0 mp s'.next T' SD K9:=V'.pt J kS abu;have aez:CI g1 S:=Y.keep g1 s' S kZ J λj h1 _=>kS j h1
  have hVR:=SM hA hc (y c) (Zg a.fa b.fa).m 0 (T:=T') (i:=i) J pK hd;refine ai7 (ZC:=ZC) ha hb VK Y hc (λx hx=>Lv c x hc hx) pK hd (vr:=X6 ((Zg a.fa b.fa).nx c) (y c) i (2^a.lines.toNat) 0 T') rfl ?_ ?_ ?_ ?_ ?_ ?_ ?_ ?_ ?_ ?_ VS hpt aez Jh J ?_ ?_
  case refine_11 =>
   intro RK e2 s2 DU sv2 rV hold p9 p10 V2 Dr xi TB C0 Fj OJ;have hm:(Zg a.fa b.fa).m=2^a.lines.toNat:=rfl;rw[hm] at Yf hVR;generalize X6 ((Zg a.fa b.fa).nx c) (y c) i (2^a.lines.toNat) 0 T'=v at *;obtain⟨T2,o2⟩:=v;simp only at RK Yf V2 hVR;subst RK;obtain⟨⟨i1,R,hR⟩,_,_⟩:=hVR;have E2:∀t:Nat,t<14->t≠9->t≠10->e2.get t=e'.get t:=λt h1 h2 h3=>by
    rw[hold t J h2 h3];have ZB:∀k:Nat,14<=k->(k=t)=False:=λk hk=>F_
    simp only[go_sem,ZB]
   have p2:=(E2 2 J J J).trans q2;have p3:=(E2 3 J J J).trans q3;have p4:=(E2 4 J J J).trans q4;have p8:=(E2 8 J J J).trans q8;have gU:=(E2 11 J J J).trans qx;have m_:=(E2 12 J J J).trans uy;have p13:=(E2 13 J J J).trans La;have hlT:i+1<=T2.length:=by rw[hR,ann];omega
   have K_:(Xz T2).take (i+1)=(Xz T').take i++[c]:=by
    rw[hR];have e1:Xz (T'++R)=Xz T'++Xz R:=by simp[Xz]
    have hlc:=Ti T';rw[e1,List.take_append_of_le_length J,ap7 J,hcx]
   simp only[go_sem,p13,Ql];have ans:=i1.len;refine IH (i+1) _ _ J ⟨?_,?_,?_,?_,?_,?_,?_,λj h1 h2=>?_,J,OJ,T2,DU,sv2,s'.next,rV,?_,i1,hlT,?_,?_,V2,xi,?_,λj hj=>?_⟩
   case refine_8 =>
    rw[TB j h1 λh=>by rcases iQ j h with h|h;exact h2 h;omega,kS j J,hs j h1 h2]
   case refine_9=>rw[show (Zg a.fa b.fa).n+1-(i+1)=(Zg a.fa b.fa).n-i by omega];exact Yf
   case refine_12 =>
    rw[K_,List.flatMap_append,List.flatMap_singleton];exact W_.trans Dr
   case refine_13 =>
    rcases Fj j hj with h|h
    ·exact iQ j h
    ·exact .inr h
   all_goals simp only[go_sem,p2,p3,p4,p8,p9,p10,gU,m_]
  case refine_12 =>
   intro z hz e2 s2 DU sv2 w rV hold p9 p10 gU m_ hw uI LO hw3 V2 Dr xi TB C0 Fj OJ;have hm:(Zg a.fa b.fa).m=2^a.lines.toNat:=rfl;rw[hm] at Yf;generalize X6 ((Zg a.fa b.fa).nx c) (y c) i (2^a.lines.toNat) 0 T'=v at *;obtain⟨T2,o2⟩:=v;simp only at hz Yf V2;subst hz;simp only at Yf;rw[<-Yf] at hx;simp only[go_sem];refine hx i z rfl _ _ DU sv2 s'.next w rV p9 p10 gU m_ hw J LO hw3 V2 xi (λj h1 h2=>?_) J (λj hj=>?_) OJ
   ·rw[TB j h1 λh=>by rcases iQ j h with h|h;exact h2 h;omega,kS j J,hs j h1 h2]
   ·rcases Fj j hj with h|h
    ·exact iQ j h
    ·exact .inr h
  all_goals simp only[go_sem,q2,q3,q4,q8,q9,HX,La]
  all_goals rfl
 ·have G5:i=T'.length:=J;rw[aqA J] at Yf;simp only at Yf;have hle:decide ((i:Int)<(T'.length:Int))=false:=by rw[Z9];simp;omega
  have hg9:=q9.trans hpv;simp only[go_sem,GC,La,hg9,hle];rw[<-Yf] at hk;rw[List.take_of_length_le (by rw[Ti];omega)] at W_;refine hk rfl _ _ SD K9 pt' g1 ?_ ?_ ?_ ?_ V' W_ kZ hs Vq iQ Wk
  ·simp only[go_sem,qx]
  ·simp only[go_sem,uy]
  ·simp only[go_sem,q9]
  ·simp only[go_sem,HX]
def py:∀(l:List (Int×Int)) (i:Nat) (h:i<l.length),(scs l)[i*2]? = some (.int .i64 l[i].1)/\(scs l)[i*2+1]? = some (.int .i64 l[i].2)
 |p::l,0,_=>⟨rfl,rfl⟩
 |p::l,i+1,h=>by
  have:=py l i (by rw[ap1] at h;omega);rw[show (i+1)*2=i*2+2 by omega];exact this
def aaX {T:List Yb}{k:Nat}{t:Yb}(h:T[k+1]? = some t):∃h':k+1<(Lc T).length,(Lc T)[k+1]=((t.2.1:Int),(t.2.2:Int)):=by
 cases T with
 |nil=>simp at h
 |cons a l =>
  rw[aqv] at h;obtain⟨h1,h2⟩:=apX.1 h;exact⟨by simp[Lc,h1],by simp[Lc,h2]⟩
def aht {A:Fa}{T:List Yb}(hT:QA A T)(hTl:T.length<=262144){N k w:Nat}{sv:AV}(hk:k<T.length)(Hd:cap=none\/cap=some L.length)(hL:k+L.length<=2^20)
  (Cj:e.get 10=sv)(uK:e.get 11=.int .i64 (k:Nat))(Jj:e.get 12=.sl w 0 L.length cap 1)(hs:Jr s N 231 T.length (scs (Lc T)) sv)(gw:s.get w=some (.cells (Zz L) 3 false 0 0))(nw:w<s.next)(fr:Fr s)
  (hk:∀e' s' w' OA,e'.get 9=e.get 9->e'.get 12=.sl w' 0 (L++(Vv T k k).reverse).length OA 1->s'.get w'=some (.cells (Zz (L++(Vv T k k).reverse)) 3 false 0 0)->(w'=w\/s.next<=w')->w'<s'.next->(∀j,j<s.next->j≠w->s'.get j=s.get j)->s.next<=s'.next->Fr s'->ZC (goN U fin ks e' s')) :
  ZC (SJ U fin (.bk 4::ks) Kl e s):=by
 have Jz:=hk;generalize hR:L++(Vv T k k).reverse=R at *;refine YT (σ:=Nat) (λk=>k) (λk' e' s'=>k'<T.length/\e'.get 9=e.get 9/\e'.get 10=sv/\e'.get 11=.int .i64 (k':Nat)/\Jr s' N 231 T.length (scs (Lc T)) sv/\(∀j,j<s.next->j≠w->s'.get j=s.get j)/\s.next<=s'.next/\Fr s' /\
   ∃L' w' OA,e'.get 12=.sl w' 0 L'.length OA 1/\(OA=none\/OA=some L'.length)/\L'++(Vv T k' k').reverse=R/\k'+L'.length<=2^20/\s'.get w'=some (.cells (Zz L') 3 false 0 0)/\(w'=w\/s.next<=w')/\w'<s'.next) k ?_
  ⟨J,rfl,Cj,uK,hs,λ_ _ _=>rfl,api _,fr,L,w,cap,Jj,Hd,hR,hL,gw,.inl rfl,nw⟩
 rintro Lp k' e' s' ⟨Lz,q9,HX,qx,LP,hsf,Vq,Wk,L',w',OA,uy,xS,iT,hL',gw',Lb,nw'⟩ IH
 cases k' with
 |zero =>
  have iT:L'=R:=by rw[<-iT];simp[Vv]
  subst iT;have hd:decide (((0:Nat):Int)>0)=false:=rfl;simp only[go_sem,Kl,qx,hd];refine Jz _ _ w' OA ?_ ?_ gw' Lb nw' hsf Vq Wk
  ·simp only[go_sem,q9]
  ·simp only[go_sem,uy]
 |succ k' =>
  have ht:T[k'+1]? = some T[k'+1]:=aaa Lz;obtain⟨f1,f2⟩:=hT.fr k' _ ht;obtain⟨W_,Dr⟩:=aaX ht;obtain⟨c1,c2⟩:=py (Lc T) (k'+1) W_;rw[Dr] at c1 c2;simp only at c1 c2;have hsg:Vv T (k'+1) (k'+1)=Vv T T[k'+1].2.1 T[k'+1].2.1++[T[k'+1].2.2]:=by
   rw[Vv,ht];simp only;rw[MS hT k' _ f1 J]
  rw[hsg,List.reverse_append,List.reverse_singleton,<-aqs] at iT;generalize T[k'+1].2.1=fm at *;generalize T[k'+1].2.2=x at *;have hd:decide (((k'+1:Nat):Int)>0)=true:=by simp
  obtain⟨bs,alH,rfl,xR,qf,hp4,hp5,hp6⟩:=LP;have hws:w'≠bs:=Xy gw' qf Mo;have hkT:k'+1<T.length:=Lz;have zo:(L'.length+1)*8<=1099511627776:=J;have hb4:L'.length+1<=1099511627776:=J;simp only[go_sem,Kl,HX,qx,uy,hd,hkT,qf,c2,ap4,ap3,Zx,Nat.reducePow,zo,hb4];obtain⟨s4,d1,d2,d3,d4,d5⟩:=ahu (b:=w') (L:=L') (s:=s'.new (.cells [.int .i64 (x:Int)] 3 false 0 0)) xS rfl (by rw[Z5,O3 J];exact gw') O0 x;simp only[Z'] at d1 d2 d3 d4;rw[d1];have k4:∀j,j<s'.next->j≠w'->s4.get j=s'.get j:=λj h1 h2=>by rw[d4 j J h2,Z5,O3 J]
  have u3:=(k4 bs hp6 hws.symm).trans qf;simp only[go_sem,HX,qx,hkT,u3,c1,ap4];refine IH fm _ _ J ⟨J,?_,?_,?_,⟨bs,alH,rfl,xR,u3,hp4,hp5,J⟩,λj h1 h2=>by rw[k4 j J J,hsf j h1 h2],J,d5 (Wk.new _),L'++[x],s'.next+1,none,?_,.inl rfl,iT,by rw[ann,aqh];omega,d3,.inr J,J⟩
  ·simp only[go_sem,q9]
  ·simp only[go_sem,HX]
  ·simp only[go_sem]
  ·simp only[go_sem,ann,aqh]
def alI {w:Nat}(hL:L≠[])(hlen:L.length<=2^30)(hg:s.get w=some (.cells (Zz L) 3 false 0 0))(hw:w<s.next)(fr:Fr s) :
  ∃v s',UN U 149 [.sl w 0 L.length cap 1] s=some (v,s')/\s'.get w=some (.cells (Zz L.reverse) 3 false 0 0)/\(∀j,j<s.next->j≠w->s'.get j=s.get j)/\s.next<=s'.next/\Fr s':=by
 suffices K':∃x,go U (Us U []) [] fL (Zr 0 [.sl w 0 L.length cap 1] .nil) s=some x/\x.2.get w=some (.cells (Zz L.reverse) 3 false 0 0)/\(∀j,j<s.next->j≠w->x.2.get j=s.get j)/\s.next<=x.2.next/\Fr x.2 by
  obtain⟨x,h1,h2⟩:=K';exact⟨x.1,x.2,Yi ahv It h1,h2⟩
 obtain⟨m,hm⟩:∃m,L.length=m+1:=⟨L.length-1,by have:=List.length_pos_iff.2 hL;omega⟩;have Ql:IntKind.i64.wrap ((L.length:Int)-1)=(m:Int):=by rw[wrap_i64] <;> omega
 simp only[go_sem,fL,Ql];refine YT (ZC:=λ(o:Option (AV×St))=>∃x,o=some x/\x.2.get w=some (.cells (Zz L.reverse) 3 false 0 0)/\(∀j,j<s.next->j≠w->x.2.get j=s.get j)/\s.next<=x.2.next/\Fr x.2) (σ:=Nat×Nat) (λp=>p.2) (λp e' s'=>p.1+p.2+1=L.length/\e'.get 0=.sl w 0 L.length cap 1/\e'.get 2=.int .i64 (p.1:Nat)/\e'.get 3=.int .i64 (p.2:Nat)/\(∀j,j<s.next->j≠w->s'.get j=s.get j)/\s.next<=s'.next/\Fr s' /\
   ∃M:List Nat,M.length=L.length/\s'.get w=some (.cells (Zz M) 3 false 0 0)/\∀x,x<L.length->M[x]? = if x<p.1\/L.length<=x+p.1 then L[L.length-1-x]? else L[x]?) (0,m) ?_
  ⟨by simp only;omega,?_,?_,?_,λ_ _ _=>rfl,api _,fr,L,rfl,hg,λx hx=>by simp only;rw[O3 J]⟩
 ·rintro Lp ⟨i,j⟩ e' s' ⟨Ox,q0,q2,q3,hsf,Vq,Wk,M,hM,gM,hMx⟩ IH;simp only at Ox q2 q3 hMx;by_cases hd:i<j
  ·have uI:=ZI hd J;have LO:IntKind.i64.wrap ((j:Int)-1)=((j-1:Nat):Int):=by rw[wrap_i64] <;> omega
   have hi:i<L.length:=J;have hj:j<L.length:=J;have o1:=XY (l:=M) (i:=i) J;have o2:=XY (l:=M) (i:=j) J;have y1:=Vu (l:=M) (i:=i) (gt M j) J;have y2:=Vu (l:=M.set i (gt M j)) (i:=j) (gt M i) (by rw[aqH];omega);have hws:w<s'.next:=J;have f1:∀q,(s'.next+q=w)=False:=λq=>F_
   have f2:∀q,(w=s'.next+q)=False:=λq=>F_
   simp only[go_sem,GV,q0,q2,q3,Z9,hd,hi,hj,gM,o1,o2,y1,y2,ap4,ap3,uI,LO];have gj:M[j]? = some (gt M j):=by rw[Sy J];exact aaa _
   have gi:M[i]? = some (gt M i):=by rw[Sy J];exact aaa _
   have mj:=hMx j hj;have mi:=hMx i hi;rw[O3 J] at mj mi;refine IH (i+1,j-1) _ _ (by simp only;omega) ⟨by simp only;omega,?_,?_,?_,λk h1 h2=>?_,?_,?_,(M.set i (gt M j)).set j (gt M i),by simp[hM],?_,λx hx=>?_⟩
   ·simp only[go_sem,q0]
   ·simp only[go_sem]
   ·simp only[go_sem]
   ·rw[Z7,O3 h2.symm,Z7,O3 h2.symm,ZR];exact hsf k h1 h2
   ·simp only[Z_,Z6];omega
   ·repeat first|exact Wk|apply Fr.new|apply Fr.put|apply Fr.upto
    all_goals try simp only[Z_,Z6]
    all_goals omega
   ·rw[Z7,Of rfl]
   ·simp only;rw[List.getElem?_set,List.getElem?_set];by_cases e1:j=x
    ·subst e1;rw[Of rfl,Of (by rw[aqH];omega),Of J,show L.length-1-j=i by omega,<-mi,gi]
    ·rw[O3 e1];by_cases e2:i=x
     ·subst e2;rw[Of rfl,Of J,Of J,show L.length-1-i=j by omega,<-mj,gj]
     ·rw[O3 e2,hMx x hx];by_cases e3:x<i\/L.length<=x+i
      ·rw[Of e3,Of J]
      ·rw[O3 e3,O3 J]
  ·simp only[go_sem,GV,q2,q3,Z9,hd];have hMe:M=L.reverse:=by
    refine List.ext_getElem? λx=>?_
    by_cases hx:x<L.length
    ·rw[List.getElem?_reverse hx,hMx x hx];by_cases e3:x<i\/L.length<=x+i
     ·rw[Of e3]
     ·rw[O3 e3,show L.length-1-x=x by omega]
    ·rw[aqA J,aqA (by rw[List.length_reverse];omega)]
   rw[<-hMe];exact⟨_,rfl,gM,hsf,Vq,Wk⟩
 all_goals simp only[go_sem]
 all_goals rfl
def adf (args:List AV)(s:St):Yx U (ZE U 149 args) 149 args s=UN U 149 args s:=(YJ U 149 args s).symm
def ada (args:List AV)(s:St):Yx U (ZE U 86 args) 86 args s=UN U 86 args s:=(YJ U 86 args s).symm
def ahP (s:St):∃v,UN U 149 [.ZQ] s=some (v,s):=by
 suffices K':∃v,go U (Us U []) [] fL (Zr 0 [.ZQ] .nil) s=some (v,s) by
  obtain⟨v,h1⟩:=K';exact⟨v,Yi ahv It h1⟩
 have Ql:IntKind.i64.wrap ((0:Int)-1) = -1:=rfl;have hd:decide ((0:Int) < -1)=false:=rfl;simp only[go_sem,fL,Ql];rw[Qx];simp only[go_sem,GV];exact⟨_,rfl⟩
def xj (T:List Yb):∀(f k:Nat),(Vv T f k).length<=f
 |0,k=>by simp[Vv]
 |f+1,0=>by simp[Vv]
 |f+1,k+1=>by
  rw[Vv]
  cases T[k+1]? with
  |none=>simp
  |some t =>
   have:=xj T f t.2.1;simp only[ann,aqh];omega
def sG (s:St)(N:Nat)(L:List Nat)(v:AV):Prop:=(v=.ZQ/\L=[])\/∃w cap,v=.sl w 0 L.length cap 1/\s.get w=some (.cells (Zz L) 3 false 0 0)/\N<=w/\w<s.next/\L≠[]
structure aa9 {G:Type}(a b:Zv)(y:Nat->Nat->Bool)(CI:G->St->Prop)(fp:G->Nat->Prop)(QU:G->Nat->Nat->G->Prop)(g:G)(s:St)(pv ev:AV)(s':St)(g':G):Prop where
 ahQ:Jr s' s.next 164 (Yw (Zg a.fa b.fa) y).1.length (RT b.fa.n (Xz (Yw (Zg a.fa b.fa) y).1)) pv
 ends:sG s' s.next (SS (Yw (Zg a.fa b.fa) y)) ev
 apC:(Yw (Zg a.fa b.fa) y).2=none->NZ QU g ((Xz (Yw (Zg a.fa b.fa) y).1).flatMap λc=>Ad c (2^a.lines.toNat)) g'
 ci:CI g' s'
 same:∀j,j<s.next->¬fp g j->s'.get j=s.get j
 next:s.next<=s'.next
 apD:∀j,fp g' j->fp g j\/s.next<=j
 own:∀j,Oz pv j->¬fp g' j
 fr:Fr s'
def ahA {a b:Zv}(ha:a.ok)(hb:b.ok)(VK:a.lines=b.lines){fn:AV}{G:Type}{CI:G->St->Prop}{fp:G->Nat->Prop}{QO:Nat->Nat->Prop}{y:Nat->Nat->Bool}{QU:G->Nat->Nat->G->Prop}
  (Y:Yld fn b.fa.n s.next G CI fp QO y QU)(Lv:∀c x,c<(Zg a.fa b.fa).n->x<2^a.lines.toNat->QO c x){g:G}(AK:CI g s)(fr:Fr s) :
  ∃pv ev s' g',UN U 86 [XW a,XW b,fn] s=some (.XQ [pv,ev],s')/\aa9 a b y CI fp QU g s pv ev s' g':=by
 suffices K':∃x,go U (Us U [.tmp 6,.tmp 7]) [] aey (Zr 0 [XW a,XW b,fn] .nil) s=some x/\∃pv ev g',x.1=.XQ [pv,ev]/\aa9 a b y CI fp QU g s pv ev x.2 g' by
  obtain⟨x,h1,pv,ev,g',h2,h3⟩:=K';exact⟨pv,ev,x.2,g',by rw[<-h2];exact Yi al3 It h1,h3⟩
 have hP:=J9 ha.UU hb.UU (by show 2^a.lines.toNat=2^b.lines.toNat;rw[VK]);have hnn:(Zg a.fa b.fa).n<=262144:=Nat.mul_le_mul ha.few hb.few;have hV:=Vn hP y;have hVl:=hV.inv.len;have al4:=Y.lt g s AK;have nn:=ZV a.Xb (a.next.map ZF);have nf:=ZV a.WG (a.ZW.map ZM);have cn:=ZK a.Xb (a.next.map ZF);have cf:=ZK a.WG (a.ZW.map ZM);have nn':=ZV b.Xb (b.next.map ZF);have nf':=ZV b.WG (b.ZW.map ZM);have cn':=ZK b.Xb (b.next.map ZF);have cf':=ZK b.WG (b.ZW.map ZM);have hz:Yr b.fa.n 0=[.int .i64 0,.int .i64 0]:=by simp[Yr]
 have up:=λ(S:St) (m:Nat) (h:S.get m=some (.map [] false))=>B8 (m:=m) (k:=b.fa.n) (ks:=[]) (c:=0) h No
 rw[hz] at up;rw[YH a,YH b];unfold VI XD;simp only[go_sem,aey,up,ap2];obtain⟨S,hS⟩:∃S,S=((((((s.new (.cells [.int .i64 a.lines,ZU a.Xb (a.next.map ZF),ZU a.WG (a.ZW.map ZM)] 42 false 0 0)).new (.cells [.int .i64 b.lines,ZU b.Xb (b.next.map ZF),ZU b.WG (b.ZW.map ZM)] 42 false 0 0)).new (.map [] false)).put (s.next+2) (.map (Ty b.fa.n (λ_=>.bool true) [0] 0) false)).new (.cells [.int .i64 0,.int .i64 0] 164 false 0 0)).new (.cells [.int .i64 (-1),.int .i64 0] 231 false 0 0)):=⟨_,rfl⟩;rw[<-hS];have DX:S.next=s.next+5:=by rw[hS];simp only[Z',Z_]
 have kS:∀j,j<s.next->S.get j=s.get j:=λj h1=>by rw[hS];simp only[Z5,Z',Z_,Z7];rw[O3 J,O3 J,O3 J,O3 J,O3 J,O3 J]
 have u0:S.get s.next=some (.cells [.int .i64 a.lines,ZU a.Xb (a.next.map ZF),ZU a.WG (a.ZW.map ZM)] 42 false 0 0):=by rw[hS];simp only[Z5,Z',Z_,Z7];rw[O3 J,O3 J,O3 J,O3 J,O3 J];exact Of trivial
 have u1:S.get (s.next+1)=some (.cells [.int .i64 b.lines,ZU b.Xb (b.next.map ZF),ZU b.WG (b.ZW.map ZM)] 42 false 0 0):=by rw[hS];simp only[Z5,Z',Z_,Z7];rw[O3 J,O3 J,O3 J,O3 J];exact Of trivial
 have u2:S.get (s.next+2)=some (.map (Ty b.fa.n (λ_=>.bool true) [0] 0) false):=by rw[hS];simp only[Z5,Z',Z_,Z7];rw[O3 J,O3 J];exact Of trivial
 have u3:S.get (s.next+3)=some (.cells [.int .i64 0,.int .i64 0] 164 false 0 0):=by rw[hS];simp only[Z5,Z',Z_,Z7];rw[O3 J];exact Of trivial
 have u4:S.get (s.next+4)=some (.cells [.int .i64 (-1),.int .i64 0] 231 false 0 0):=by rw[hS];simp only[Z5,Z',Z_,Z7];exact Of trivial
 have Jh:Fr S:=by
  rw[hS]
  repeat first|exact fr|apply Fr.new|apply Fr.put|apply Fr.upto
  all_goals try simp only[Z']
  all_goals omega
 have nfp:∀q,¬fp g (s.next+q):=λq h=>by have:=al4 _ h;omega
 have V:DP S s.next a b (fp g) s.next (s.next+1) (s.next+2) (s.next+4) [(0,0,0)] (.sl (s.next+3) 0 1 (some 1) 2) (.sl (s.next+4) 0 1 (some 1) 2):=by
  refine⟨u0,u1,u2,⟨s.next+3,some 1,rfl,.inr rfl,?_,rfl,J,J⟩,⟨s.next+4,some 1,rfl,.inr rfl,u4,rfl,J,J⟩,J,⟨nfp 0,nfp 1,nfp 2,nfp 4⟩,λj hj=>?_,λj hj=>?_,J⟩
  ·rw[u3];simp[RT,Xz,hz]
  ·rw[QK] at hj;subst hj;exact⟨nfp 3,J⟩
  ·rw[QK] at hj;subst hj;exact nfp 4
 have aez:CI g S:=Y.keep g s S AK J λj h1 _=>kS j h1
 refine ahR (ZC:=λ(o:Option (AV×St))=>∃x,o=some x/\∃pv ev g',x.1=.XQ [pv,ev]/\aa9 a b y CI fp QU g s pv ev x.2 g') ha hb VK Y Lv ?_ ?_ ?_ ?_ ?_ ?_ ?_ V aez Jh J ?_ ?_
 case refine_8 =>
  intro RK e2 s2 DU sv2 pt2 g2 gU m_ p9 p10 V2 Dr xi TB C0 Fj OJ;have gU:e2.get 11=.int .i64 (-1):=by rw[gU];simp only[go_sem]
  have m_:e2.get 12=.ZQ:=by rw[m_];simp only[go_sem]
  have hd:decide ((-1:Int)>0)=false:=rfl;obtain⟨v,h178⟩:=ahP s2;simp only[go_sem];rw[Qx];simp only[go_sem,Kl,gU,m_,p9,hd,adf,h178];refine⟨_,rfl,DU,.ZQ,g2,rfl,⟨V2.hp,.inl ⟨rfl,by unfold SS;rw[RK]⟩,λ_=>Dr,xi,λj h1 h2=>by rw[TB j h1 h2,kS j h1],aqM (by omega:s.next<=S.next) C0,Fj,λj hj=>(V2.fp j hj).1,OJ⟩⟩
 case refine_9 =>
  intro k z hkz e2 s2 DU sv2 pt2 w g2 p9 p10 gU m_ hw uI LO hw3 V2 xi TB C0 Fj OJ;obtain⟨_,_,⟨t,ht,_⟩,_⟩:=hV.stop k z hkz;have Dp:=(apX.1 ht).1;simp only[go_sem];refine aht (ZC:=λ(o:Option (AV×St))=>∃x,o=some x/\∃pv ev g',x.1=.XQ [pv,ev]/\aa9 a b y CI fp QU g s pv ev x.2 g') hV.inv J (L:=[z]) (cap:=some 1) Dp (.inr rfl) F_ p10 gU m_ V2.hs hw LO OJ ?_;intro e3 s3 w3 ahS p39 al5 al6 apE ahT yX ib tU;generalize hL:[z]++(Vv (Yw (Zg a.fa b.fa) y).1 k k).reverse=L at *;have eW:SS (Yw (Zg a.fa b.fa) y)=L.reverse:=by
   unfold SS;rw[hkz,<-hL];simp
  have uF:L≠[]:=by rw[<-hL];simp
  have hLl:L.length<=2^30:=by
   have h1:(Vv (Yw (Zg a.fa b.fa) y).1 k k).length<=k:=xj _ k k;rw[<-hL];simp;omega
  obtain⟨v,s5,h178,k51,k52,k53,k54⟩:=alI (cap:=ahS) uF hLl al6 ahT tU;have nf3:∀j,fp g2 j->j<s2.next/\j≠w:=λj hj=>⟨Y.lt g2 s2 xi j hj,λe=>hw3 (e ▸ hj)⟩
  have k5:∀j,j<s2.next->j≠w->s5.get j=s2.get j:=λj h1 h2=>by rw[k52 j J J,yX j h1 h2]
  have nB:∀j,Oz DU j->j≠w:=λj h1=>Xy (V2.hp.lP h1).2.2 hw Mo
  have hP5:Jr s5 s.next 164 (Yw (Zg a.fa b.fa) y).1.length (RT b.fa.n (Xz (Yw (Zg a.fa b.fa) y).1)) DU:=V2.hp.HQ J λj h1 h2=>k5 j h1 (nB j h2)
  have al7:CI g2 s5:=Y.keep g2 s2 s5 xi J λj h1 h2=>k5 j h1 (by
   rcases h2 with h2|h2
   ·exact (nf3 j h2).2
   ·omega)
  simp only[go_sem,al5,p39,p9,adf,h178];refine⟨_,rfl,DU,_,g2,rfl,⟨hP5,.inr ⟨w3,ahS,by rw[eW,List.length_reverse],by rw[eW];exact k51,J,Nat.lt_of_lt_of_le ahT k53,by rw[eW];exact λh=>uF (List.reverse_eq_nil_iff.1 h)⟩,λh=>(by rw[hkz] at h;cases h),al7,λj h1 h2=>?_,aqM (aqM (aqM (by omega:s.next<=S.next) C0) ib) k53,Fj,λj hj=>(V2.fp j hj).1,k54⟩⟩;exact (k5 j J J).trans (by rw[TB j h1 h2,kS j h1])
 all_goals simp only[go_sem]
 all_goals rfl
def vj {b d n:Nat}{l r:List AV}(hn:n=l.length)(hg:s.get b=some (.cells l t false 0 0))(Dl:Ys U t=some false)(Vt:size U t=some 1)(Pq:l.all Zu=true)(hf:YS (Xe U s d) l=some r) :
  Xe U s (d+1) (.sl b 0 n cap 1)=some (.fz r):=by
 subst hn;simp only[Xe,hg,ap3,VA,Dl,Vt];rw[Of ⟨trivial,J,λ_=>⟨trivial,Pq⟩⟩,UK,hf]
def Eu (s:St)(d:Nat)(l:List Int):YS (Xe U s (d+1)) (ints l)=some (ints l):=U' λx hx=>by
 obtain⟨b,_,rfl⟩:=ap0.1 hx;rfl
def vi (s:St)(d:Nat)(l:List Bool):YS (Xe U s (d+1)) (Zt l)=some (Zt l):=U' λx hx=>by
 obtain⟨b,_,rfl⟩:=ap0.1 hx;rfl
def SC.Xe {b d:Nat}{c:AV}{l:List AV}(h:SC s b t c l)(Dl:Ys U t=some false)(Vt:size U t=some 1)(Pq:l.all Zu=true)(hf:YS (Go.Am.Xe U s d) l=some l):Go.Am.Xe U s (d+1) c=some (.fz l):=by
 obtain⟨j,cap,rfl,_,_,_,h5⟩:=h;exact vj rfl h5 Dl Vt Pq hf
def ZD.Ev {B:Nat}{l:List AV}(h:ZD s B t 1 l.length l v)(Dl:Ys U t=some false)(Vt:size U t=some 1)(Pq:l.all Go.Am.Zu=true)
  {d:Nat}{r:List AV}(hf:YS (Go.Am.Xe U s d) l=some r):Go.Am.Xe U s (d+1) v=some (ZU true r):=by
 rcases h with⟨h0,rfl,_⟩|⟨h0,h1,b,_,_,rfl,hg⟩
 ·have:l=[]:=aqo.1 h0;subst this
  cases hf
  rfl
 ·rw[vj rfl hg Dl Vt Pq hf]
  cases r with
  |nil =>
   cases l with
   |nil=>simp at h0
   |cons x l =>
    rw[YS] at hf
    cases h1:Go.Am.Xe U s d x with
    |none=>rw[h1] at hf;cases hf
    |some y =>
     rw[h1] at hf
     cases h2:YS (Go.Am.Xe U s d) l with
     |none=>rw[h2] at hf;cases hf
     |some z=>rw[h2] at hf;cases hf
  |cons x r=>rfl
def S_.Xe {b:Nat}{a:Zv}{cN cF:List AV}{v w:AV}(h:S_ s b a cN cF v w)(d:Nat):Go.Am.Xe U s (d+3) v=some (ZU true ((LG a.fa (XL a)).map λx=>AV.fz (Zz x.2)))/\Go.Am.Xe U s (d+3) w=some (ZU true ((LG a.fa (XL a)).map λx=>AV.fz (Zt (Wh a.fa x.1)))) :=
 ⟨h.v.Ev qe qc h.na.1 (d:=d+2) (RM h.ln λj h1 h'=>(h.bn j h' h1).Xe AW AU (UR _) (Eu _ _ _)),h.w.Ev qa p_ h.na.2 (d:=d+2) (RM h.lf λj h1 h'=>(h.bf j h' h1).Xe m9 m8 (S4 _) (vi _ _ _))⟩
def IU {a b:Zv}(h:Wz a b=0):a.ok/\b.ok/\a.lines=b.lines:=by
 have e:∀l:List Int,YD l=0->∀x∈l,x=0:=by
  intro l
  induction l with
  |nil=>intro _ x hx;cases hx
  |cons y l ih =>
   intro h x hx;rw[YD] at h;by_cases hy:y=0
   ·subst hy;rcases ap9.1 hx with rfl|hx
    ·rfl
    ·exact ih (by simpa[br] using h) x hx
   ·have:(y != 0)=true:=by simpa using hy
    rw[this] at h;simp[br] at h;exact absurd h hy
 have h':=e _ h;refine⟨Zv.L8 (h' _ No),Zv.L8 (h' _ No),?_⟩;have:=h' (br (a.lines != b.lines) 2 0) No;by_cases hl:a.lines=b.lines
 ·exact hl
 ·have hb:(a.lines != b.lines)=true:=by simpa using hl
  rw[hb] at this;simp[br] at this
def sG.Ya {N:Nat}(h:sG s N L v)(d:Nat):Go.Am.Ya U s (d+2) v=some (ZU true (Zz L)):=by
 rcases h with⟨rfl,rfl⟩|⟨w,cap,rfl,h2,h3,h4,h5⟩
 ·rfl
 ·rw[Uw,h2,Xo,ap3,<-Wd L,VA,AW,AU,U0];unfold Zz;rw[Of (UR _),UK,TQ s d (Ur L),S9]
  cases L with
  |nil=>exact absurd rfl h5
  |cons x l=>rfl
def sG.len {N:Nat}{L:List Nat}(h:sG s N L v):U1 v=some (.int .i64 (L.length:Nat)):=by
 rcases h with⟨rfl,rfl⟩|⟨w,cap,rfl,_⟩ <;> rfl
def sG.na {N:Nat}(h:sG s N L v):Zu v=true:=by
 rcases h with⟨rfl,rfl⟩|⟨w,cap,rfl,_⟩ <;> rfl
end Go.Am
namespace Go.Am
open Go
def sx (l:List Bool)(t:Nat):Prop:=l.getD t false=true
structure rh (n:Nat)(z z':List Bool×List Nat)(P:Nat->Prop):Prop where
 len:z'.1.length=n
 seen:∀t,sx z'.1 t<->sx z.1 t\/P t
 lay:∀t,t∈z'.2<->t∈z.2\/(P t/\¬sx z.1 t)
def rh.trans {n:Nat}{z z1 z2:List Bool×List Nat}{P Q:Nat->Prop}(h:rh n z z1 P)(h':rh n z1 z2 Q):rh n z z2 λt=>P t\/Q t:=by
 refine⟨h'.len,λt=>?_,λt=>?_⟩
 ·rw[h'.seen,h.seen,or_assoc]
 ·rw[h'.lay,h.lay,h.seen];by_cases h1:P t <;> by_cases h2:Q t <;> by_cases h3:sx z.1 t <;> simp[h1,h2,h3]
def rh.congr {n:Nat}{z z':List Bool×List Nat}{P Q:Nat->Prop}(h:rh n z z' P)(e:∀t,P t<->Q t):rh n z z' Q:=by
 have:P=Q:=funext λt=>propext (e t)
 rw[<-this];exact h
end Go.Am
namespace Go.Am
open Go
variable [Z8]
variable {s:St}{v:AV}{L:List Nat}
def Hj.KL {N:Nat}(h:Hj s N L v){j:Nat}(hj:WN v j):j<s.next/\s.get j=some (.cells (Zz L) 3 false 0 0):=by
 rcases h with⟨rfl,_⟩|⟨b,rfl,h2,h3,h4⟩
 ·exact absurd hj (VB j)
 ·rw[X_] at hj;subst hj;exact⟨h4,h2⟩
structure SpI (s:St)(b5 b6 sb n:Nat)(z:List Bool×List Nat)(lv:AV):Prop where
 g5:s.get b5=some (.cells [.sl sb 0 n (some n) 1] 72 false 0 0)
 gs:s.get sb=some (.cells (Zt z.1) 4 false 0 0)
 g6:s.get b6=some (.cells [lv] 48 false 0 0)
 gl:Hj s 0 z.2 lv
 lt:b5<s.next/\b6<s.next/\sb<s.next
 len:z.1.length=n
 cnt:z.2.length+z.1.count false<=n
def SpI.keep {s s':St}{b5 b6 sb n:Nat}{z:List Bool×List Nat}{lv:AV}(h:SpI s b5 b6 sb n z lv)(hn:s.next<=s'.next)(hg:∀j,j<s.next->j=b5\/j=b6\/j=sb\/WN lv j->s'.get j=s.get j):SpI s' b5 b6 sb n z lv:=by
 obtain⟨g5,gs,g6,gl,⟨l1,l2,l3⟩,len,cnt⟩:=h;exact⟨(hg _ l1 No).trans g5,(hg _ l3 No).trans gs,(hg _ l2 No).trans g6,gl.keep hn λj h1 _ h3=>hg j h1 (by simp[h3]),J,len,cnt⟩
def NZ.map {G H:Type}{QU:G->Nat->Nat->G->Prop}{ag':H->Nat->Nat->H->Prop}{φ:G->H}(h:∀g c x g',QU g c x g'->ag' (φ g) c x (φ g')){g g':G}{l:List (Nat×Nat)}(hs:NZ QU g l g'):NZ ag' (φ g) l (φ g'):=by
 induction hs with
 |nil=>exact .nil _
 |snoc h1 h2 ih=>exact .snoc ih (h _ _ _ _ h2)
def ecs (k:Nat)(E:List (Nat×AV)):List AV:=E.flatMap λp=>[.int .i64 ((p.1 / k:Nat):Int),.int .i64 ((p.1%k:Nat):Int),p.2]
def Pr3 (s:St)(N:Nat)(t:TypeId)(n:Nat)(cs:List AV)(v:AV):Prop:=∃b cap,v=.sl b 0 n cap 3/\(cap=none\/cap=some n)/\s.get b=some (.cells cs t false 0 0)/\cs.length=n*3/\N<=b/\b<s.next
def SgI (s:St)(N:Nat)(L:List Nat)(v:AV):Prop:=(v=.ZQ/\L=[])\/(L≠[]/\∃b,v=.sl b 0 L.length none 1/\s.get b=some (.cells (Zz L) 3 false 0 0)/\N<=b/\b<s.next)
def SgI.sl {N:Nat}(h:SgI s N L v):Hj s N L v:=by
 rcases h with h|⟨_,h⟩
 ·exact .inl h
 ·exact .inr h
def SgI.keep {s s':St}{N:Nat}(h:SgI s N L v)(hn:s.next<=s'.next)(hg:∀j c,s.get j=some (.cells c 3 false 0 0)->j<s.next->s'.get j=some (.cells c 3 false 0 0)):SgI s' N L v:=by
 rcases h with h|⟨h0,b,h1,h2,h3,h4⟩
 ·exact .inl h
 ·exact .inr ⟨h0,b,h1,hg b _ h2 h4,h3,J⟩
def SgI.na {N:Nat}(h:SgI s N L v):Zu v=true:=by
 rcases h with⟨rfl,_⟩|⟨_,b,rfl,_⟩ <;> rfl
def SgI.Ya {N:Nat}(h:SgI s N L v)(d:Nat):Go.Am.Ya U s (d+2) v=some (ZU true (Zz L)):=by
 rcases h with⟨rfl,rfl⟩|⟨h5,w,rfl,h2,h3,h4⟩
 ·rfl
 ·rw[ow rfl h2]
  cases L with
  |nil=>exact absurd rfl h5
  |cons x l=>rfl
structure EnI (s:St)(N k:Nat)(T:List Yb)(E:List (Nat×AV))(pv:AV):Prop where
 row:Pr3 s N 195 E.length (ecs k E) pv
 cd:E.map (·.1)=Xz T
 sg:∀j (h:j<E.length),SgI s N (Vv T j j) E[j].2
def EnI.len {N k:Nat}{T:List Yb}{E:List (Nat×AV)}{pv:AV}(h:EnI s N k T E pv):E.length=T.length:=by
 have:=congrArg List.length h.cd
 rwa [ala,Ti] at this
def EnI.keep {s s':St}{N k:Nat}{T:List Yb}{E:List (Nat×AV)}{pv:AV}(h:EnI s N k T E pv)(hn:s.next<=s'.next)(hg:∀j c t,(t=3\/t=195)->s.get j=some (.cells c t false 0 0)->j<s.next->s'.get j=some (.cells c t false 0 0)):EnI s' N k T E pv:=by
 obtain⟨⟨b,cap,h1,h2,h3,h4,h5,h6⟩,h7,h8⟩:=h;exact⟨⟨b,cap,h1,h2,hg b _ _ (.inr rfl) h3 h6,h4,h5,J⟩,h7,λj hj=>(h8 j hj).keep hn λi c h9 h10=>hg i c 3 (.inl rfl) h9 h10⟩
def yA (a b:Zv)(c x:Nat):Bool:=a.fa.fr (c / b.fa.n) x==b.fa.fr (c%b.fa.n) x
def Jt (a b:Zv):List Yb×Option (Nat×Nat):=Yw (Zg a.fa b.fa) (yA a b)
end Go.Am
