/- A part of the proof of a statement of this seat: the machine on which the program is read, and what it computes; for every input. -/
import Derived.Test.YtkmaeondbkpajaaGreatDoorN15
import Derived.Test.YtkmaeondbkpajaaGreatDoorN13
set_option linter.all false
namespace Go.Am
open Go
variable [Z3]
set_option maxRecDepth 100000
set_option maxHeartbeats 8000000
theorem Jz.pt {s s':St}{N:Nat}{a b:ZN}{f:Nat->Prop}{A0 B0 mp pt:Nat}{T:List Xs}{pv sv:AV}(h:Jz s N a b f A0 B0 mp pt T pv sv)(hn:s.next<s'.next)(hg:∀j,j<s.next->s'.get j=s.get j)(Sx:∀j,f j->j<s.next):Jz s' N a b f A0 B0 mp s.next T pv sv:=by
 obtain⟨gA,gB,gm,hp,hs,⟨l1,l2,l3,l4,l5,l6,l7,l8⟩,⟨f1,f2,f3,f4⟩,fp,fs,np⟩:=h;exact⟨(hg _ l1).trans gA,(hg _ l2).trans gB,(hg _ l3).trans gm,hp.Ms (by omega) fun j h1 _=>hg j h1,hs.Ms (by omega) fun j h1 _=>hg j h1,⟨by omega,by omega,by omega,hn,l5,l6,l7,by omega⟩,⟨f1,f2,f3,fun h=>by have:=Sx _ h;omega⟩,fun j hj=>⟨(fp j hj).1,by have:=(hp.zy hj).2.1;omega⟩,fs,⟨by omega,by omega,by omega⟩⟩
theorem Rv.trans {G:Type}{TA:G->Nat->Nat->G->Prop}{g g1 g2:G}{l l':List (Nat×Nat)}(h:Rv TA g l g1)(h':Rv TA g1 l' g2):Rv TA g (l++l') g2:=by
 induction h' with
 |nil=>rw[List.append_nil];exact h
 |snoc h1 h2 ih=>rw[<-aft];exact .snoc ih h2
theorem BK (k:Nat):∀L:List Nat,(WT k L).length=L.length*2
 |[]=>rfl
 |c::l=>by
  have:=BK k l;rw[WT,afn,aeW,afc];unfold WT at this;rw[this];show 2+_=_;omega
theorem Rz (k:Nat):∀(L:List Nat) (i:Nat) (h:i<L.length),YB 2 (i*2) (WT k L)=some (Zc k L[i])
 |c::l,0,_=>by
  rw[WT,afn,Nat.zero_mul];simp[Zc,Wi,Wh]
 |c::l,i+1,h=>by
  have:=Rz k l i (by rw[afc] at h;omega);rw[WT,afn,show (i+1)*2=i*2+2 by omega];exact this
theorem c9 {β:Type}{fin:Fl->β}{ks:List K}{ZV:β->Prop}{a b:ZN}(ha:a.ok)(hb:b.ok)(VD:a.lines=b.lines){fn:AV}{N:Nat}{G:Type}{CI:G->St->Prop}{fp:G->Nat->Prop}{Tv:Nat->Nat->Prop}{y:Nat->Nat->Bool}{TA:G->Nat->Nat->G->Prop}
  (Y:dD fn b.fa.n N G CI fp Tv y TA)(PD:∀c x,c<(Zn a.fa b.fa).n->x<2^a.lines.toNat->Tv c x){A0 B0 mp pt:Nat}{pv sv:AV}{g:G}
  {e:Env}{s:St}(g2:Env.get e 2=fn)(g3:Env.get e 3=.ptr A0 0)(g4:Env.get e 4=.ptr B0 0)(g8:Env.get e 8=.map mp)(g9:Env.get e 9=pv)(Gp:Env.get e 10=sv)(LV:Env.get e 13=.int .i64 (0:Nat))
  (V:Jz s N a b (fp g) A0 B0 mp pt [(0,0,0)] pv sv)(DW:CI g s)(fr:Fr s)(hN:N<=s.next)
  (hk:(Yr (Zn a.fa b.fa) y).2=none->∀e' s' NY Nw jI g',Env.get e' 11=Env.get e 11->Env.get e' 12=Env.get e 12->Env.get e' 9=NY->Env.get e' 10=Nw->Jz s' N a b (fp g') A0 B0 mp jI (Yr (Zn a.fa b.fa) y).1 NY Nw->Rv TA g ((Yt (Yr (Zn a.fa b.fa) y).1).flatMap fun c=>G6 c (2^a.lines.toNat)) g'->CI g' s'->(∀j,j<N->¬fp g j->s'.get j=s.get j)->s.next<=s'.next->(∀j,fp g' j->fp g j\/N<=j)->Fr s'->ZV (goN U fin ks e' s'))
  (hx:∀k z,(Yr (Zn a.fa b.fa) y).2=some (k,z)->∀e' s' NY Nw jI w g',Env.get e' 9=NY->Env.get e' 10=Nw->Env.get e' 11=.int .i64 (k:Nat)->Env.get e' 12=.sl w 0 1 (some 1) 1->s'.get w=some (.cells (ZO [z]) 3 false 0 0)->N<=w->w<s'.next->¬fp g' w->Jz s' N a b (fp g') A0 B0 mp jI (Yr (Zn a.fa b.fa) y).1 NY Nw->CI g' s'->(∀j,j<N->¬fp g j->s'.get j=s.get j)->s.next<=s'.next->(∀j,fp g' j->fp g j\/N<=j)->Fr s'->ZV (goN U fin ks e' s')) :
  ZV (Vx U fin (.bk 0::ks) Li e s):=by
 have hA:=Ot ha.VK hb.VK (by show 2^a.lines.toNat=2^b.lines.toNat;rw[VD]);have hnn:(Zn a.fa b.fa).n<=262144:=Nat.mul_le_mul ha.few hb.few;have Qy:=Rq U 3 true .i64 (n:=a.lines) (by have:=ha.lines;omega);have sw:((2:Int)^a.lines.toNat)=((2^a.lines.toNat:Nat):Int):=by simp
 rw[sw] at Qy;refine ZC (σ:=Nat) (fun i=>(Zn a.fa b.fa).n-i) (fun i e' s'=>Env.get e' 2=fn/\Env.get e' 3=.ptr A0 0/\Env.get e' 4=.ptr B0 0/\Env.get e' 8=.map mp/\Env.get e' 11=Env.get e 11/\Env.get e' 12=Env.get e 12/\Env.get e' 13=.int .i64 (i:Nat) /\
   (∀j,j<N->¬fp g j->s'.get j=s.get j)/\s.next<=s'.next/\Fr s' /\
   ∃T' NY Nw jI g',Jl (Zn a.fa b.fa) y ((Zn a.fa b.fa).n+1-i) i T'=Yr (Zn a.fa b.fa) y/\Qc (Zn a.fa b.fa) T'/\i<=T'.length/\Env.get e' 9=NY/\Env.get e' 10=Nw/\Jz s' N a b (fp g') A0 B0 mp jI T' NY Nw/\CI g' s'/\Rv TA g (((Yt T').take i).flatMap fun c=>G6 c (2^a.lines.toNat)) g'/\(∀j,fp g' j->fp g j\/N<=j)) 0 ?_
  ⟨g2,g3,g4,g8,rfl,rfl,LV,fun _ _ _=>rfl,aba _,fr,[(0,0,0)],pv,sv,pt,g,rfl,mY hA,ae5 _,g9,Gp,V,DW,.nil g,fun j hj=>.inl hj⟩
 rintro Lp i e' s' ⟨q2,q3,q4,q8,NB,RR,U6,hs,XY,YM,T',NY,Nw,jI,g1,Zp,Bs,hi,q9,Um,V',zk,Xg,qj⟩ IH;have lI:=Bs.len;have hlen:=V'.hp.WK;obtain⟨bp,cap,kT,Pn,Bh,fS,hp5,hp6⟩:=V'.hp;rw[show (Zn a.fa b.fa).n+1-i=((Zn a.fa b.fa).n-i)+1 by omega,Jl] at Zp;by_cases hd:i<T'.length
 ·have S6:=ZI hd (by omega);rw[aaa hd] at Zp;simp only at Zp;have hc:T'[i].1<(Zn a.fa b.fa).n:=Bs.lt _ (ae2 hd);have hcx:(Yt T')[i]'(by rw[Vo];exact hd)=T'[i].1:=by simp[Yt]
  have gr:=Rz b.fa.n (Yt T') i (by rw[Vo];exact hd);rw[hcx] at gr;have hg9:=q9.trans kT;have qi:=Y.lt g1 s' zk;have hgA:=V'.gA;obtain⟨l1,l2,l3,l4,l5,l6,l7,l8⟩:=V'.lt;have f1:(s'.next=A0)=False:=by simp;omega
  generalize hcd:T'[i].1=c at *;unfold Zc at gr;simp only[go_sem,Li,q3,U6,hg9,Z8,hd,Bh,gr,hgA,Qy,f1];obtain⟨S,hS⟩:∃S,S=(s'.new (.cells [.int .i64 0,.int .i64 0] 164 false 0 0)).put s'.next (.cells [.int .i64 ((c / b.fa.n:Nat):Int),.int .i64 ((c%b.fa.n:Nat):Int)] 164 false 0 0):=⟨_,rfl⟩;rw[<-hS];have rN:S.next=s'.next+1:=by rw[hS,Z9,Z']
  have kS:∀j,j<s'.next->S.get j=s'.get j:=fun j h1=>by rw[hS,Z7,if_neg (by omega),ZZ,if_neg (by omega)]
  have hpt:S.get s'.next=some (.cells (Zc b.fa.n c) 164 false 0 0):=by rw[hS,Z7,if_pos rfl];rfl
  have He:Fr S:=by rw[hS];exact (YM.new _).put (by rw[Z'];omega) _
  have VS:Jz S N a b (fp g1) A0 B0 mp s'.next T' NY Nw:=V'.pt (by omega) kS qi;have kC:CI g1 S:=Y.keep g1 s' S zk (by omega) fun j h1 _=>kS j h1
  have hVR:=Q0 hA hc (y c) (Zn a.fa b.fa).m 0 (T:=T') (i:=i) (by omega) Bs hd;refine aH (ZV:=ZV) ha hb VD Y hc (fun x hx=>PD c x hc hx) Bs hd (vr:=Xx ((Zn a.fa b.fa).nx c) (y c) i (2^a.lines.toNat) 0 T') rfl ?_ ?_ ?_ ?_ ?_ ?_ ?_ ?_ ?_ ?_ VS hpt kC He (by omega) ?_ ?_
  case refine_11 =>
   intro VP e2 s2 qD c8 CT hold p9 G5 V2 Jh Fi WC NA Ku TC;have hm:(Zn a.fa b.fa).m=2^a.lines.toNat:=rfl;rw[hm] at Zp hVR;generalize Xx ((Zn a.fa b.fa).nx c) (y c) i (2^a.lines.toNat) 0 T'=v at *;obtain⟨T2,o2⟩:=v;simp only at VP Zp V2 hVR;subst VP;obtain⟨⟨i1,R,hR⟩,_,_⟩:=hVR;have E2:∀t:Nat,t<14->t≠9->t≠10->Env.get e2 t=Env.get e' t:=fun t h1 h2 h3=>by
    rw[hold t (by omega) h2 h3];have ZQ:∀k:Nat,14<=k->(k=t)=False:=fun k hk=>by simp;omega
    simp only[go_sem,ZQ]
   have p2:=(E2 2 (by omega) (by omega) (by omega)).trans q2;have p3:=(E2 3 (by omega) (by omega) (by omega)).trans q3;have p4:=(E2 4 (by omega) (by omega) (by omega)).trans q4;have p8:=(E2 8 (by omega) (by omega) (by omega)).trans q8;have DU:=(E2 11 (by omega) (by omega) (by omega)).trans NB;have L0:=(E2 12 (by omega) (by omega) (by omega)).trans RR;have zV:=(E2 13 (by omega) (by omega) (by omega)).trans U6;have hlT:i+1<=T2.length:=by rw[hR,aeW];omega
   have nD:(Yt T2).take (i+1)=(Yt T').take i++[c]:=by
    rw[hR];have e1:Yt (T'++R)=Yt T'++Yt R:=by simp[Yt]
    have qS:=Vo T';rw[e1,List.take_append_of_le_length (by omega),afC (by omega),hcx]
   simp only[go_sem,zV,S6];have ac5:=i1.len;refine IH (i+1) _ _ (by omega) ⟨?_,?_,?_,?_,?_,?_,?_,fun j h1 h2=>?_,by omega,TC,T2,qD,c8,s'.next,CT,?_,i1,hlT,?_,?_,V2,Fi,?_,fun j hj=>?_⟩
   case refine_8 =>
    rw[WC j h1 fun h=>by rcases qj j h with h|h;exact h2 h;omega,kS j (by omega),hs j h1 h2]
   case refine_9=>rw[show (Zn a.fa b.fa).n+1-(i+1)=(Zn a.fa b.fa).n-i by omega];exact Zp
   case refine_12 =>
    rw[nD,List.flatMap_append,List.flatMap_singleton];exact Xg.trans Jh
   case refine_13 =>
    rcases Ku j hj with h|h
    ·exact qj j h
    ·exact .inr h
   all_goals simp only[go_sem,p2,p3,p4,p8,p9,G5,DU,L0]
  case refine_12 =>
   intro z hz e2 s2 qD c8 w CT hold p9 G5 DU L0 hw nC I1 qC V2 Jh Fi WC NA Ku TC;have hm:(Zn a.fa b.fa).m=2^a.lines.toNat:=rfl;rw[hm] at Zp;generalize Xx ((Zn a.fa b.fa).nx c) (y c) i (2^a.lines.toNat) 0 T'=v at *;obtain⟨T2,o2⟩:=v;simp only at hz Zp V2;subst hz;simp only at Zp;rw[<-Zp] at hx;simp only[go_sem];refine hx i z rfl _ _ qD c8 s'.next w CT p9 G5 DU L0 hw (by omega) I1 qC V2 Fi (fun j h1 h2=>?_) (by omega) (fun j hj=>?_) TC
   ·rw[WC j h1 fun h=>by rcases qj j h with h|h;exact h2 h;omega,kS j (by omega),hs j h1 h2]
   ·rcases Ku j hj with h|h
    ·exact qj j h
    ·exact .inr h
  all_goals simp only[go_sem,q2,q3,q4,q8,q9,Um,U6]
  all_goals rfl
 ·have DX:i=T'.length:=by omega
  rw[afz (by omega)] at Zp;simp only at Zp;have hle:decide ((i:Int)<(T'.length:Int))=false:=by rw[Z8];simp;omega
  have hg9:=q9.trans kT;simp only[go_sem,Li,U6,hg9,hle];rw[<-Zp] at hk;rw[List.take_of_length_le (by rw[Vo];omega)] at Xg;refine hk rfl _ _ NY Nw jI g1 ?_ ?_ ?_ ?_ V' Xg zk hs XY qj YM
  ·simp only[go_sem,NB]
  ·simp only[go_sem,RR]
  ·simp only[go_sem,q9]
  ·simp only[go_sem,Um]
theorem Bi:∀(l:List (Int×Int)) (i:Nat) (h:i<l.length),(sc l)[i*2]? = some (.int .i64 l[i].1)/\(sc l)[i*2+1]? = some (.int .i64 l[i].2)
 |p::l,0,_=>⟨rfl,rfl⟩
 |p::l,i+1,h=>by
  have:=Bi l i (by rw[afc] at h;omega);rw[show (i+1)*2=i*2+2 by omega];exact this
theorem qU {T:List Xs}{k:Nat}{t:Xs}(h:T[k+1]? = some t):∃h':k+1<(zJ T).length,(zJ T)[k+1]=((t.2.1:Int),(t.2.2:Int)):=by
 cases T with
 |nil=>simp at h
 |cons a l =>
  rw[afr] at h;obtain⟨h1,h2⟩:=ae6.1 h;exact⟨by simp[zJ,h1],by simp[zJ,h2]⟩
theorem dI {β:Type}{fin:Fl->β}{ks:List K}{ZV:β->Prop}{A:Fa}{T:List Xs}(hT:Qc A T)(lI:T.length<=262144){N k w:Nat}{cap:Option Nat}{sv:AV}{L:List Nat}(hk:k<T.length)(LS:cap=none\/cap=some L.length)(hL:k+L.length<=2^20)
  {e:Env}{s:St}(Gp:Env.get e 10=sv)(Ga:Env.get e 11=.int .i64 (k:Nat))(OT:Env.get e 12=.sl w 0 L.length cap 1)(hs:Nx s N 231 T.length (sc (zJ T)) sv)(gw:s.get w=some (.cells (ZO L) 3 false 0 0))(nw:w<s.next)(fr:Fr s)
  (hk:∀e' s' w' RP,Env.get e' 9=Env.get e 9->Env.get e' 12=.sl w' 0 (L++(Tb T k k).reverse).length RP 1->s'.get w'=some (.cells (ZO (L++(Tb T k k).reverse)) 3 false 0 0)->(w'=w\/s.next<=w')->w'<s'.next->(∀j,j<s.next->j≠w->s'.get j=s.get j)->s.next<=s'.next->Fr s'->ZV (goN U fin ks e' s')) :
  ZV (Vx U fin (.bk 4::ks) OF e s):=by
 have WX:=hk;generalize hR:L++(Tb T k k).reverse=R at *;refine ZC (σ:=Nat) (fun k=>k) (fun k' e' s'=>k'<T.length/\Env.get e' 9=Env.get e 9/\Env.get e' 10=sv/\Env.get e' 11=.int .i64 (k':Nat)/\Nx s' N 231 T.length (sc (zJ T)) sv/\(∀j,j<s.next->j≠w->s'.get j=s.get j)/\s.next<=s'.next/\Fr s' /\
   ∃L' w' RP,Env.get e' 12=.sl w' 0 L'.length RP 1/\(RP=none\/RP=some L'.length)/\L'++(Tb T k' k').reverse=R/\k'+L'.length<=2^20/\s'.get w'=some (.cells (ZO L') 3 false 0 0)/\(w'=w\/s.next<=w')/\w'<s'.next) k ?_
  ⟨by omega,rfl,Gp,Ga,hs,fun _ _ _=>rfl,aba _,fr,L,w,cap,OT,LS,hR,hL,gw,.inl rfl,nw⟩
 rintro Lp k' e' s' ⟨Hd,q9,Um,NB,Hc,xP,XY,YM,L',w',RP,RR,Fz,xO,Hy,gw',L5,nw'⟩ IH
 cases k' with
 |zero =>
  have xO:L'=R:=by rw[<-xO];simp[Tb]
  subst xO;have hd:decide (((0:Nat):Int)>0)=false:=rfl;simp only[go_sem,OF,NB,hd];refine WX _ _ w' RP ?_ ?_ gw' L5 nw' xP XY YM
  ·simp only[go_sem,q9]
  ·simp only[go_sem,RR]
 |succ k' =>
  have ht:T[k'+1]? = some T[k'+1]:=aaa Hd;obtain⟨f1,f2⟩:=hT.fr k' _ ht;obtain⟨Xg,Jh⟩:=qU ht;obtain⟨c1,c2⟩:=Bi (zJ T) (k'+1) Xg;rw[Jh] at c1 c2;simp only at c1 c2;have hsg:Tb T (k'+1) (k'+1)=Tb T T[k'+1].2.1 T[k'+1].2.1++[T[k'+1].2.2]:=by
   rw[Tb,ht];simp only;rw[Nh hT k' _ f1 (by omega)]
  rw[hsg,List.reverse_append,List.reverse_singleton,<-aft] at xO;generalize T[k'+1].2.1=fm at *;generalize T[k'+1].2.2=x at *;have hd:decide (((k'+1:Nat):Int)>0)=true:=by simp
  obtain⟨bs,abM,rfl,Pn,Bh,fS,hp5,hp6⟩:=Hc;have hws:w'≠bs:=YY gw' Bh (by decide);have hkT:k'+1<T.length:=Hd;have Bg:(L'.length+1)*8<=1099511627776:=by omega
  have lh:L'.length+1<=1099511627776:=by omega
  simp only[go_sem,OF,Um,NB,RR,hd,hkT,Bh,c1,c2,ad4,ae3,afu,ZD,Nat.reducePow,Bg,lh];obtain⟨s4,d1,d2,d3,d4,d5⟩:=dH (b:=w') (L:=L') (s:=s'.new (.cells [.int .i64 (x:Int)] 3 false 0 0)) Fz rfl (by rw[ZZ,if_neg (by omega)];exact gw') (by rw[Z'];omega) x;simp only[Z'] at d1 d2 d3 d4;rw[d1];have k4:∀j,j<s'.next->j≠w'->s4.get j=s'.get j:=fun j h1 h2=>by rw[d4 j (by omega) h2,ZZ,if_neg (by omega)]
  have u3:=(k4 bs hp6 hws.symm).trans Bh;simp only[go_sem,Um,NB,hkT,u3,c1,ad4,ae3];refine IH fm _ _ (by omega) ⟨by omega,?_,?_,?_,⟨bs,abM,rfl,Pn,u3,fS,hp5,by omega⟩,fun j h1 h2=>by rw[k4 j (by omega) (by omega),xP j h1 h2],by omega,d5 (YM.new _),L'++[x],s'.next+1,none,?_,.inl rfl,xO,by rw[aeW,aff];omega,d3,.inr (by omega),by omega⟩
  ·simp only[go_sem,q9]
  ·simp only[go_sem,Um]
  ·simp only[go_sem]
  ·simp only[go_sem,aeW,aff]
theorem abN {s:St}{w:Nat}{L:List Nat}{cap:Option Nat}(hL:L≠[])(hlen:L.length<=2^30)(hg:s.get w=some (.cells (ZO L) 3 false 0 0))(hw:w<s.next)(fr:Fr s) :
  ∃v s',WW U 149 [.sl w 0 L.length cap 1] s=some (v,s')/\s'.get w=some (.cells (ZO L.reverse) 3 false 0 0)/\(∀j,j<s.next->j≠w->s'.get j=s.get j)/\s.next<=s'.next/\Fr s':=by
 suffices TK:∃x,go U (XZ U []) [] wN (ZM 0 [.sl w 0 L.length cap 1] .nil) s=some x/\x.2.get w=some (.cells (ZO L.reverse) 3 false 0 0)/\(∀j,j<s.next->j≠w->x.2.get j=s.get j)/\s.next<=x.2.next/\Fr x.2 by
  obtain⟨x,h1,h2⟩:=TK;exact⟨x.1,x.2,Y3 dG (by kernel_rfl) h1,h2⟩
 obtain⟨m,hm⟩:∃m,L.length=m+1:=⟨L.length-1,by have:=List.length_pos_iff.2 hL;omega⟩;have S6:IntKind.i64.wrap ((L.length:Int)-1)=(m:Int):=by rw[wrap_i64] <;> omega
 simp only[go_sem,wN,S6];refine ZC (ZV:=fun (o:Option (AV×St))=>∃x,o=some x/\x.2.get w=some (.cells (ZO L.reverse) 3 false 0 0)/\(∀j,j<s.next->j≠w->x.2.get j=s.get j)/\s.next<=x.2.next/\Fr x.2) (σ:=Nat×Nat) (fun p=>p.2) (fun p e' s'=>p.1+p.2+1=L.length/\Env.get e' 0=.sl w 0 L.length cap 1/\Env.get e' 2=.int .i64 (p.1:Nat)/\Env.get e' 3=.int .i64 (p.2:Nat)/\(∀j,j<s.next->j≠w->s'.get j=s.get j)/\s.next<=s'.next/\Fr s' /\
   ∃M:List Nat,M.length=L.length/\s'.get w=some (.cells (ZO M) 3 false 0 0)/\∀x,x<L.length->M[x]? = if x<p.1\/L.length<=x+p.1 then L[L.length-1-x]? else L[x]?) (0,m) ?_
  ⟨by simp only;omega,?_,?_,?_,fun _ _ _=>rfl,aba _,fr,L,rfl,hg,fun x hx=>by simp only;rw[if_neg (by omega)]⟩
 ·rintro Lp ⟨i,j⟩ e' s' ⟨Ul,q0,q2,q3,xP,XY,YM,M,hM,gM,dF⟩ IH;simp only at Ul q2 q3 dF;by_cases hd:i<j
  ·have nC:=ZI hd (by omega);have I1:IntKind.i64.wrap ((j:Int)-1)=((j-1:Nat):Int):=by rw[wrap_i64] <;> omega
   have hi:i<L.length:=by omega
   have hj:j<L.length:=by omega
   have o1:=Y1 (l:=M) (i:=i) (by omega);have o2:=Y1 (l:=M) (i:=j) (by omega);have y1:=Xw (l:=M) (i:=i) (gt M j) (by omega);have y2:=Xw (l:=M.set i (gt M j)) (i:=j) (gt M i) (by rw[afi];omega);have hws:w<s'.next:=by omega
   have f1:∀q,(s'.next+q=w)=False:=fun q=>by simp;omega
   have f2:∀q,(w=s'.next+q)=False:=fun q=>by simp;omega
   simp only[go_sem,Ly,q0,q2,q3,Z8,hd,hi,hj,gM,o1,o2,y1,y2,ad4,ae3,nC,I1,f1,f2];have gj:M[j]? = some (gt M j):=by rw[ZJ (by omega)];exact aaa _
   have gi:M[i]? = some (gt M i):=by rw[ZJ (by omega)];exact aaa _
   have mj:=dF j hj;have mi:=dF i hi;rw[if_neg (by omega)] at mj mi;refine IH (i+1,j-1) _ _ (by simp only;omega) ⟨by simp only;omega,?_,?_,?_,fun k h1 h2=>?_,?_,?_,(M.set i (gt M j)).set j (gt M i),by simp[hM],?_,fun x hx=>?_⟩
   ·simp only[go_sem,q0]
   ·simp only[go_sem]
   ·simp only[go_sem]
   ·rw[Z7,if_neg h2.symm,Z7,if_neg h2.symm,Z0];exact xP k h1 h2
   ·simp only[Z9,Z_];omega
   ·repeat first|exact YM|apply Fr.new|apply Fr.put|apply Fr.upto
    all_goals try simp only[Z9,Z',Z_]
    all_goals omega
   ·rw[Z7,if_pos rfl]
   ·simp only;rw[List.getElem?_set,List.getElem?_set];by_cases e1:j=x
    ·subst e1;rw[if_pos rfl,if_pos (by rw[afi];omega),if_pos (by omega),show L.length-1-j=i by omega,<-mi,gi]
    ·rw[if_neg e1];by_cases e2:i=x
     ·subst e2;rw[if_pos rfl,if_pos (by omega),if_pos (by omega),show L.length-1-i=j by omega,<-mj,gj]
     ·rw[if_neg e2,dF x hx];by_cases e3:x<i\/L.length<=x+i
      ·rw[if_pos e3,if_pos (by omega)]
      ·rw[if_neg e3,if_neg (by omega)]
  ·simp only[go_sem,Ly,q2,q3,Z8,hd];have hMe:M=L.reverse:=by
    refine List.ext_getElem? fun x=>?_
    by_cases hx:x<L.length
    ·rw[List.getElem?_reverse hx,dF x hx];by_cases e3:x<i\/L.length<=x+i
     ·rw[if_pos e3]
     ·rw[if_neg e3,show L.length-1-x=x by omega]
    ·rw[afz (by omega),afz (by rw[List.length_reverse];omega)]
   rw[<-hMe];exact⟨_,rfl,gM,xP,XY,YM⟩
 all_goals simp only[go_sem]
 all_goals rfl
theorem nt (args:List AV)(s:St):YX U (Zv U 149 args) 149 args s=WW U 149 args s:=(Zu U 149 args s).symm
theorem nA (args:List AV)(s:St):YX U (Zv U 86 args) 86 args s=WW U 86 args s:=(Zu U 86 args s).symm
theorem da (s:St):∃v,WW U 149 [.ZR] s=some (v,s):=by
 suffices TK:∃v,go U (XZ U []) [] wN (ZM 0 [.ZR] .nil) s=some (v,s) by
  obtain⟨v,h1⟩:=TK;exact⟨v,Y3 dG (by kernel_rfl) h1⟩
 have S6:IntKind.i64.wrap ((0:Int)-1) = -1:=rfl;have hd:decide ((0:Int) < -1)=false:=rfl;simp only[go_sem,wN,S6];rw[Rd];simp only[go_sem,Ly,S6,hd];exact⟨_,rfl⟩
theorem Fj (T:List Xs):∀(f k:Nat),(Tb T f k).length<=f
 |0,k=>by simp[Tb]
 |f+1,0=>by simp[Tb]
 |f+1,k+1=>by
  rw[Tb]
  cases T[k+1]? with
  |none=>simp
  |some t =>
   have:=Fj T f t.2.1;simp only[aeW,aff];omega
def Dh (s:St)(N:Nat)(L:List Nat)(v:AV):Prop:=(v=.ZR/\L=[])\/∃w cap,v=.sl w 0 L.length cap 1/\s.get w=some (.cells (ZO L) 3 false 0 0)/\N<=w/\w<s.next/\L≠[]
structure qG {G:Type}(a b:ZN)(y:Nat->Nat->Bool)(CI:G->St->Prop)(fp:G->Nat->Prop)(TA:G->Nat->Nat->G->Prop)(g:G)(s:St)(pv ev:AV)(s':St)(g':G):Prop where
 c_:Nx s' s.next 164 (Yr (Zn a.fa b.fa) y).1.length (WT b.fa.n (Yt (Yr (Zn a.fa b.fa) y).1)) pv
 ends:Dh s' s.next (TF (Yr (Zn a.fa b.fa) y)) ev
 aeD:(Yr (Zn a.fa b.fa) y).2=none->Rv TA g ((Yt (Yr (Zn a.fa b.fa) y).1).flatMap fun c=>G6 c (2^a.lines.toNat)) g'
 ci:CI g' s'
 same:∀j,j<s.next->¬fp g j->s'.get j=s.get j
 next:s.next<=s'.next
 aeE:∀j,fp g' j->fp g j\/s.next<=j
 own:∀j,RN pv j->¬fp g' j
 fr:Fr s'
theorem dB {a b:ZN}(ha:a.ok)(hb:b.ok)(VD:a.lines=b.lines){fn:AV}{s:St}{G:Type}{CI:G->St->Prop}{fp:G->Nat->Prop}{Tv:Nat->Nat->Prop}{y:Nat->Nat->Bool}{TA:G->Nat->Nat->G->Prop}
  (Y:dD fn b.fa.n s.next G CI fp Tv y TA)(PD:∀c x,c<(Zn a.fa b.fa).n->x<2^a.lines.toNat->Tv c x){g:G}(DW:CI g s)(fr:Fr s) :
  ∃pv ev s' g',WW U 86 [YP a,YP b,fn] s=some (.X' [pv,ev],s')/\qG a b y CI fp TA g s pv ev s' g':=by
 suffices TK:∃x,go U (XZ U [.tmp 6,.tmp 7]) [] kD (ZM 0 [YP a,YP b,fn] .nil) s=some x/\∃pv ev g',x.1=.X' [pv,ev]/\qG a b y CI fp TA g s pv ev x.2 g' by
  obtain⟨x,h1,pv,ev,g',h2,h3⟩:=TK;exact⟨pv,ev,x.2,g',by rw[<-h2];exact Y3 ab0 (by kernel_rfl) h1,h3⟩
 have hP:=Ot ha.VK hb.VK (by show 2^a.lines.toNat=2^b.lines.toNat;rw[VD]);have hnn:(Zn a.fa b.fa).n<=262144:=Nat.mul_le_mul ha.few hb.few;have hV:=U4 hP y;have hVl:=hV.inv.len;have ab1:=Y.lt g s DW;have nn:=ZT a.YC (a.next.map ZX);have nf:=ZT a.Yx (a.Z4.map ZY);have cn:=ZS a.YC (a.next.map ZX);have cf:=ZS a.Yx (a.Z4.map ZY);have HC:=ZT b.YC (b.next.map ZX);have HB:=ZT b.Yx (b.Z4.map ZY);have HA:=ZS b.YC (b.next.map ZX);have Hz:=ZS b.Yx (b.Z4.map ZY);have hz:Zc b.fa.n 0=[.int .i64 0,.int .i64 0]:=by simp[Zc]
 have up:=fun (S:St) (m:Nat) (h:S.get m=some (.map [] false))=>Iw (m:=m) (k:=b.fa.n) (ks:=[]) (c:=0) h (by simp)
 rw[hz] at up;rw[ZB a,ZB b];unfold XK YK;simp only[go_sem,kD,nn,nf,cn,cf,HC,HB,HA,Hz,up,aeX];obtain⟨S,hS⟩:∃S,S=((((((s.new (.cells [.int .i64 a.lines,ZP a.YC (a.next.map ZX),ZP a.Yx (a.Z4.map ZY)] 42 false 0 0)).new (.cells [.int .i64 b.lines,ZP b.YC (b.next.map ZX),ZP b.Yx (b.Z4.map ZY)] 42 false 0 0)).new (.map [] false)).put (s.next+2) (.map (VA b.fa.n (fun _=>.bool true) [0] 0) false)).new (.cells [.int .i64 0,.int .i64 0] 164 false 0 0)).new (.cells [.int .i64 (-1),.int .i64 0] 231 false 0 0)):=⟨_,rfl⟩;rw[<-hS];have rN:S.next=s.next+5:=by rw[hS];simp only[Z',Z9]
 have kS:∀j,j<s.next->S.get j=s.get j:=fun j h1=>by rw[hS];simp only[ZZ,Z',Z9,Z7];rw[if_neg (by omega),if_neg (by omega),if_neg (by omega),if_neg (by omega),if_neg (by omega),if_neg (by omega)]
 have u0:S.get s.next=some (.cells [.int .i64 a.lines,ZP a.YC (a.next.map ZX),ZP a.Yx (a.Z4.map ZY)] 42 false 0 0):=by rw[hS];simp only[ZZ,Z',Z9,Z7];rw[if_neg (by omega),if_neg (by omega),if_neg (by omega),if_neg (by omega),if_neg (by omega)];exact if_pos trivial
 have u1:S.get (s.next+1)=some (.cells [.int .i64 b.lines,ZP b.YC (b.next.map ZX),ZP b.Yx (b.Z4.map ZY)] 42 false 0 0):=by rw[hS];simp only[ZZ,Z',Z9,Z7];rw[if_neg (by omega),if_neg (by omega),if_neg (by omega),if_neg (by omega)];exact if_pos trivial
 have u2:S.get (s.next+2)=some (.map (VA b.fa.n (fun _=>.bool true) [0] 0) false):=by rw[hS];simp only[ZZ,Z',Z9,Z7];rw[if_neg (by omega),if_neg (by omega)];exact if_pos trivial
 have u3:S.get (s.next+3)=some (.cells [.int .i64 0,.int .i64 0] 164 false 0 0):=by rw[hS];simp only[ZZ,Z',Z9,Z7];rw[if_neg (by omega)];exact if_pos trivial
 have u4:S.get (s.next+4)=some (.cells [.int .i64 (-1),.int .i64 0] 231 false 0 0):=by rw[hS];simp only[ZZ,Z',Z9,Z7];exact if_pos trivial
 have He:Fr S:=by
  rw[hS]
  repeat first|exact fr|apply Fr.new|apply Fr.put|apply Fr.upto
  all_goals try simp only[Z9,Z',Z_]
  all_goals omega
 have qF:∀q,¬fp g (s.next+q):=fun q h=>by have:=ab1 _ h;omega
 have V:Jz S s.next a b (fp g) s.next (s.next+1) (s.next+2) (s.next+4) [(0,0,0)] (.sl (s.next+3) 0 1 (some 1) 2) (.sl (s.next+4) 0 1 (some 1) 2):=by
  refine⟨u0,u1,u2,⟨s.next+3,some 1,rfl,.inr rfl,?_,rfl,by omega,by omega⟩,⟨s.next+4,some 1,rfl,.inr rfl,u4,rfl,by omega,by omega⟩,by omega,⟨qF 0,qF 1,qF 2,qF 4⟩,fun j hj=>?_,fun j hj=>?_,by omega⟩
  ·rw[u3];simp[WT,Yt,hz]
  ·rw[Tn] at hj;subst hj;exact⟨qF 3,by omega⟩
  ·rw[Tn] at hj;subst hj;exact qF 4
 have kC:CI g S:=Y.keep g s S DW (by omega) fun j h1 _=>kS j h1
 refine c9 (ZV:=fun (o:Option (AV×St))=>∃x,o=some x/\∃pv ev g',x.1=.X' [pv,ev]/\qG a b y CI fp TA g s pv ev x.2 g') ha hb VD Y PD ?_ ?_ ?_ ?_ ?_ ?_ ?_ V kC He (by omega) ?_ ?_
 case refine_8 =>
  intro VP e2 s2 qD c8 pt2 g2 DU L0 p9 G5 V2 Jh Fi WC NA Ku TC;have DU:Env.get e2 11=.int .i64 (-1):=by rw[DU];simp only[go_sem]
  have L0:Env.get e2 12=.ZR:=by rw[L0];simp only[go_sem]
  have hd:decide ((-1:Int)>0)=false:=rfl;obtain⟨v,h178⟩:=da s2;simp only[go_sem];rw[Rd];simp only[go_sem,OF,DU,L0,p9,hd,nt,h178];refine⟨_,rfl,qD,.ZR,g2,rfl,⟨V2.hp,.inl ⟨rfl,by unfold TF;rw[VP]⟩,fun _=>Jh,Fi,fun j h1 h2=>by rw[WC j h1 h2,kS j h1],afG (by omega:s.next<=S.next) NA,Ku,fun j hj=>(V2.fp j hj).1,TC⟩⟩
 case refine_9 =>
  intro k z hkz e2 s2 qD c8 pt2 w g2 p9 G5 DU L0 hw nC I1 qC V2 Fi WC NA Ku TC;obtain⟨_,_,⟨t,ht,_⟩,_⟩:=hV.stop k z hkz;have A7:=(ae6.1 ht).1;simp only[go_sem];refine dI (ZV:=fun (o:Option (AV×St))=>∃x,o=some x/\∃pv ev g',x.1=.X' [pv,ev]/\qG a b y CI fp TA g s pv ev x.2 g') hV.inv (by omega) (L:=[z]) (cap:=some 1) A7 (.inr rfl) (by simp;omega) G5 DU L0 V2.hs hw I1 TC ?_;intro e3 s3 w3 cZ p39 ab2 ab3 aeF cY LI BL HF;generalize hL:[z]++(Tb (Yr (Zn a.fa b.fa) y).1 k k).reverse=L at *;have kB:TF (Yr (Zn a.fa b.fa) y)=L.reverse:=by
   unfold TF;rw[hkz,<-hL];simp
  have vZ:L≠[]:=by rw[<-hL];simp
  have hLl:L.length<=2^30:=by
   have h1:(Tb (Yr (Zn a.fa b.fa) y).1 k k).length<=k:=Fj _ k k;rw[<-hL];simp;omega
  obtain⟨v,s5,h178,k51,k52,k53,k54⟩:=abN (cap:=cZ) vZ hLl ab3 cY HF;have nf3:∀j,fp g2 j->j<s2.next/\j≠w:=fun j hj=>⟨Y.lt g2 s2 Fi j hj,fun e=>qC (e ▸ hj)⟩
  have k5:∀j,j<s2.next->j≠w->s5.get j=s2.get j:=fun j h1 h2=>by rw[k52 j (by omega) (by omega),LI j h1 h2]
  have nB:∀j,RN qD j->j≠w:=fun j h1=>YY (V2.hp.zy h1).2.2 hw (by decide)
  have hP5:Nx s5 s.next 164 (Yr (Zn a.fa b.fa) y).1.length (WT b.fa.n (Yt (Yr (Zn a.fa b.fa) y).1)) qD:=V2.hp.Ms (by omega) fun j h1 h2=>k5 j h1 (nB j h2)
  have ab4:CI g2 s5:=Y.keep g2 s2 s5 Fi (by omega) fun j h1 h2=>k5 j h1 (by
   rcases h2 with h2|h2
   ·exact (nf3 j h2).2
   ·omega)
  simp only[go_sem,ab2,p39,p9,nt,h178];refine⟨_,rfl,qD,_,g2,rfl,⟨hP5,.inr ⟨w3,cZ,by rw[kB,List.length_reverse],by rw[kB];exact k51,by omega,Nat.lt_of_lt_of_le cY k53,by rw[kB];exact fun h=>vZ (List.reverse_eq_nil_iff.1 h)⟩,fun h=>(by rw[hkz] at h;cases h),ab4,fun j h1 h2=>?_,afG (afG (afG (by omega:s.next<=S.next) NA) BL) k53,Ku,fun j hj=>(V2.fp j hj).1,k54⟩⟩;exact (k5 j (by omega) (by omega)).trans (by rw[WC j h1 h2,kS j h1])
 all_goals simp only[go_sem]
 all_goals rfl
end Go.Am
namespace Go.Am
open Go
variable [Z3]
theorem EE {A:Fa}(hA:A.ok):(Yr A fun _ _=>true).2=none:=by
 have h:=U4 hA fun _ _=>true
 cases e:(Yr A fun _ _=>true).2 with
 |none=>rfl
 |some z =>
  obtain⟨k,x⟩:=z;obtain⟨_,_,⟨t,_,h2⟩,_⟩:=h.stop k x e
  cases h2
def Rf (a b:ZN):List Nat:=Yt (Yr (Zn a.fa b.fa) fun _ _=>true).1
structure AB (a b:ZN)(T:List Nat):Prop where
 pos:0<T.length
 nd:T.Nodup
 lt:∀c∈T,c<(Zn a.fa b.fa).n
 cl:∀c∈T,∀x,x<2^a.lines.toNat->(Zn a.fa b.fa).nx c x∈T
 hd:T[0]? = some 0
theorem Qw {a b:ZN}(ha:a.ok)(hb:b.ok)(VD:a.lines=b.lines):(Zn a.fa b.fa).ok:=Ot ha.VK hb.VK (by show 2^a.lines.toNat=2^b.lines.toNat;rw[VD])
theorem Cv {a b:ZN}(ha:a.ok)(hb:b.ok)(VD:a.lines=b.lines){y:Nat->Nat->Bool}(hn:(Yr (Zn a.fa b.fa) y).2=none):AB a b (Yt (Yr (Zn a.fa b.fa) y).1):=by
 have h:=U4 (Qw ha hb VD) y;refine⟨by rw[Vo];exact h.inv.pos,h.inv.nd,fun c hc=>?_,fun c hc x hx=>?_,?_⟩
 ·obtain⟨t,ht,rfl⟩:=afe.1 hc;exact h.inv.lt t ht
 ·obtain⟨t,ht,rfl⟩:=afe.1 hc;obtain⟨k,hk,e⟩:=ae8.1 ht;exact (h.go hn k t (ae5 _) (by rw[aaa hk,e]) x hx).2
 ·obtain⟨R,hR⟩:=h.pre;rw[hR];rfl
theorem KC {a b:ZN}(ha:a.ok)(hb:b.ok)(VD:a.lines=b.lines):AB a b (Rf a b):=Cv ha hb VD (EE (Qw ha hb VD))
theorem AB.len {a b:ZN}{T:List Nat}(h:AB a b T):T.length<=a.fa.n*b.fa.n:=WE (κ:=id) (by rw[List.map_id];exact h.nd) h.lt
end Go.Am
namespace Go.Am
open Go
variable [Z3]
set_option maxRecDepth 100000
set_option maxHeartbeats 8000000
end Go.Am
