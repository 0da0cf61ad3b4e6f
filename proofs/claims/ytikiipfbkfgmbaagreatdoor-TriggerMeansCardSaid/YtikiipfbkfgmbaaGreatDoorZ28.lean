/- A part of the proof of a statement of this seat: the machine on which the program is read, and what it computes; for every input. -/
import Derived.Test.YtikiipfbkfgmbaaGreatDoorZ27
set_option linter.all false
namespace Go.Am
open Go
variable [Z4]
set_option maxRecDepth 100000
set_option maxHeartbeats 8000000
section
variable {nl:Bool}{l:List Int}(hl:Hb l){t:Nat}(ht:t+1=l.length){k:XV}{a b mi ma:Int}{pat:XV}{knl:Bool}{kids:List Z5}
include hl ht
theorem ane (S3:(Z5.mk k a b mi ma pat knl kids).wf)(ih:∀x∈kids,ZE U 55 [Zw x,ZG nl (ints l)]=some (.bool (atR l t x))){ch nw bg:Bool}{R:Nat}(hR:R<=t){e:Env}{s:St}
  (g1:Env.get e 1=ZG nl (ints l))(g2:Env.get e 2=.ptr 8 0)(g5:Env.get e 5=.int .i64 (t:Int))(g6:Env.get e 6=.int .i64 (R:Int))(g7:Env.get e 7=.bool bg)(g9:Env.get e 9=.bool nw)(fk:Env.get e 11=.bool ch)(nx:8<s.next)
  (hs:s.get 8=some (.cells [.str k,.int .i64 a,.int .i64 b,.int .i64 mi,.int .i64 ma,.str pat,ZG knl (WW kids)] 39 false 0 0)) :
  go U (Mt U [.tmp 4]) [] SS e s=some (.bool (m8 l t b mi ma pat kids ch nw bg R (ZF k))):=by
 rw[Z5.wf] at S3;obtain⟨⟨od,ha1⟩,⟨Er,UP⟩,⟨oq,Be⟩,⟨hM0,hM1⟩,hp,hpo,Cn,eT,aga,ZC,Bi,fY,nk⟩:=S3;have hlen:=hl.1;have eV:t<l.length:=by omega
 have w1:IntKind.i64.wrap ((R:Int)+1)=(R:Int)+1:=by rw[wrap_i64] <;> omega
 have w2:0<t->IntKind.i64.wrap ((t:Int)-1)=((t-1:Nat):Int):=fun h=>by rw[wrap_i64] <;> omega
 have w3:IntKind.i64.wrap ((t:Int)-(R:Int))=((t-R:Nat):Int):=by rw[wrap_i64] <;> omega
 have q1:=aoG (Xg l (t:Int)) b (vh hl _) Er (by omega);have q2:=aoG (Xg l ((t-1:Nat):Int)) b (vh hl _) Er (by omega);have m1:=anD pat (Xg l (t:Int)) (vh hl _) hp hpo;have m2:=anD pat (Xg l ((t-1:Nat):Int)) (vh hl _) hp hpo;have x1:=Ys (nl:=nl) eV;have x2:=Ys (nl:=nl) (l:=l) (t:=t-1) (by omega);obtain⟨h0,h1,h2,h3,h4,h5,h6,h7,h8,h9,h10,h11,h12,h13,h14⟩:=UN k;generalize ZF k=dd at *
 cases dd
 all_goals simp only[reduceCtorEq,decide_true,decide_false] at h1 h2 h3 h4 h5 h6 h7 h8 h9 h10 h11 h12 h13 h14
 case high=>simp only[go_sem,SS,V0,S5,S2,amq,al9,g2,g9,hs,h1];rfl
 case low=>simp only[go_sem,SS,V0,S5,S2,amq,al9,g2,g9,hs,h1,h2];rfl
 case Iz=>cases ch <;> (simp only[go_sem,SS,V0,S5,S2,amq,al9,g2,g9,fk,hs,h1,h2,h3];rfl)
 case fall=>cases ch <;> (simp only[go_sem,SS,V0,S5,S2,amq,al9,g2,g9,fk,hs,h1,h2,h3,h4];rfl)
 case Vj =>
  cases ch
  ·simp only[go_sem,SS,V0,S5,S2,amq,al9,g2,fk,hs,h1,h2,h3,h4,h5,h6,h7];rfl
  cases nw
  ·cases bg
   ·simp only[go_sem,SS,V0,S5,S2,amq,al9,g2,g6,g7,g9,fk,hs,h1,h2,h3,h4,h5,h6,h7];rfl
   ·cases d1:decide (mi<=(R:Int)) <;> (simp only[go_sem,SS,V0,S5,S2,amq,al9,g2,g6,g7,g9,fk,hs,h1,h2,h3,h4,h5,h6,h7,ge_iff_le,d1] <;> first|rfl|(simp only[m8,d1];done)|(simp only[m8,d1];rfl))
  ·simp only[go_sem,SS,V0,S5,S2,amq,al9,g2,g9,fk,hs,h1,h2,h3,h4,h5,h6,h7];rfl
 case gap =>
  cases ch
  ·simp only[go_sem,SS,V0,S5,S2,amq,al9,g2,fk,hs,h1,h2,h3,h4,h5,h6,h7,h8];rfl
  cases nw
  ·simp only[go_sem,SS,V0,S5,S2,amq,al9,g2,g9,fk,hs,h1,h2,h3,h4,h5,h6,h7,h8];rfl
  ·cases bg
   ·simp only[go_sem,SS,V0,S5,S2,amq,al9,g2,g6,g7,g9,fk,hs,h1,h2,h3,h4,h5,h6,h7,h8];rfl
   ·cases d1:decide (mi<=(R:Int)) <;> (simp only[go_sem,SS,V0,S5,S2,amq,al9,g2,g6,g7,g9,fk,hs,h1,h2,h3,h4,h5,h6,h7,h8,ge_iff_le,d1] <;> first|rfl|(simp only[m8,d1];done)|(simp only[m8,d1];rfl))
 case idle=>cases ch <;> (simp only[go_sem,SS,V0,S5,S2,amq,al9,g2,g6,fk,hs,h1,h2,h3,h4,h5,h6,h7,h8,h9,w1];rfl)
 case setup =>
  have hm:=Bi rfl;have d1:decide (mi>=1)=true:=decide_eq_true hm;obtain⟨nr,aV⟩:∃nr,nr=(bif ch then true else bg&&decide ((R:Int)+1<=mi)):=⟨_,rfl⟩;rw[show m8 l t b mi ma pat kids ch nw bg R Kd.setup=((decide (0<t)&&(WR (Xg l (t:Int)) b&&!WR (Xg l ((t-1:Nat):Int)) b))&&nr) by rw[aV];rfl];rcases Nat.eq_zero_or_pos t with h0|Aq
  ·subst h0;have hz:decide (((0:Nat):Int)>0)=false:=by decide
   rw[show decide (0<0)=false by rfl]
   cases ch
   ·cases bg <;> (simp only[go_sem,SS,V0,S5,S2,amq,al9,g1,g2,g5,g6,g7,fk,hs,h1,h2,h3,h4,h5,h6,h7,h8,h9,h10,w1,d1,hz] <;> rfl)
   ·simp only[go_sem,SS,V0,S5,S2,amq,al9,g1,g2,g5,g6,g7,fk,hs,h1,h2,h3,h4,h5,h6,h7,h8,h9,h10,w1,d1,hz] <;> rfl
  ·have hz:decide ((t:Int)>0)=true:=by simp;omega
   rw[show decide (0<t)=true from decide_eq_true Aq];have w2:=w2 Aq
   cases y1:WR (Xg l (t:Int)) b
   ·rw[y1] at q1
    cases ch
    ·cases bg <;> (simp only[go_sem,SS,V0,S5,S2,amq,al9,g1,g2,g5,g6,g7,fk,hs,h1,h2,h3,h4,h5,h6,h7,h8,h9,h10,w1,w2,x1,q1,d1,hz] <;> rfl)
    ·simp only[go_sem,SS,V0,S5,S2,amq,al9,g1,g2,g5,g6,g7,fk,hs,h1,h2,h3,h4,h5,h6,h7,h8,h9,h10,w1,w2,x1,q1,d1,hz] <;> rfl
   ·rw[y1] at q1
    cases y2:WR (Xg l ((t-1:Nat):Int)) b <;> rw[y2] at q2 <;> (
     cases ch
     ·cases bg <;> (subst aV;simp only[go_sem,SS,V0,S5,S2,amq,al9,g1,g2,g5,g6,g7,fk,hs,h1,h2,h3,h4,h5,h6,h7,h8,h9,h10,w1,w2,x1,x2,q1,q2,d1,hz] <;> rfl)
     ·subst aV;simp only[go_sem,SS,V0,S5,S2,amq,al9,g1,g2,g5,g6,g7,fk,hs,h1,h2,h3,h4,h5,h6,h7,h8,h9,h10,w1,w2,x1,x2,q1,q2,d1,hz] <;> rfl)
 case Uf =>
  obtain⟨p0,eB⟩:∃p0,p0=(ch&&!nw&&bg):=⟨_,rfl⟩;have key:∀e s,Env.get e 1=ZG nl (ints l)->Env.get e 2=.ptr 8 0->Env.get e 5=.int .i64 (t:Int)->Env.get e 14=.bool p0->Env.get e 15=.int .i64 ((t-R:Nat):Int)->8<s.next->s.get 8=some (.cells [.str k,.int .i64 a,.int .i64 b,.int .i64 mi,.int .i64 ma,.str pat,ZG knl (WW kids)] 39 false 0 0)->∀Q,
    SD U (Mt U [.tmp 4]) (.bk 3::.sq ((RC.ops [⟨some 232,none,none,false,.O9 (.t 14)⟩,⟨some 4,none,none,false,.O9 (.t 232)⟩]).seq RC.ret)::Q) gf e s=some (.bool (low l b (t-R) R p0)):=by
   clear g1 g2 g5 g6 g7 g9 fk nx hs e s;intro e s g1 g2 g5 eY vQ nx hs Q;refine YH (σ:=Nat×Bool) (fun x=>t-x.1) (fun x=>some (AV.bool (low l b x.1 (t-x.1) x.2)))
    (fun x e s=>x.1<=t/\Env.get e 1=ZG nl (ints l)/\Env.get e 2=.ptr 8 0/\Env.get e 5=.int .i64 (t:Int)/\Env.get e 14=.bool x.2/\Env.get e 15=.int .i64 (x.1:Int)/\8<s.next /\
     s.get 8=some (.cells [.str k,.int .i64 a,.int .i64 b,.int .i64 mi,.int .i64 ma,.str pat,ZG knl (WW kids)] 39 false 0 0)) (t-R,p0) ?_ (by rw[show t-(t-R)=R by omega]) ⟨by simp only;omega,g1,g2,g5,eY,vQ,nx,hs⟩
   clear g1 g2 g5 eY vQ nx hs e s;rintro L ⟨u,p⟩ e s ⟨OC,g1,g2,g5,eY,vQ,nx,hs⟩ IH;simp only at OC eY vQ IH ⊢;by_cases hd:u<t
   ·have hw:IntKind.i64.wrap ((u:Int)+1)=((u+1:Nat):Int):=by rw[wrap_i64] <;> omega
    cases p with
    |false =>
     rw[Qv];simp only[go_sem,gf,g1,g2,g5,eY,vQ,hs,Z8,hd,hw]
    |true =>
     have q3:=aoG (Xg l (u:Int)) b (vh hl _) Er (by omega);have e0:=PI (Xg l (u:Int)) b;rw[show t-u=(t-(u+1))+1 by omega,low,cond_true];simp only[go_sem,gf,g1,g2,g5,eY,vQ,hs,Z8,hd,hw,Ys (nl:=nl) (show u<l.length by omega),q3,e0];refine IH (u+1,Zy (Xg l (u:Int)) b==0) _ _ (by simp only;omega) ⟨by simp only;omega,?_,?_,?_,?_,?_,by rw[Z6];omega,by rw[ZT];exact hs⟩ <;> simp only[go_sem,g1,g2,g5,eY,vQ,hw]
   ·have:u=t:=by omega
    subst this;rw[Nat.sub_self,low];simp only[go_sem,gf,g1,g2,g5,eY,vQ,hs,Z8,alh]
  rw[show m8 l t b mi ma pat kids ch nw bg R Kd.Uf=low l b (t-R) R p0 by rw[eB];rfl]
  cases ch <;> cases nw <;> cases bg <;> (subst eB;simp only[go_sem,SS,V0,S5,S2,amq,al9,g1,g2,g5,g6,g7,g9,fk,hs,h1,h2,h3,h4,h5,h6,h7,h8,h9,h10,h11,w3];refine key _ _ ?_ ?_ ?_ ?_ ?_ nx hs _ <;> simp only[go_sem,g1,g2,g5,w3] <;> rfl)
 case pattern =>
  cases y1:yW (Xg l (t:Int)) 0 pat <;> rw[y1] at m1 <;> (simp only[go_sem,SS,V0,S5,S2,amq,al9,g1,g2,g5,hs,h1,h2,h3,h4,h5,h6,h7,h8,h9,h10,h11,x1,m1];first|rfl|(simp only[m8,y1];done)|(simp only[m8,y1];rfl))
 case enter =>
  rcases Nat.eq_zero_or_pos t with h0|Aq
  ·subst h0;have hz:decide (((0:Nat):Int)>0)=false:=by decide
   cases y1:yW (Xg l ((0:Nat):Int)) 0 pat <;> rw[y1] at m1 <;> (simp only[go_sem,SS,V0,S5,S2,amq,al9,g1,g2,g5,hs,h1,h2,h3,h4,h5,h6,h7,h8,h9,h10,h11,x1,m1,hz] <;> first|rfl|(simp only[m8,y1];done)|(simp only[m8,y1];rfl))
  ·have hz:decide ((t:Int)>0)=true:=by simp;omega
   have f_:decide (0<t)=true:=decide_eq_true Aq;have w2:=w2 Aq
   cases y1:yW (Xg l (t:Int)) 0 pat <;> cases y2:yW (Xg l ((t-1:Nat):Int)) 0 pat <;> rw[y1] at m1 <;> rw[y2] at m2 <;> (simp only[go_sem,SS,V0,S5,S2,amq,al9,g1,g2,g5,hs,h1,h2,h3,h4,h5,h6,h7,h8,h9,h10,h11,x1,x2,m1,m2,w2,hz] <;> first|rfl|(simp only[m8,y1,y2,f_];done)|(simp only[m8,y1,y2,f_];rfl))
 case other=>cases Cn
 all_goals
  have key:∀e s,Env.get e 1=ZG nl (ints l)->Env.get e 2=.ptr 8 0->Env.get e 17=.bool true->Env.get e 18=.bool false->Env.get e 265=ZG knl (WW kids)->Env.get e 266=.int .i64 kids.length->Env.get e 267=.int .i64 ((0:Nat):Int)->8<s.next->s.get 8=some (.cells [.str k,.int .i64 a,.int .i64 b,.int .i64 mi,.int .i64 ma,.str pat,ZG knl (WW kids)] 39 false 0 0)->∀(ks:List K) (r:Option AV),
    (∀e' s',Env.get e' 2=.ptr 8 0->Env.get e' 17=.bool (kids.all (atR l t))->Env.get e' 18=.bool (kids.any (atR l t))->s'.get 8=some (.cells [.str k,.int .i64 a,.int .i64 b,.int .i64 mi,.int .i64 ma,.str pat,ZG knl (WW kids)] 39 false 0 0)->goN U (Mt U [.tmp 4]) ks e' s'=r) ->
    SD U (Mt U [.tmp 4]) (.bk 5::ks) aoB e s=r:=by
   clear g1 g2 g5 g6 g7 g9 fk nx hs e s;intro e s g1 g2 UY bV ao' apa aoP nx hs ks r hk;refine YP (σ:=Nat×Bool×Bool) (ZB:=fun (x:Option AV)=>x=r) (fun x=>kids.length-x.1) (fun x e s=>x.1<=kids.length/\Env.get e 1=ZG nl (ints l)/\Env.get e 2=.ptr 8 0/\Env.get e 17=.bool x.2.1/\Env.get e 18=.bool x.2.2/\Env.get e 265=ZG knl (WW kids)/\Env.get e 266=.int .i64 kids.length/\Env.get e 267=.int .i64 (x.1:Int)/\8<s.next /\
    s.get 8=some (.cells [.str k,.int .i64 a,.int .i64 b,.int .i64 mi,.int .i64 ma,.str pat,ZG knl (WW kids)] 39 false 0 0)/\(x.2.1&&(kids.drop x.1).all (atR l t))=kids.all (atR l t)/\(x.2.2||(kids.drop x.1).any (atR l t))=kids.any (atR l t)) (0,true,false) ?_ ⟨aic _,g1,g2,UY,bV,ao',apa,aoP,nx,hs,by simp,by simp⟩
   clear g1 g2 UY bV ao' apa aoP nx hs e s;rintro L ⟨i,A,B⟩ e s ⟨hi,g1,g2,UY,bV,ao',apa,aoP,nx,hs,hA,hB⟩ IH;simp only at hi UY bV aoP hA hB IH;by_cases hd:i<kids.length
   ·have hx:(WW kids)[i]? = some (Zw kids[i]):=by rw[Vb,aaa hd];rfl
    have hw:=ZN hd (by omega);have hc:=ih kids[i] (adm hd);rw[YR (XL hd)] at ao';rw[ZV] at hx hc;simp only[Z5.cells] at hx hc;rw[abc hd,List.all_cons] at hA;rw[abc hd,List.any_cons] at hB;have ne1:(s.next=8)=False:=by simp;omega
    have ne2:(8=s.next)=False:=by simp;omega
    have nx1:8<s.next+1:=by omega
    obtain⟨A',hA'⟩:∃A',A'=(A&&atR l t kids[i]):=⟨_,rfl⟩;obtain⟨B',hB'⟩:∃B',B'=(B||atR l t kids[i]):=⟨_,rfl⟩;rw[<-Bool.and_assoc,<-hA'] at hA;rw[<-Bool.or_assoc,<-hB'] at hB
    cases hv:atR l t kids[i] <;> rw[hv] at hc hA' hB' <;> cases A <;> cases B <;>
     (simp only[go_sem,aoB,g1,g2,UY,bV,ao',apa,aoP,Z8,hd,hx,hc,hw,ne1,ne2,ZL,Zu]
      refine IH (i+1,A',B') _ _ (by simp only;omega) ⟨by simp only;omega,?_,?_,?_,?_,?_,?_,?_,?_,?_,hA,hB⟩
      all_goals simp only[go_sem,g1,g2,UY,bV,ao',apa,aoP,hw,YR (XL hd),hs,ne1,ne2,nx,nx1]
      all_goals first|(rw[hA'];rfl)|(rw[hB'];rfl)|rfl)
   ·have:i=kids.length:=by omega
    subst this;rw[alO,List.all_nil,Bool.and_true] at hA;rw[alO,List.any_nil,Bool.or_false] at hB;subst hA hB;simp only[go_sem,aoB,apa,aoP,Z8,alh];refine hk _ _ ?_ ?_ ?_ hs <;> simp only[go_sem,g2,UY,bV]
  simp only[go_sem,SS,V0,S5,S2,amq,al9,g1,g2,hs,h1,h2,h3,h4,h5,h6,h7,h8,h9,h10,h11,ZI,Yd];refine key _ _ ?_ ?_ ?_ ?_ ?_ ?_ ?_ nx hs _ _ ?_
  case refine_8 =>
   intro e' s' q2 q17 q18 qs
   cases y1:kids.all (atR l t) <;> cases y2:kids.any (atR l t) <;> rw[y1] at q17 <;> rw[y2] at q18 <;>
    (simp only[go_sem,q2,q17,q18,qs,h12,h13,h14,V0,S5,amq,al9] <;> first|rfl|(simp only[m8,y1,y2];done)|(simp only[m8,y1,y2];rfl))
  all_goals first
   |(simp only[go_sem,g1,g2];done)
   |(simp only[go_sem,g1,g2];rfl)
end
theorem c55 (nl:Bool)(l:List Int)(hl:Hb l)(t:Nat)(ht:t+1=l.length):∀c:Z5,c.wf->ZE U 55 [Zw c,ZG nl (ints l)]=some (.bool (atR l t c)):=by
 intro c
 induction c using Z5.ind with
 |h k a b mi ma pat knl kids ih =>
 intro S3;have anm:=S3;rw[Z5.wf] at S3;obtain⟨ha,-,-,-,-,-,-,-,-,-,-,-,nk⟩:=S3;have hlen:=hl.1;have w0:IntKind.i64.wrap ((l.length:Int)-1)=(t:Int):=by rw[wrap_i64] <;> omega
 have w1:IntKind.i64.wrap ((t:Int)-1)=(t:Int)-1:=by rw[wrap_i64] <;> omega
 have q1:=aoG (Xg l (t:Int)) a (vh hl _) ha.1 (by omega);have q2:=aoG (Xg l ((t-1:Nat):Int)) a (vh hl _) ha.1 (by omega);have x1:=Ys (nl:=nl) (show t<l.length by omega);have x2:=Ys (nl:=nl) (l:=l) (t:=t-1) (by omega);have hRt:(bkN l a (t-1) t 0).1<=t:=by
  cases t with
  |zero=>exact agB _
  |succ u=>rw[show u+1-1=u by omega,apl];simp only;omega
 refine ZR k55 (by kernel_rfl) (by simp[ZU,X7,still,Zt]) ?_;rw[Zw,amX l t k a b mi ma pat knl kids anm];simp only[go_sem,r55,ZI,YK,w0,w1];refine anE (k:=k) (b:=b) (mi:=mi) (ma:=ma) (pat:=pat) (kids:=ZG knl (WW kids)) hl ht ha (nl:=nl) ?_ ?_ ?_ ?_ ?_ ?_ ?_ ?_ ?_
 case refine_9 =>
  intro e s g1 g2 g5 g6 g7 nx hs;rcases Nat.eq_zero_or_pos t with h0|Aq
  ·subst h0;have hz:decide (((0:Nat):Int)>0)=false:=by decide
   simp only[go_sem,apm,V0,S5,S2,amq,al9,E4,g1,g2,g5,hs,x1,q1,hz];refine ane hl ht anm (fun x hx=>ih x hx (nk x hx)) hRt ?_ ?_ ?_ ?_ ?_ ?_ ?_ (by rw[Z6];omega) (by rw[ZT];exact hs)
   all_goals simp only[go_sem,g1,g2,g5,g6,g7]
   all_goals rfl
  ·have hz:decide ((t:Int)>0)=true:=by simp;omega
   have f_:decide (0<t)=true:=decide_eq_true Aq;have w2:IntKind.i64.wrap ((t:Int)-1)=((t-1:Nat):Int):=by rw[wrap_i64] <;> omega
   simp only[go_sem,apm,V0,S5,S2,amq,al9,E4,g1,g2,g5,hs,x1,x2,q1,q2,hz,w2];refine ane hl ht anm (fun x hx=>ih x hx (nk x hx)) hRt ?_ ?_ ?_ ?_ ?_ ?_ ?_ (by rw[Z6];omega) (by rw[ZT];exact hs)
   all_goals simp only[go_sem,g1,g2,g5,g6,g7,chT,f_,al9]
 all_goals simp only[go_sem,w0,w1]
 all_goals first|rfl|omega
end Go.Am
