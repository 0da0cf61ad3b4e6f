/- A part of the proof of a statement of this seat: the machine on which the program is read, and what it computes; for every input. -/
import Derived.Test.YtkmaeondbkpajaaGreatDoorG25
import Derived.Test.YtkmaeondbkpajaaGreatDoorG30
set_option linter.all false
namespace Go.Am
open Go
variable [ZZ]
set_option maxRecDepth 100000
set_option maxHeartbeats 8000000
theorem NJ:∀a:List Int,MU a a=true
 |[]=>rfl
 |a::x=>by rw[MU,NJ x];simp
def DB (L:Nat)(l:List Int):Prop:=l.length<=7/\∀x∈l,0<=x/\x<(2:Int)^L
structure iF (p:Prog)(A:YY)(L:Nat):Prop where
 ok:A.ok
 al:A.lines=(L:Nat)
 q18:∀l s B v,DB L l->ZF s B 3 1 l.length (ints l) v->XR U (Zw U 18 [.agg [.int .i64 p.lines,ZG true (Zr p.norm.steps)],v]) 18 [.agg [.int .i64 p.lines,ZG true (Zr p.norm.steps)],v] s=some (.XF [ZG true (ints (Yb A.fa l l.length 0 0).1),.int .i64 0],s)
 aT:∀l s B v,DB L l->ZF s B 3 1 l.length (ints l) v->XR U (Zw U 19 [.agg [.int .i64 A.lines,U6 A,Xd A],v]) 19 [.agg [.int .i64 A.lines,U6 A,Xd A],v] s=some (.XF [ZG true (ints (Yb A.fa l l.length 0 0).1),.int .i64 0],s)
 iE:∀l s B v,DB L l->ZF s B 3 1 l.length (ints l) v->XR U (Zw U 20 [.agg [.int .i64 A.lines,U6 A,Xd A],v]) 20 [.agg [.int .i64 A.lines,U6 A,Xd A],v] s=some (.XF [.int .i64 (((Yb A.fa l l.length 0 0).2:Nat):Int),.int .i64 0],s)
section
variable {p:Prog}{A:YY}{L n:Nat}(hL:L=1\/L=2)(Tz:p.lines=(L:Nat))(C:iF p A L)
include hL Tz C
theorem iD {ks:List K}{r:Option AV}{e:Env}{s:St}(H:oZ p A s){l:List Int}{v:AV}(hl:l.length<=6)(aS:∀x∈l,0<=x/\x<(2:Int)^L)(hv:ZF s 12 3 1 l.length (ints l) v){E:List ((Int×Int)×Int)}(h11:s.get 11=some (.map (Qd E) false))(hE:MI (iC A.fa) E){x6 x8 x68 x69:AV}
  (g2:Env.get e 2=.ptr 8 0)(g5:Env.get e 5=.ptr 9 0)(g6:Env.get e 6=x6)(g8:Env.get e 8=x8)(Qo:Env.get e 10=.map 11)(SB:Env.get e 12=v)(qe:Env.get e 14=ZG true (ints (Yb A.fa l l.length 0 0).1))(Gd:Env.get e 18=.int .i64 (((Yb A.fa l l.length 0 0).2:Nat):Int))(DA:Env.get e 68=x68)(Dz:Env.get e 69=x69)(yE:Env.get e 127=.int .i64 ((2^L:Nat):Int))(BQ:Env.get e 128=.int .i64 0)
  (hk:∀e' s' E',oZ p A s'->s'.get 11=some (.map (Qd E') false)->MI (iC A.fa) E'->Env.get e' 2=.ptr 8 0->Env.get e' 5=.ptr 9 0->Env.get e' 6=x6->Env.get e' 8=x8->Env.get e' 10=.map 11->Env.get e' 68=x68->Env.get e' 69=x69->goN U (Oe U [.tmp 4]) ks e' s'=r) :
  SC U (Oe U [.tmp 4]) (.bk 6::ks) MT e s=r:=by
 have af3:2^L=2\/2^L=4:=by rcases hL with rfl|rfl <;> simp
 refine YG (σ:=Nat) (Zu:=fun (x:Option AV)=>x=r) (fun k=>2^L-k) (fun k e s=>oZ p A s/\k<=2^L/\ZF s 12 3 1 l.length (ints l) v/\Env.get e 2=.ptr 8 0/\Env.get e 5=.ptr 9 0/\Env.get e 6=x6/\Env.get e 8=x8/\Env.get e 10=.map 11/\Env.get e 12=v/\Env.get e 14=ZG true (ints (Yb A.fa l l.length 0 0).1)/\Env.get e 18=.int .i64 (((Yb A.fa l l.length 0 0).2:Nat):Int)/\Env.get e 68=x68/\Env.get e 69=x69/\Env.get e 127=.int .i64 ((2^L:Nat):Int)/\Env.get e 128=.int .i64 (k:Nat) /\
  ∃E:List ((Int×Int)×Int),s.get 11=some (.map (Qd E) false)/\MI (iC A.fa) E) 0 ?_ ⟨H,aji _,hv,g2,g5,g6,g8,Qo,SB,qe,Gd,DA,Dz,yE,BQ,E,h11,hE⟩
 clear g2 g5 g6 g8 Qo SB qe Gd DA Dz yE BQ h11 hE hv H e s E;rintro Lp k e s ⟨H,hk0,hv,g2,g5,g6,g8,Qo,SB,qe,Gd,DA,Dz,yE,BQ,E,h11,hE⟩ IH;by_cases hd:k<2^L
 ·have hw:=ZE hd (by omega);have gs9:=H.g9;have SA:=H.fr;have UL:=H.nx;have af4:DB L (l++[(k:Int)]):=by
   refine⟨by simp;omega,fun y hy=>?_⟩;rcases ajX.1 hy with h|h
   ·exact aS y h
   ·rw[ajm] at h;subst h;have:((2^L:Nat):Int)=(2:Int)^L:=by push_cast;rfl
    omega
  have ne:∀a k,a<=11->(s.next+k=a)=False:=fun a k ha=>by simp;omega
  have hf1:s.get (s.next+1)=none:=SA _ (by omega);have hf5:s.get (s.next+5)=none:=SA _ (by omega);simp only[go_sem,MT,g5,SB,BQ,yE,gs9,Z9,hd,UZ iB,ne,hf1,hf5,ZW];have sN:((s.upto (s.next+13)).put (s.next+1) (.cells [] 3 false 0 0)).next=s.next+13:=by rw[Z_,ZV]
  have sG:∀j,j<s.next->((s.upto (s.next+13)).put (s.next+1) (.cells [] 3 false 0 0)).get j=s.get j:=fun j hj=>by rw[Z0,if_neg (by omega),ZH]
  have sF:Fr ((s.upto (s.next+13)).put (s.next+1) (.cells [] 3 false 0 0)):=(SA.upto (by omega)).put (by rw[ZV];omega) _;have s5:((s.upto (s.next+13)).put (s.next+1) (.cells [] 3 false 0 0)).get (s.next+5)=none:=by rw[Z0,if_neg (by omega),ZH,hf5]
  have s1':((s.upto (s.next+13)).put (s.next+1) (.cells [] 3 false 0 0)).get (s.next+1)=some (.cells [] 3 false 0 0):=by rw[Z0,if_pos rfl]
  have hvS:ZF ((s.upto (s.next+13)).put (s.next+1) (.cells [] 3 false 0 0)) 12 3 1 l.length (ints l) v:=hv.mono (by rw[sN];omega) fun j _ hj=>sG j hj
  generalize hS:(s.upto (s.next+13)).put (s.next+1) (.cells [] 3 false 0 0)=S at sN sG sF s5 s1' hvS ⊢;obtain⟨d,s1,c1,c2,c3,c4,c5,c6⟩:=iA hvS s1' (by omega) (by omega);have k9:=(c4 9 (by omega)).trans ((sG 9 (by omega)).trans gs9);have k5:=(c4 (s.next+5) (by omega)).trans s5;rw[c1];simp only[go_sem,k9,k5,g5,SB,BQ,gs9,ZH,ne];obtain⟨s3,d1,d2,d3,d4,d5⟩:=c6 (s1.put (s.next+5) (.cells [.int .i64 (k:Int)] 3 false 0 0)) (k:Int) (by rw[Z_];omega) (fun j bj hj2=>by rw[Z0,if_neg (by omega)]);rw[Z_] at d1 d2 d3;have low:∀j,j<s.next->s3.get j=s.get j:=fun j hj=>by
   rw[d4 j (by omega),Z0,if_neg (by omega),c4 j (by omega),sG j hj]
  have m9:=(low 9 (by omega)).trans gs9;have m11:=(low 11 (by omega)).trans h11;have d5':=d5 ((c5 sF).put (by omega) _);have hq:=C.q18 _ s3 _ _ af4 d3;have hr:=Fw A.fa l (k:Int) l.length 0 0 (by omega);rw[ajD] at hr;have J8:(l++[(k:Int)]).length=l.length+1:=by simp
  rw[J8,hr] at hq;have hTl:=II A.fa l l.length 0 0;have Fv:=iz 11 hE (((Yb A.fa l l.length 0 0).2:Nat):Int) (k:Int);obtain⟨E',hE',yD⟩:=iy 11 hE (((Yb A.fa l l.length 0 0).2:Nat):Int) (k:Int);have Zv:=aR A.fa (((Yb A.fa l l.length 0 0).2:Nat):Int) (k:Int);have hFr:iC A.fa (((Yb A.fa l l.length 0 0).2:Nat):Int) (k:Int)=bif A.fa.fr (Yb A.fa l l.length 0 0).2 k then 1 else 2:=by unfold iC;rw[ajD,ajD]
  generalize iC A.fa (((Yb A.fa l l.length 0 0).2:Nat):Int) (k:Int)=fv at Fv yD Zv hFr;generalize (Yb A.fa l l.length 0 0).1=T at *;generalize (Yb A.fa l l.length 0 0).2=q at *;have ix:=dF (true&&(T++(bif A.fa.fr q k then [(l.length:Int)] else [])).isEmpty) true T T (by omega);rw[NJ,ajF] at ix;have Se:=oY (nl:=true) (l:=T++(bif A.fa.fr q k then [(l.length:Int)] else [])) (k:=T.length) (by rw[ajh];omega);rw[List.take_left,ajF] at Se;have hlen:((T++(bif A.fa.fr q k then [(l.length:Int)] else [])).length:Int)=(T.length:Int)+2-fv:=by
   rw[hFr,ajh]
   cases A.fa.fr q k <;> simp <;> omega
  have hfv:fv=1\/fv=2:=by
   rw[hFr]
   cases A.fa.fr q k
   ·exact .inr rfl
   ·exact .inl rfl
  generalize T++(bif A.fa.fr q k then [(l.length:Int)] else [])=T' at *;have b1:decide ((T'.length:Int)<(T.length:Int))=false:=decide_eq_false (by omega);have b2:decide ((T'.length:Int)>(T.length:Int)+1)=false:=decide_eq_false (by omega);have w1:IntKind.i64.wrap ((T.length:Int)+1)=(T.length:Int)+1:=by rw[wrap_i64] <;> omega
  have w2:IntKind.i64.wrap (2-(T'.length:Int))=2-(T'.length:Int):=by rw[wrap_i64] <;> omega
  have w3:IntKind.i64.wrap (2-(T'.length:Int)+(T.length:Int))=fv:=by rw[wrap_i64] <;> omega
  have ne3:(s3.next=11)=False:=by simp;omega
  have ne4:(11=s3.next)=False:=by simp;omega
  have aQ:(fv != fv)=false:=by simp
  have h00:((0:Int) != 0)=false:=rfl;rw[d1];have finish:∀(Z Y:Vr) (e':Env),Env.get e' 2=.ptr 8 0->Env.get e' 5=.ptr 9 0->Env.get e' 6=x6->Env.get e' 8=x8->Env.get e' 10=.map 11->Env.get e' 12=v->Env.get e' 14=ZG true (ints T)->Env.get e' 18=.int .i64 (q:Int)->Env.get e' 68=x68->Env.get e' 69=x69->Env.get e' 127=.int .i64 ((2^L:Nat):Int)->Env.get e' 128=.int .i64 ((k+1:Nat):Int) ->
    SC U (Oe U [.tmp 4]) (.bk 6::ks) Lp e' (((s3.new Z).put s3.next Y).put 11 (.map (Qd E') false))=r:=by
   intro Z Y e' k2 k5 k6 k8 zn dD k14 k18 k68 k69 af5 af6;have hnX:((((s3.new Z).put s3.next Y).put 11 (.map (Qd E') false))).next=s3.next+1:=by rw[Z_,Z_,Z']
   have hgX:∀j,j<s.next->j≠11->((((s3.new Z).put s3.next Y).put 11 (.map (Qd E') false))).get j=s.get j:=fun j hj bj=>by
    rw[Z0,if_neg (by omega),Z0,if_neg (by omega),ZY,if_neg (by omega),low j hj]
   refine IH (k+1) _ _ (by omega) ⟨H.mono (by omega) ?_ fun j hj=>hgX j (by omega) (by omega),by omega,hv.mono (by omega) fun j h12 hj=>hgX j hj (by omega),k2,k5,k6,k8,zn,dD,k14,k18,k68,k69,af5,af6,E',by rw[Z0,if_pos rfl],hE'⟩;exact ((d5'.new _).put (by rw[Z'];omega) _).put (by rw[Z_,Z'];omega) _
  rcases Fv with Fv|Fv
  ·simp only[go_sem,m9,m11,hq,g5,SB,qe,Gd,Qo,BQ,gs9,ZH,ne,Dy,k9,ZJ,Zl,b1,b2,w1,w2,w3,Se,ix,ne3,ne4,Fv,yD,h00,hw];refine finish _ _ _ ?_ ?_ ?_ ?_ ?_ ?_ ?_ ?_ ?_ ?_ ?_ ?_ <;> simp only[go_sem,g2,g5,g6,g8,Qo,SB,qe,Gd,DA,Dz,yE,hw]
  ·simp only[go_sem,m9,m11,hq,g5,SB,qe,Gd,Qo,BQ,gs9,ZH,ne,Dy,k9,ZJ,Zl,b1,b2,w1,w2,w3,Se,ix,ne3,ne4,Fv,yD,Zv,aQ,hw];refine finish _ _ _ ?_ ?_ ?_ ?_ ?_ ?_ ?_ ?_ ?_ ?_ ?_ ?_ <;> simp only[go_sem,g2,g5,g6,g8,Qo,SB,qe,Gd,DA,Dz,yE,hw]
 ·have:k=2^L:=by omega
  subst this;simp only[go_sem,MT,yE,BQ,Z9,ajp];refine hk _ _ E H h11 hE ?_ ?_ ?_ ?_ ?_ ?_ ?_ <;> simp only[go_sem,g2,g5,g6,g8,Qo,DA,Dz]
end
end Go.Am
