/- A part of the proof of a statement of this seat: the machine on which the program is read, and what it computes; for every input. -/
import Derived.Test.YtikiipfbkfgmbaaGreatDoorZ28
import Derived.Test.YtikiipfbkfgmbaaGreatDoorZ37
import Derived.Test.YtikiipfbkfgmbaaGreatDoorZ33
set_option linter.all false
namespace Go.Am
open Go
variable [Z4]
set_option maxRecDepth 100000
set_option maxHeartbeats 8000000
theorem aoo {nl:Bool}{l:List Int}{k:Nat}(h:k<=l.length):Es 1 (ZG nl (ints l)) none (some (.int .i64 (k:Int)))=some (ZG (nl&&l.isEmpty) (ints (l.take k))):=by
 cases l with
 |nil =>
  have:k=0:=by simpa using h
  subst this
  cases nl <;> rfl
 |cons x l =>
  have e0:ZG nl (ints (x::l))=.fz (ints (x::l)):=YR (by simp[ints]);have e1:Yz (some (.int .i64 (k:Int))) (ints (x::l)).length (ints (x::l)).length=some k:=by
   rw[YK];simp[Yz];simp at h;omega
  have e2:Yz none 0 k=some 0:=by simp[Yz]
  have e3:(ints (x::l)).all (fun x=>x.cells.length==1)=true:=by simp[ints,AV.cells]
  rw[e0];simp only[Es,e1,e2,e3,if_true,amd];rw[show (nl&&(x::l).isEmpty)=false by cases nl <;> rfl];rw[show ZG false (ints ((x::l).take k))=.fz (ints ((x::l).take k)) from rfl];simp[ints]
theorem aog {nl:Bool}{l:List Int}(hl:Hb l){p:Prog}(ok:p.ok){ks:List K}{r:Option AV}{e:Env}{sm:St}{B:Nat}(hB:8<B/\B<=sm.next)(fr:Fr sm){x5 x7 x8:AV}
  (gp:sm.get 8=some (.cells [.int .i64 p.lines,ZG p.nl (Zx p.steps)] 31 false 0 0))(g1:Env.get e 1=ZG nl (ints l))(g2:Env.get e 2=.ptr 8 0)(g5:Env.get e 5=x5)(g7:Env.get e 7=x7)(g8:Env.get e 8=x8)(g9:Env.get e 9=.ZW)
  (rb:Env.get e 10=.int .i64 ((0:Nat):Int))(fk:Env.get e 11=.int .i64 0)(Iw:Env.get e 12=.int .i64 0)(s7:Env.get e 75=.int .i64 l.length)(uh:Env.get e 76=.int .i64 ((0:Nat):Int))
  (hk:∀e' s' v,Env.get e' 1=ZG nl (ints l)->Env.get e' 2=.ptr 8 0->Env.get e' 5=x5->Env.get e' 7=x7->Env.get e' 8=x8->Env.get e' 9=v->ZK s' B 3 1 (E9 l p.steps).length (ints (E9 l p.steps)) v->(∀j,j<B->s'.get j=sm.get j)->B<=s'.next->Fr s'->goN U (Mt U [.tmp 4]) ks e' s'=r) :
  SD U (Mt U [.tmp 4]) (.bk 0::ks) E8 e sm=r:=by
 have hlen:=hl.1;have hS:=Mp ok;have h0:=hS.ne;refine YP (σ:=Nat) (ZB:=fun (x:Option AV)=>x=r) (fun i=>l.length-i) (fun i e s=>i<=l.length/\Env.get e 1=ZG nl (ints l)/\Env.get e 2=.ptr 8 0/\Env.get e 5=x5/\Env.get e 7=x7/\Env.get e 8=x8/\Env.get e 75=.int .i64 l.length/\Env.get e 76=.int .i64 (i:Nat)/\B<=s.next/\Fr s/\(∀j,j<B->s.get j=sm.get j) /\
  ∃(a:Nat) (k g:Int) (acc:List Int) (v:AV),Env.get e 10=.int .i64 (a:Nat)/\Env.get e 11=.int .i64 k/\Env.get e 12=.int .i64 g/\Env.get e 9=v/\a<p.steps.length/\(0<=k/\k+1<=Tm p.steps a)/\(0<=g/\g<=i)/\acc.length<=i/\ZK s B 3 1 acc.length (ints acc) v /\
   acc++trR (Wn p.steps) (Tm p.steps) p.steps.length (Ha l p.steps) (l.length-i) i (a,k,g)=E9 l p.steps) 0 ?_ ⟨aic _,g1,g2,g5,g7,g8,s7,uh,hB.2,fr,fun _ _=>rfl,0,0,0,[],.ZW,rb,fk,Iw,g9,h0,⟨by omega,by have:=(hS.tmA h0);omega⟩,by omega,aic _,ZK.nil _ _ _ _,rfl⟩
 clear g1 g2 g5 g7 g8 g9 rb fk Iw s7 uh fr e;rintro L i e s ⟨hi,g1,g2,g5,g7,g8,s7,uh,nx,fr,old,a,k,g,acc,v,rb,fk,Iw,g9,ha,Jd,hg,Kc,hv,YA⟩ IH;have gs:s.get 8=some (.cells [.int .i64 p.lines,ZG p.nl (Zx p.steps)] 31 false 0 0):=by rw[old 8 hB.1,gp]
 by_cases hd:i<l.length
 ·have hw:=ZN hd (by omega);have Jl:=hv.Xj;have Re:=hv.Zz;have hx:=P7 (nl:=p.nl) ha;have Iv:Ud 9 (ZG p.nl (Zx p.steps)) (.int .i64 0)=some (.fp p.steps[0].T0 0):=P7 (nl:=p.nl) h0;have Mx:=hS.wiA ha;have hwt:=hS.wi _ (adm ha);have htm:=(hS.tm _ (adm ha)).2;have aol:=(hS.tm _ (adm h0));have hTa:=G3 ha;have BW:k+1<=p.steps[a].times:=by rw[<-hTa];exact Jd.2
  have w1:IntKind.i64.wrap (g+p.steps[a].within)=g+p.steps[a].within:=by rw[wrap_i64] <;> omega
  have w2:IntKind.i64.wrap (k+1)=k+1:=by rw[wrap_i64] <;> omega
  have Ha:=ok.few;have w3:IntKind.i64.wrap ((a:Int)+1)=(a:Int)+1:=by rw[wrap_i64] <;> omega
  have w4:IntKind.i64.wrap 1=1:=by rw[wrap_i64] <;> omega
  have LP:=aoo (nl:=nl) (show i+1<=l.length from hd);have anY:Hb (l.take (i+1)):=⟨by rw[amr];omega,fun x hx=>hl.2 x (List.mem_of_mem_take hx)⟩;have hlT:i+1=(l.take (i+1)).length:=by rw[amr];omega
  have cx:=c55 (nl&&l.isEmpty) _ anY i hlT p.steps[a].cond (ok.wf _ (adm ha));have cy:=c55 (nl&&l.isEmpty) _ anY i hlT p.steps[0].cond (ok.wf _ (adm h0));rw[aoM l (ok.wf _ (adm ha)) (by omega)] at cx;rw[aoM l (ok.wf _ (adm h0)) (by omega)] at cy;have Jw:=hx;rw[show l.length-i=(l.length-(i+1))+1 by omega,trR] at YA;unfold rfP rfQ at YA;rw[D0 ha,G3 ha,G3 h0,anh ha,anh h0] at YA;rw[ZV] at cx cy;simp only[Z5.cells,Step.T0] at hx Iv cx cy;have ne1:(s.next=8)=False:=by simp;omega
  have ne2:(8=s.next)=False:=by simp;omega
  have e0:(((0:Nat):Int))=0:=rfl;have UP:(acc.length+1)*8<=1099511627776:=by omega
  have VP:acc.length+1<=1099511627776:=by omega
  have hN:∀Z C,(((s.new Z).put s.next C).upto (s.next+1+12)).next=s.next+13:=fun Z C=>by rw[Z6]
  have hG:∀Z C j,j<s.next->(((s.new Z).put s.next C).upto (s.next+1+12)).get j=s.get j:=fun Z C j hj=>by rw[ZT,Z9,if_neg (by omega),Z7,if_neg (by omega)]
  have hF:∀Z C,Fr (((s.new Z).put s.next C).upto (s.next+1+12)):=fun Z C=>((fr.new _).put (by rw[Z_];omega) _).upto (by rw[Z',Z_];omega)
  have hvS:∀Z C,ZK (((s.new Z).put s.next C).upto (s.next+1+12)) B 3 1 acc.length (ints acc) v:=fun Z C=>hv.mono (by rw[hN];omega) fun j _ hj=>hG Z C j hj
  have nlA:((a:Int)==(p.steps.length:Int))=false:=by simp;omega
  have nl0:((0:Int)==(p.steps.length:Int))=false:=by simp;omega
  have e2:decide ((i:Int)-g>p.steps[a].within)=decide ((i:Int)>g+p.steps[a].within):=by congr 1;apply propext;omega
  have e4x:decide (k+1<p.steps[a].times)=!((k+1:Int)==p.steps[a].times):=by rw[amj];simp;omega
  have e4:∀k' T:Int,k'+1<=T->decide (k'+1<T)=!(k'+1==T):=fun k' T h=>by rw[amj];simp;omega
  rw[e4 0 _ (by omega:(0:Int)+1<=p.steps[0].times)] at YA
  cases h1:decide (p.steps[a].within>0)
  ·cases h3:atR l i p.steps[a].cond with
   |false =>
    simp only[h1,e2,e0,Int.zero_add,Bool.and_true,Bool.and_false,al9,amq,cond_true,cond_false,h3,amp] at YA;simp only[go_sem,E8,g1,g2,g5,g7,g8,g9,rb,fk,Iw,s7,uh,gs,Z8,hd,ZI,YK,YY,hx,Iv,cx,cy,w1,w2,w3,w4,h1,hw,LP,ne1,ne2,ZL,Zu,V0,S5,amq,al9,ZH,Nat.reducePow,amk,Jl,Re,UP,VP,h3];refine IH (i+1) _ _ (by omega) ⟨by omega,?_,?_,?_,?_,?_,?_,?_,by rw[hN];omega,hF _ _,fun j hj=>by rw[hG _ _ j (by omega),old j hj],a,k,g,acc,v,?_,?_,?_,?_,ha,Jd,by omega,by omega,hvS _ _,YA⟩
    all_goals simp only[go_sem,g1,g2,g5,g7,g8,g9,rb,fk,Iw,s7,uh,hw]
    all_goals rfl
   |true =>
    cases h4:((k+1:Int)==p.steps[a].times) with
    |false =>
     simp only[h1,e2,e0,Int.zero_add,Bool.and_true,Bool.and_false,al9,amq,cond_true,cond_false,h3,ama,amp] at YA;simp only[e4x,h4,ama,amp,cond_true,cond_false] at YA;simp only[go_sem,E8,g1,g2,g5,g7,g8,g9,rb,fk,Iw,s7,uh,gs,Z8,hd,ZI,YK,YY,hx,Iv,cx,cy,w1,w2,w3,w4,h1,hw,LP,ne1,ne2,ZL,Zu,V0,S5,amq,al9,ZH,Nat.reducePow,amk,Jl,Re,UP,VP,h3,h4,nlA];refine IH (i+1) _ _ (by omega) ⟨by omega,?_,?_,?_,?_,?_,?_,?_,by rw[hN];omega,hF _ _,fun j hj=>by rw[hG _ _ j (by omega),old j hj],a,k+1,g,acc,v,?_,?_,?_,?_,ha,⟨by omega,by rw[G3 ha];have:=beq_eq_false_iff_ne.1 h4;omega⟩,by omega,by omega,hvS _ _,YA⟩
     all_goals simp only[go_sem,g1,g2,g5,g7,g8,g9,rb,fk,Iw,s7,uh,hw]
     all_goals rfl
    |true =>
     cases h5:(((a:Int)+1:Int)==p.steps.length) with
     |false =>
      simp only[h1,e2,e0,Int.zero_add,Bool.and_true,Bool.and_false,al9,amq,cond_true,cond_false,h3,ama,amp] at YA;simp only[e4x,h4,h5,ama,amp,cond_true,cond_false] at YA;simp only[go_sem,E8,g1,g2,g5,g7,g8,g9,rb,fk,Iw,s7,uh,gs,Z8,hd,ZI,YK,YY,hx,Iv,cx,cy,w1,w2,w3,w4,h1,hw,LP,ne1,ne2,ZL,Zu,V0,S5,amq,al9,ZH,Nat.reducePow,amk,Jl,Re,UP,VP,h3,h4,h5];have Yh:a+1<p.steps.length:=by have:=beq_eq_false_iff_ne.1 h5;omega
      refine IH (i+1) _ _ (by omega) ⟨by omega,?_,?_,?_,?_,?_,?_,?_,by rw[hN];omega,hF _ _,fun j hj=>by rw[hG _ _ j (by omega),old j hj],a+1,0,i,acc,v,?_,?_,?_,?_,Yh,⟨by omega,by have:=hS.tmA Yh;omega⟩,by omega,by omega,hvS _ _,YA⟩
      all_goals simp only[go_sem,g1,g2,g5,g7,g8,g9,rb,fk,Iw,s7,uh,hw]
      all_goals rfl
     |true =>
      simp only[h1,e2,e0,Int.zero_add,Bool.and_true,Bool.and_false,al9,amq,cond_true,cond_false,h3,ama,amp] at YA;simp only[e4x,h4,h5,ama,amp,cond_true,cond_false] at YA;simp only[go_sem,E8,g1,g2,g5,g7,g8,g9,rb,fk,Iw,s7,uh,gs,Z8,hd,ZI,YK,YY,hx,Iv,cx,cy,w1,w2,w3,w4,h1,hw,LP,ne1,ne2,ZL,Zu,V0,S5,amq,al9,ZH,Nat.reducePow,amk,Jl,Re,UP,VP,h3,h4,h5];generalize hZZ:Uy.cells [AV.str [],.int .i64 0,.int .i64 0,.int .i64 0,.int .i64 0,.str [],.ZW,.int .i64 0,.int .i64 0] 90 false 0 0=ZZ;generalize hCC:Uy.cells [AV.str p.steps[a].cond.kind,.int .i64 p.steps[a].cond.a,.int .i64 p.steps[a].cond.b,.int .i64 p.steps[a].cond.mi,.int .i64 p.steps[a].cond.ma,.str p.steps[a].cond.pat,ZG p.steps[a].cond.nl (WW p.steps[a].cond.kids),.int .i64 p.steps[a].times,.int .i64 p.steps[a].within] 90 false 0 0=CC;have Pd:=(hvS ZZ CC).mono (s':=((((s.new ZZ).put s.next CC).upto (s.next+1+12)).new (.cells [.int .i64 (i:Int)] 3 false 0 0))) (by rw[Z_];omega) fun j _ hj=>by rw[Z7,if_neg (by omega)]
      obtain⟨s1,f1,f2,f3,f4,f5⟩:=Pd.Gy (by rw[Z_,hN];omega) (m:=1) (new:=[.int .i64 (i:Int)]) (by omega) (by rfl) (by rfl);have hL:acc.length+1=(acc++[(i:Int)]).length:=by simp
      have hI:ints acc++[.int .i64 (i:Int)]=ints (acc++[(i:Int)]):=by rw[ints,ints,alY];rfl
      rw[f1];simp only[go_sem,uh,hw];rw[hI,hL] at f3;rw[List.append_cons] at YA;refine IH (i+1) _ _ (by omega) ⟨by omega,?_,?_,?_,?_,?_,?_,?_,by rw[f2,Z_,hN];omega,f5 ((hF _ _).new _),fun j hj=>by rw[f4 j (by rw[Z_,hN];omega) (Pd.B8 (.inr hj)),Z7,hN,if_neg (by omega),hG _ _ j (by omega),old j hj],0,0,i,acc++[(i:Int)],_,?_,?_,?_,rfl,h0,⟨by omega,by rw[G3 h0];omega⟩,by omega,by rw[agy];simp;omega,?_,YA⟩
      case refine_11=>simp only[go_sem];rw[hL];exact f3
      all_goals simp only[go_sem,g1,g2,g5,g7,g8,g9,rb,fk,Iw,s7,uh,hw]
      all_goals rfl
  ·cases h2:decide ((i:Int)>g+p.steps[a].within)
   ·cases h3:atR l i p.steps[a].cond with
    |false =>
     simp only[h1,e2,h2,e0,Int.zero_add,Bool.and_true,Bool.and_false,al9,amq,cond_true,cond_false,h3,amp] at YA;simp only[go_sem,E8,g1,g2,g5,g7,g8,g9,rb,fk,Iw,s7,uh,gs,Z8,hd,ZI,YK,YY,hx,Iv,cx,cy,w1,w2,w3,w4,h1,hw,LP,ne1,ne2,ZL,Zu,V0,S5,amq,al9,ZH,Nat.reducePow,amk,Jl,Re,UP,VP,h2,h3];refine IH (i+1) _ _ (by omega) ⟨by omega,?_,?_,?_,?_,?_,?_,?_,by rw[hN];omega,hF _ _,fun j hj=>by rw[hG _ _ j (by omega),old j hj],a,k,g,acc,v,?_,?_,?_,?_,ha,Jd,by omega,by omega,hvS _ _,YA⟩
     all_goals simp only[go_sem,g1,g2,g5,g7,g8,g9,rb,fk,Iw,s7,uh,hw]
     all_goals rfl
    |true =>
     cases h4:((k+1:Int)==p.steps[a].times) with
     |false =>
      simp only[h1,e2,h2,e0,Int.zero_add,Bool.and_true,Bool.and_false,al9,amq,cond_true,cond_false,h3,ama,amp] at YA;simp only[e4x,h4,ama,amp,cond_true,cond_false] at YA;simp only[go_sem,E8,g1,g2,g5,g7,g8,g9,rb,fk,Iw,s7,uh,gs,Z8,hd,ZI,YK,YY,hx,Iv,cx,cy,w1,w2,w3,w4,h1,hw,LP,ne1,ne2,ZL,Zu,V0,S5,amq,al9,ZH,Nat.reducePow,amk,Jl,Re,UP,VP,h2,h3,h4,nlA];refine IH (i+1) _ _ (by omega) ⟨by omega,?_,?_,?_,?_,?_,?_,?_,by rw[hN];omega,hF _ _,fun j hj=>by rw[hG _ _ j (by omega),old j hj],a,k+1,g,acc,v,?_,?_,?_,?_,ha,⟨by omega,by rw[G3 ha];have:=beq_eq_false_iff_ne.1 h4;omega⟩,by omega,by omega,hvS _ _,YA⟩
      all_goals simp only[go_sem,g1,g2,g5,g7,g8,g9,rb,fk,Iw,s7,uh,hw]
      all_goals rfl
     |true =>
      cases h5:(((a:Int)+1:Int)==p.steps.length) with
      |false =>
       simp only[h1,e2,h2,e0,Int.zero_add,Bool.and_true,Bool.and_false,al9,amq,cond_true,cond_false,h3,ama,amp] at YA;simp only[e4x,h4,h5,ama,amp,cond_true,cond_false] at YA;simp only[go_sem,E8,g1,g2,g5,g7,g8,g9,rb,fk,Iw,s7,uh,gs,Z8,hd,ZI,YK,YY,hx,Iv,cx,cy,w1,w2,w3,w4,h1,hw,LP,ne1,ne2,ZL,Zu,V0,S5,amq,al9,ZH,Nat.reducePow,amk,Jl,Re,UP,VP,h2,h3,h4,h5];have Yh:a+1<p.steps.length:=by have:=beq_eq_false_iff_ne.1 h5;omega
       refine IH (i+1) _ _ (by omega) ⟨by omega,?_,?_,?_,?_,?_,?_,?_,by rw[hN];omega,hF _ _,fun j hj=>by rw[hG _ _ j (by omega),old j hj],a+1,0,i,acc,v,?_,?_,?_,?_,Yh,⟨by omega,by have:=hS.tmA Yh;omega⟩,by omega,by omega,hvS _ _,YA⟩
       all_goals simp only[go_sem,g1,g2,g5,g7,g8,g9,rb,fk,Iw,s7,uh,hw]
       all_goals rfl
      |true =>
       simp only[h1,e2,h2,e0,Int.zero_add,Bool.and_true,Bool.and_false,al9,amq,cond_true,cond_false,h3,ama,amp] at YA;simp only[e4x,h4,h5,ama,amp,cond_true,cond_false] at YA;simp only[go_sem,E8,g1,g2,g5,g7,g8,g9,rb,fk,Iw,s7,uh,gs,Z8,hd,ZI,YK,YY,hx,Iv,cx,cy,w1,w2,w3,w4,h1,hw,LP,ne1,ne2,ZL,Zu,V0,S5,amq,al9,ZH,Nat.reducePow,amk,Jl,Re,UP,VP,h2,h3,h4,h5];generalize hZZ:Uy.cells [AV.str [],.int .i64 0,.int .i64 0,.int .i64 0,.int .i64 0,.str [],.ZW,.int .i64 0,.int .i64 0] 90 false 0 0=ZZ;generalize hCC:Uy.cells [AV.str p.steps[a].cond.kind,.int .i64 p.steps[a].cond.a,.int .i64 p.steps[a].cond.b,.int .i64 p.steps[a].cond.mi,.int .i64 p.steps[a].cond.ma,.str p.steps[a].cond.pat,ZG p.steps[a].cond.nl (WW p.steps[a].cond.kids),.int .i64 p.steps[a].times,.int .i64 p.steps[a].within] 90 false 0 0=CC;have Pd:=(hvS ZZ CC).mono (s':=((((s.new ZZ).put s.next CC).upto (s.next+1+12)).new (.cells [.int .i64 (i:Int)] 3 false 0 0))) (by rw[Z_];omega) fun j _ hj=>by rw[Z7,if_neg (by omega)]
       obtain⟨s1,f1,f2,f3,f4,f5⟩:=Pd.Gy (by rw[Z_,hN];omega) (m:=1) (new:=[.int .i64 (i:Int)]) (by omega) (by rfl) (by rfl);have hL:acc.length+1=(acc++[(i:Int)]).length:=by simp
       have hI:ints acc++[.int .i64 (i:Int)]=ints (acc++[(i:Int)]):=by rw[ints,ints,alY];rfl
       rw[f1];simp only[go_sem,uh,hw];rw[hI,hL] at f3;rw[List.append_cons] at YA;refine IH (i+1) _ _ (by omega) ⟨by omega,?_,?_,?_,?_,?_,?_,?_,by rw[f2,Z_,hN];omega,f5 ((hF _ _).new _),fun j hj=>by rw[f4 j (by rw[Z_,hN];omega) (Pd.B8 (.inr hj)),Z7,hN,if_neg (by omega),hG _ _ j (by omega),old j hj],0,0,i,acc++[(i:Int)],_,?_,?_,?_,rfl,h0,⟨by omega,by rw[G3 h0];omega⟩,by omega,by rw[agy];simp;omega,?_,YA⟩
       case refine_11=>simp only[go_sem];rw[hL];exact f3
       all_goals simp only[go_sem,g1,g2,g5,g7,g8,g9,rb,fk,Iw,s7,uh,hw]
       all_goals rfl
   ·cases h3:atR l i p.steps[0].cond with
    |false =>
     simp only[h1,e2,h2,e0,Int.zero_add,Bool.and_true,Bool.and_false,al9,amq,cond_true,cond_false,h3,amp] at YA;simp only[go_sem,E8,g1,g2,g5,g7,g8,g9,rb,fk,Iw,s7,uh,gs,Z8,hd,ZI,YK,YY,hx,Iv,cx,cy,w1,w2,w3,w4,h1,hw,LP,ne1,ne2,ZL,Zu,V0,S5,amq,al9,ZH,Nat.reducePow,amk,Jl,Re,UP,VP,h2,h3];refine IH (i+1) _ _ (by omega) ⟨by omega,?_,?_,?_,?_,?_,?_,?_,by rw[hN];omega,hF _ _,fun j hj=>by rw[hG _ _ j (by omega),old j hj],0,0,g,acc,v,?_,?_,?_,?_,h0,⟨by omega,by rw[G3 h0];omega⟩,by omega,by omega,hvS _ _,YA⟩
     all_goals simp only[go_sem,g1,g2,g5,g7,g8,g9,rb,fk,Iw,s7,uh,hw]
     all_goals rfl
    |true =>
     cases h4:((1:Int)==p.steps[0].times) with
     |false =>
      simp only[h1,e2,h2,e0,Int.zero_add,Bool.and_true,Bool.and_false,al9,amq,cond_true,cond_false,h3,ama,amp] at YA;simp only[e4x,h4,ama,amp,cond_true,cond_false] at YA;simp only[go_sem,E8,g1,g2,g5,g7,g8,g9,rb,fk,Iw,s7,uh,gs,Z8,hd,ZI,YK,YY,hx,Iv,cx,cy,w1,w2,w3,w4,h1,hw,LP,ne1,ne2,ZL,Zu,V0,S5,amq,al9,ZH,Nat.reducePow,amk,Jl,Re,UP,VP,h2,h3,h4,nl0];refine IH (i+1) _ _ (by omega) ⟨by omega,?_,?_,?_,?_,?_,?_,?_,by rw[hN];omega,hF _ _,fun j hj=>by rw[hG _ _ j (by omega),old j hj],0,1,g,acc,v,?_,?_,?_,?_,h0,⟨by omega,by rw[G3 h0];have:=beq_eq_false_iff_ne.1 h4;omega⟩,by omega,by omega,hvS _ _,YA⟩
      all_goals simp only[go_sem,g1,g2,g5,g7,g8,g9,rb,fk,Iw,s7,uh,hw]
      all_goals rfl
     |true =>
      cases h5:((1:Int)==p.steps.length) with
      |false =>
       simp only[h1,e2,h2,e0,Int.zero_add,Bool.and_true,Bool.and_false,al9,amq,cond_true,cond_false,h3,ama,amp] at YA;simp only[e4x,h4,h5,ama,amp,cond_true,cond_false] at YA;simp only[go_sem,E8,g1,g2,g5,g7,g8,g9,rb,fk,Iw,s7,uh,gs,Z8,hd,ZI,YK,YY,hx,Iv,cx,cy,w1,w2,w3,w4,h1,hw,LP,ne1,ne2,ZL,Zu,V0,S5,amq,al9,ZH,Nat.reducePow,amk,Jl,Re,UP,VP,h2,h3,h4,h5];have Yh:1<p.steps.length:=by have:=beq_eq_false_iff_ne.1 h5;omega
       refine IH (i+1) _ _ (by omega) ⟨by omega,?_,?_,?_,?_,?_,?_,?_,by rw[hN];omega,hF _ _,fun j hj=>by rw[hG _ _ j (by omega),old j hj],1,0,i,acc,v,?_,?_,?_,?_,Yh,⟨by omega,by have:=hS.tmA Yh;omega⟩,by omega,by omega,hvS _ _,YA⟩
       all_goals simp only[go_sem,g1,g2,g5,g7,g8,g9,rb,fk,Iw,s7,uh,hw]
       all_goals rfl
      |true =>
       simp only[h1,e2,h2,e0,Int.zero_add,Bool.and_true,Bool.and_false,al9,amq,cond_true,cond_false,h3,ama,amp] at YA;simp only[e4x,h4,h5,ama,amp,cond_true,cond_false] at YA;simp only[go_sem,E8,g1,g2,g5,g7,g8,g9,rb,fk,Iw,s7,uh,gs,Z8,hd,ZI,YK,YY,hx,Iv,cx,cy,w1,w2,w3,w4,h1,hw,LP,ne1,ne2,ZL,Zu,V0,S5,amq,al9,ZH,Nat.reducePow,amk,Jl,Re,UP,VP,h2,h3,h4,h5];generalize hZZ:Uy.cells [AV.str [],.int .i64 0,.int .i64 0,.int .i64 0,.int .i64 0,.str [],.ZW,.int .i64 0,.int .i64 0] 90 false 0 0=ZZ;generalize hCC:Uy.cells [AV.str p.steps[a].cond.kind,.int .i64 p.steps[a].cond.a,.int .i64 p.steps[a].cond.b,.int .i64 p.steps[a].cond.mi,.int .i64 p.steps[a].cond.ma,.str p.steps[a].cond.pat,ZG p.steps[a].cond.nl (WW p.steps[a].cond.kids),.int .i64 p.steps[a].times,.int .i64 p.steps[a].within] 90 false 0 0=CC;have Pd:=(hvS ZZ CC).mono (s':=((((s.new ZZ).put s.next CC).upto (s.next+1+12)).new (.cells [.int .i64 (i:Int)] 3 false 0 0))) (by rw[Z_];omega) fun j _ hj=>by rw[Z7,if_neg (by omega)]
       obtain⟨s1,f1,f2,f3,f4,f5⟩:=Pd.Gy (by rw[Z_,hN];omega) (m:=1) (new:=[.int .i64 (i:Int)]) (by omega) (by rfl) (by rfl);have hL:acc.length+1=(acc++[(i:Int)]).length:=by simp
       have hI:ints acc++[.int .i64 (i:Int)]=ints (acc++[(i:Int)]):=by rw[ints,ints,alY];rfl
       rw[f1];simp only[go_sem,uh,hw];rw[hI,hL] at f3;rw[List.append_cons] at YA;refine IH (i+1) _ _ (by omega) ⟨by omega,?_,?_,?_,?_,?_,?_,?_,by rw[f2,Z_,hN];omega,f5 ((hF _ _).new _),fun j hj=>by rw[f4 j (by rw[Z_,hN];omega) (Pd.B8 (.inr hj)),Z7,hN,if_neg (by omega),hG _ _ j (by omega),old j hj],0,0,i,acc++[(i:Int)],_,?_,?_,?_,rfl,h0,⟨by omega,by rw[G3 h0];omega⟩,by omega,by rw[agy];simp;omega,?_,YA⟩
       case refine_11=>simp only[go_sem];rw[hL];exact f3
       all_goals simp only[go_sem,g1,g2,g5,g7,g8,g9,rb,fk,Iw,s7,uh,hw]
       all_goals rfl
 ·have:i=l.length:=by omega
  subst this;rw[Nat.sub_self,trR,alZ] at YA;subst YA;simp only[go_sem,E8,s7,uh,Z8,alh];refine hk _ _ v ?_ ?_ ?_ ?_ ?_ ?_ hv old nx fr <;> simp only[go_sem,g1,g2,g5,g7,g8,g9]
end Go.Am
