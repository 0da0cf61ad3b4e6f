/- A part of the proof of a statement of this seat: the machine on which the program is read, and what it computes; for every input. -/
import Derived.Test.YtikiipfbkfgmbaaGreatDoorZ39
import Derived.Test.YtikiipfbkfgmbaaGreatDoorZ40
set_option linter.all false
namespace Go.Am
open Go
variable [Z4]
set_option maxRecDepth 100000
set_option maxHeartbeats 8000000
theorem aoa (na nb:Bool)(a b:List Int)(ha:a.length<2^62):go U (Mt U [.tmp 4]) [] r56 (YX 0 [ZG na (ints a),ZG nb (ints b)] .nil) (X8 U)=some (.bool (Qd a b)):=by
 have:=aaT na nb a b ha;simp only[go_sem,r56,this]
theorem aob {s:St}{B:Nat}{v:AV}{L a:List Int}(ha:a.length<2^62)(h:ZK s B 3 1 L.length (ints L) v):X6 U (ZE U 56 [ZG true (ints a),v]) 56 [ZG true (ints a),v] s=some (.bool (Qd a L),s):=by
 have hf:=h.Ua 38;rcases Nat.eq_zero_or_pos L.length with h0|hp
 ·have hL:L=[]:=List.eq_nil_of_length_eq_zero h0;subst hL;have hv:v=.ZW:=by
   rcases h with⟨_,e,_⟩|⟨e,_⟩
   ·exact e
   ·exact absurd e (by simp)
  subst hv;have:=c56 true true a [] ha;rw[show ZG true (ints [])=.ZW from rfl] at this;rw[this,U8]
 ·have bL:=h.kQ (by omega);rw[Ke (by kernel_rfl) s (by simp[ZU,X7,bL])];have h1:=UL U s 39 true (ints a);have hm:Y' (Yn U s 40) [ZG true (ints a),v]=some [ZG true (ints a),ZG true (ints L)]:=by
   simp only[Y',h1,hf]
  rw[hm];exact X0 U s (an5 k56 rfl (aoa true true a L ha))
theorem aoc {p:Prog}{nl:Bool}{l T:List Int}{A:Yi}(pX:ZE U 38 [Vw p]=some (.int .i64 (Qp p)))(hz:Qp p<=400)(hle:(A.next.length:Int)<=Qp p)(hb:A.next.length<=256->ZE U 57 [Wd A,ZG nl (ints l)]=some (.XU [ZG true (ints T),.int .i64 0])/\ZE U 58 [Wd A]=some (.int .i64 0))(hT:T.length<=4096)
  {e:Env}{s:St}{q:Nat}(nx:q<s.next)(hq:8<q)(gp:s.get 8=some (.cells [.int .i64 p.lines,ZG p.nl (Zx p.steps)] 31 false 0 0)){ca:List AV}(ga:s.get q=some (.cells ca 69 false 0 0))
  (g1:Env.get e 1=ZG nl (ints l))(g2:Env.get e 2=.ptr 8 0)(g5:Env.get e 5=ZG true (ints T))(g7:Env.get e 7=.ptr q 0)
  (g8:(256<A.next.length/\Env.get e 8=.int .i64 5)\/(A.next.length<=256/\Env.get e 8=.int .i64 0/\ca=[.int .i64 A.lines,SV A,Vy A])) :
  go U (Mt U [.tmp 4]) [] anb e s=some (.bool true):=by
 rw[X9] at pX;rcases g8 with⟨h1,g8⟩|⟨h1,g8,rfl⟩
 ·have hd:decide (Qp p>256)=true:=decide_eq_true (by omega);simp only[go_sem,anb,g1,g2,g5,g7,g8,gp,pX,hd,ZL,Zu]
 ·obtain⟨q57,q58⟩:=hb h1;have q56:=c56 true true T T (by omega);rw[My] at q56;have nn:Zz (SV A)=true:=ZL A.TH (A.next.map Zn);have nf:Zz (Vy A)=true:=ZL A.S6 (A.ZD.map Zv);have cn:(SV A).cells=[SV A]:=Zu A.TH (A.next.map Zn);have cf:(Vy A).cells=[Vy A]:=Zu A.S6 (A.ZD.map Zv);have ln:Ti (SV A)=some (.int .i64 A.next.length):=by
   have:=ZI A.TH (A.next.map Zn);rw[agC] at this;exact this
  have hd:decide ((A.next.length:Int)<=Qp p)=true:=decide_eq_true hle;rw[WJ] at q57 q58;simp only[go_sem,anb,g1,g2,g5,g7,g8,gp,ga,pX,q56,q57,q58,nn,nf,cn,cf,ln,hd,ZL,Zu]
theorem c8m (aw:ZE U 16 []=some (.bool true))(p:Prog)(nl:Bool)(l:List Int):ZE U 8 [Vw p,ZG nl (ints l)]=some (.bool true):=by
 refine ZR k8m (by kernel_rfl) (by simp[ZU,X',X7,still]) ?_;have vj:=c31 p 6;have ln:=ZI nl (ints l);rw[YK] at ln
 cases hs:short p 6 with
 |false =>
  rw[hs] at vj;rw[X9] at vj ⊢;simp only[go_sem,r8m,aw,vj,ZL,Zu,V0,S5,S2,amq]
 |true =>
  rw[hs] at vj;have hf:=wK hs;have dG:=F8 hf;obtain⟨MZ,hL,Ee⟩:=ka (by decide) hs;have dF:=c33 p hf;have nW:=c34 p hf;have FC:lZ p.norm=At p:=by rw[s8,Ds]
  have Mw:p.norm.lines=p.lines:=rfl
  cases hb:At p != 0 with
  |true =>
   rw[X9] at vj nW ⊢;simp only[go_sem,r8m,aw,vj,nW,hb,ZL,Zu,V0,S5,S2,amq]
  |false =>
   have Er:At p=0:=by simpa using hb
   have ok:=s9 Er;have vi:=c39 p hf (by have:=ok.lines;omega) 400;rw[size_eq ok] at vi
   cases j9:decide (p.lines<=3)&&decide (Qp p<=400) with
   |false =>
    rw[j9] at vi;rw[X9] at vj nW vi ⊢;simp only[go_sem,r8m,aw,vj,nW,vi,hb,ZL,Zu,V0,S5,S2,amq]
   |true =>
    rw[j9] at vi;rw[agw,decide_eq_true_iff,decide_eq_true_iff] at j9
    cases h24:decide ((l.length:Int)>24) with
    |true =>
     rw[X9] at vj nW vi ⊢;simp only[go_sem,r8m,aw,vj,nW,vi,hb,ln,h24,ZL,Zu,V0,S5,S2,amq]
    |false =>
     have q28:=c28 p.lines ok.lines.1 ok.lines.2 nl l
     cases hg:aai p.lines l != 0 with
     |true =>
      rw[X9] at vj nW vi ⊢;simp only[go_sem,r8m,aw,vj,nW,vi,q28,hb,hg,ln,h24,ZL,Zu]
     |false =>
      have hg0:aai p.lines l=0:=by simpa using hg
      have abD:=aoH ok.lines.2 hg0;have aod:=aoJ ok.lines.2 hg0;have hS:=Mp ok;have hl:1<=p.lines/\p.lines<=4:=⟨ok.lines.1,by omega⟩;have hzn:=sC ok ok.wf hl.2 (n:=(Qp p).toNat) (by omega) (Int.self_le_toNat _);have hX:=eL hS hl (by omega);have anc:=aoQ hX;have vP:=aoV ok hl (by omega) aod;have hAs:=aph ok hl (by omega);have Bg:=j_ hf Er Ee j9.1 j9.2;have hAl:(Zl (Kk p.lines (Y_ p.steps) (UH p.steps (2^p.lines.toNat)))).lines=p.lines:=rfl;generalize hA:Zl (Kk p.lines (Y_ p.steps) (UH p.steps (2^p.lines.toNat)))=A at *;have Aq:=anc.pos;have hle:(A.next.length:Int)<=Qp p:=by omega
      have eD:(E9 l p.steps).length<=4096:=by
       have:=al_ (Wn p.steps) (Tm p.steps) p.steps.length (Ha l p.steps) l.length 0 (0,0,0);have:=abD.1;unfold E9;omega
      have q32:∀n,n<=l.length->ZE U 32 [Vw p.norm,ZG (nl&&l.isEmpty) (ints (l.take n))]=some (.XU [ZG true (ints ((E9 l p.steps).takeWhile fun x=>decide (x<(n:Int)))),.int .i64 0]):=fun n hn=>by
       rw[c32 p.norm dG Ee (nl&&l.isEmpty) (l.take n)];unfold amY;rw[FC,hb,Mw,show (aai p.lines (l.take n) != 0)=false by rw[aoS hg0];rfl,aot (l.take n) p ok,aoW ok.wf (by have:=hS.w0;omega) hS.ne l hn];rfl
      have anX:ZE U 32 [Vw p.norm,ZG nl (ints l)]=some (.XU [ZG true (ints (E9 l p.steps)),.int .i64 0]):=by
       rw[c32 p.norm dG Ee nl l];unfold amY;rw[FC,hb,Mw,hg,aot l p ok];rfl
      have pX:=c38 p hf (by have:=ok.lines;omega);rw[size_eq ok] at pX;have aoe:A.next.length<=256->ZE U 57 [Wd A,ZG nl (ints l)]=some (.XU [ZG true (ints (E9 l p.steps)),.int .i64 0])/\ZE U 58 [Wd A]=some (.int .i64 0):=fun h256=>by
       have hck:=am7 anc h256;have hr:∀r∈A.next,r.2.length<=2^40:=fun r hr=>by
        obtain⟨i,hi,rfl⟩:=alP.1 hr;have h1:=(anc.row i hi).1;have h2:=Nat.pow_le_pow_right (n:=2) (by omega) (show A.lines.toNat<=4 by have:=anc.lines;omega);omega
       refine⟨?_,?_⟩
       ·rw[c57 A (by omega) hr nl l];unfold amV uz;rw[hck,hAl,hg0,vP];rfl
       ·rw[c58 A (by omega) hr,hck]
      have fin:=fun (e:Env) (s:St) (ca:List AV)=>aoc (e:=e) (s:=s) (q:=9) (ca:=ca) pX j9.2 hle aoe eD
      have aof:=dF;have nn:Zz (SV A)=true:=ZL A.TH (A.next.map Zn);have nf:Zz (Vy A)=true:=ZL A.S6 (A.ZD.map Zv);have cn:(SV A).cells=[SV A]:=Zu A.TH (A.next.map Zn);have cf:(Vy A).cells=[Vy A]:=Zu A.S6 (A.ZD.map Zv);rw[hg0] at q28;rw[Er] at nW;rw[X9 p] at vj dF nW vi ⊢;have main:∀(e:Env) (s:St) (x8:AV) (ca:List AV),((256<A.next.length/\x8=.int .i64 5)\/(A.next.length<=256/\x8=.int .i64 0/\ca=[.int .i64 A.lines,SV A,Vy A]))->s.next=10->Fr s ->
        s.get 8=some (.cells [.int .i64 p.lines,ZG p.nl (Zx p.steps)] 31 false 0 0)->s.get 9=some (.cells ca 69 false 0 0)->Env.get e 1=ZG nl (ints l)->Env.get e 2=.ptr 8 0->Env.get e 5=ZG true (ints (E9 l p.steps))->Env.get e 7=.ptr 9 0->Env.get e 8=x8->Env.get e 9=.ZW ->
        Env.get e 10=.int .i64 ((0:Nat):Int)->Env.get e 11=.int .i64 0->Env.get e 12=.int .i64 0->Env.get e 75=.int .i64 l.length->Env.get e 76=.int .i64 ((0:Nat):Int)->SD U (Mt U [.tmp 4]) [.bk 0,.sq anA] E8 e s=some (.bool true):=by
       intro e s x8 ca h8 hsn PX gp ga g1 g2 g5 g7 g8 g9 rb fk Iw s7 uh;refine aog abD ok (B:=10) ⟨by omega,by omega⟩ PX gp g1 g2 g5 g7 g8 g9 rb fk Iw s7 uh ?_;intro e' s' v k1 k2 k5 k7 k8m k9 hv old Vl aok;have WE:=aob (s:=s') (a:=E9 l p.steps) (by omega) hv;rw[My] at WE;simp only[go_sem,anA,k1,k2,k5,k7,k8m,k9,WE,ln];refine an9 (T:=E9 l p.steps) abD eD aof q32 (q:=9) (ca:=ca) (x8:=x8) ⟨by omega,by omega⟩ (by rw[old 8 (by omega),gp]) (by rw[old 9 (by omega),ga]) ?_ ?_ ?_ ?_ ?_ ?_ ?_ ?_
       case refine_8 =>
        intro e'' rz m1 m2 m5 m7 m8 rD gp2 ga2;simp only[go_sem];refine fin e'' rz ca rD (by omega) gp2 ga2 m1 m2 m5 m7 ?_;rcases h8 with⟨h,e8⟩|⟨h,e8,ec⟩
        ·exact .inl ⟨h,by rw[m8,e8]⟩
        ·exact .inr ⟨h,by rw[m8,e8],ec⟩
       all_goals simp only[go_sem,k1,k2,k5,k7,k8m]
       all_goals rfl
      rcases Nat.lt_or_ge 256 A.next.length with h256|h256
      ·rw[decide_eq_true h256,cond_true,Q7] at Bg;simp only[go_sem,r8m,aw,vj,dF,nW,vi,q28,anX,Bg,hb,hg,ln,h24,ZL,Zu];refine main _ _ (.int .i64 5) [.int .i64 0,.ZW,.ZW] (.inl ⟨h256,rfl⟩) ?_ ?_ ?_ ?_ ?_ ?_ ?_ ?_ ?_ ?_ ?_ ?_ ?_ ?_ ?_
       case refine_2 =>
        repeat first|exact Fr.own|apply Fr.new|apply Fr.put|apply Fr.upto
        all_goals simp only[go_sem]
       all_goals simp only[go_sem]
       all_goals rfl
      ·rw[decide_eq_false (by omega),cond_false,WJ] at Bg;simp only[go_sem,r8m,aw,vj,dF,nW,vi,q28,anX,Bg,hb,hg,ln,h24,ZL,Zu,nn,nf,cn,cf];refine main _ _ (.int .i64 0) _ (.inr ⟨h256,rfl,rfl⟩) ?_ ?_ ?_ ?_ ?_ ?_ ?_ ?_ ?_ ?_ ?_ ?_ ?_ ?_ ?_
       case refine_2 =>
        repeat first|exact Fr.own|apply Fr.new|apply Fr.put|apply Fr.upto
        all_goals simp only[go_sem]
       all_goals simp only[go_sem]
       all_goals rfl
end Go.Am
