/- A part of the proof of a statement of this seat: the machine on which the program is read, and what it computes; for every input. -/
import Derived.Test.YtkmaeondbkpajaaGreatDoorG03
import Derived.Test.YtkmaeondbkpajaaGreatDoorG05
set_option linter.all false
namespace Go.Am
open Go
variable [ZZ]
set_option maxRecDepth 100000
set_option maxHeartbeats 8000000
def ae:RC:=(sO [Yy 1 42 0,L_ 2 0 42,Zz 3 0] (sQ (sO [ZP 4 1 1,ZS 5 4,YS 6 5,Ut 7 3 6 256] (cT 7 (sO [o 8 (.N_ [(iI 0),.ZM,.ZM] []),Yw 3 2 8,Zz 3 5] .ret))) (sO [Zh 9 3 1,Yw 3 2 9,Zz 3 0] .ret)))
theorem ac_:Zb 62=some ([.cell 2 42,.tmp 3],ae):=by kernel_rfl
end Go.Am
namespace Go.Am
open Go
variable [ZZ]
set_option maxRecDepth 100000
set_option maxHeartbeats 4000000
def VY (a:YY)(l:List Int):Int:=br (Jy a != 0) (Jy a) (U0 a.lines l)
theorem Eb {a:YY}{l:List Int}(h:VY a l=0):a.ok/\AI (2^a.lines.toNat) l:=by
 unfold VY at h
 cases h1:Jy a != 0 with
 |true=>rw[h1,Xt] at h;rw[h] at h1;cases h1
 |false =>
  rw[h1,YU] at h;have ok:=YY.Mn (by simpa using h1:Jy a=0);exact⟨ok,nC (by have:=ok.lines;omega) h⟩
def lE (a:YY)(l:List Int):AV :=
 bif VY a l != 0 then .XF [.ZM,.int .i64 (VY a l)] else .XF [ZG true (ints (Yb a.fa l l.length 0 0).1),.int .i64 0]
def lD (a:YY)(l:List Int):AV :=
 bif VY a l != 0 then .XF [.int .i64 0,.int .i64 (VY a l)] else .XF [.int .i64 (((Yb a.fa l l.length 0 0).2:Nat):Int),.int .i64 0]
theorem o57 {β:Type}{fin:Fl->β}{Zu:β->Prop}(a:YY)(hn:a.next.length<=2^40)(hr:∀r∈a.next,r.2.length<=2^40)(nl:Bool)(l:List Int)(Dk:VY a l=0)
  (hk:∀e s w B,Env.get e 4=w->Env.get e 5=.int .i64 0->ZF s B 3 1 (Yb a.fa l l.length 0 0).1.length (ints (Yb a.fa l l.length 0 0).1) w->Zu (fin (some (.ret,e,s)))) :
  Zu (go U fin [] r57 (Zc 0 [VQ a,ZG nl (ints l)] .nil) (Yl U)):=by
 have h123:=aaz a hn hr nl l;rw[show br (Jy a != 0) (Jy a) (U0 a.lines l)=VY a l from rfl] at h123;rw[WT] at h123 ⊢;have nn:=ZW a.TN (a.next.map Zi);have nf:=ZW a.Tc (a.ZC.map Zq);have cn:=ZR a.TN (a.next.map Zi);have cf:=ZR a.Tc (a.ZC.map Zq);unfold U6 Xd at h123 ⊢;obtain⟨ha,hl⟩:=Eb Dk;have hlen:=hl.1;rw[Dk] at h123;simp only[go_sem,r57,nn,nf,cn,cf,h123,ZJ,Zl,cond_false];refine YG (σ:=Nat) (Zu:=Zu) (fun i=>l.length-i) (fun i e s=>i<=l.length/\Env.get e 2=.ptr 8 0/\Env.get e 17=ZG nl (ints l)/\Env.get e 18=.int .i64 l.length/\Env.get e 19=.int .i64 (i:Nat)/\8<s.next/\Fr s /\
  s.get 8=some (.cells [.int .i64 a.lines,ZG a.TN (a.next.map Zi),ZG a.Tc (a.ZC.map Zq)] 42 false 0 0) /\
  ∃(st:Nat) (acc:List Int) (v:AV),Env.get e 8=v/\Env.get e 7=.int .i64 (st:Nat)/\st<a.next.length/\acc.length<=i/\ZF s 9 3 1 acc.length (ints acc) v /\
   (acc++(Yb a.fa l (l.length-i) i st).1,(Yb a.fa l (l.length-i) i st).2)=Yb a.fa l l.length 0 0) 0 ?_ ?_
 ·rintro L i e s ⟨hi,g2,j3,Gd,g19,nx,fr,gs,st,acc,v,g8,g7,WY,Ls,hv,X'⟩ IH;have Qf:=hv.Xg;have Ub:=hv.Zx;by_cases hd:i<l.length
  ·have hw:=ZE hd (by omega);obtain⟨hx,oM⟩:=CX hl (nl:=nl) hd;have r1:=Ru (nl:=a.TN) WY;have r2:=Pg (nl:=a.Tc) (show st<a.ZC.length by rw[ha.fl];exact WY);have r3:=ha.ie WY oM;have r4:=ha.agP WY oM;have YH:=ha.Ob.lt st (XH l i) WY oM;have Un:(acc.length+1)*8<=1099511627776:=by omega
   have VD:acc.length+1<=1099511627776:=by omega
   rw[show l.length-i=(l.length-(i+1))+1 by omega,Yb] at X'
   cases hf:a.fa.fr st (XH l i) with
   |false =>
    rw[hf] at X' r4;simp only[cond_false] at X';simp only[go_sem,Dm,g2,g7,g8,j3,Gd,g19,gs,Z9,hd,hx,r1,r2,r3,r4,hw];refine IH (i+1) _ _ (by omega) ⟨by omega,?_,?_,?_,?_,nx,fr,gs,a.fa.nx st (XH l i),acc,v,?_,?_,YH,by omega,hv,X'⟩
    all_goals simp only[go_sem,g2,g8,j3,Gd,hw]
   |true =>
    rw[hf] at X' r4;simp only[cond_true] at X';simp only[go_sem,Dm,g2,g7,g8,j3,Gd,g19,gs,Z9,hd,hx,r1,r2,r3,r4,hw,ZD,Nat.reducePow,ajB,Qf,Ub,Un,VD];have Qm:ZF (s.new (.cells [.int .i64 (i:Int)] 3 false 0 0)) 9 3 1 acc.length (ints acc) v:=hv.mono (by rw[Z'];omega) fun j _ hj=>by rw[ZY,if_neg (by omega)]
    have jn:acc.length+1=(acc++[(i:Int)]).length:=by simp
    have hI1:ints acc++[.int .i64 (i:Int)]=ints (acc++[(i:Int)]):=by rw[ints,ints,ajA];rfl
    obtain⟨s1,f1,f2,f3,f4,f5⟩:=Qm.Il (by rw[Z'];omega) (m:=1) (new:=[.int .i64 (i:Int)]) (by omega) (by rfl) (by rfl);have gs1:s1.get 8=some (.cells [.int .i64 a.lines,ZG a.TN (a.next.map Zi),ZG a.Tc (a.ZC.map Zq)] 42 false 0 0):=by
     rw[f4 8 (by rw[Z'];omega) (Qm.Bt (.inr (by omega))),ZY,if_neg (by omega),gs]
    have gZ:=f5 (fr.new _);rw[Z'] at f2;rw[f1];rw[hI1,jn] at f3;simp only[go_sem,g2,g7,g19,gs1,hx,r1,r3,hw];rw[List.append_cons] at X';refine IH (i+1) _ _ (by omega) ⟨by omega,?_,?_,?_,?_,by omega,gZ,gs1,a.fa.nx st (XH l i),acc++[(i:Int)],_,?_,?_,YH,by rw[ajh];simp;omega,f3,X'⟩
    all_goals simp only[go_sem,g2,j3,Gd,hw,jn]
  ·have:i=l.length:=by omega
   subst this;rw[Nat.sub_self,Yb,ajG] at X';rw[<-X'] at hk;simp only[go_sem,Dm,g7,g8,Gd,g19,Z9,ajp,Ub];refine hk _ _ v _ ?_ ?_ hv <;> simp only[go_sem,g8]
 ·refine⟨aji _,?_,?_,?_,?_,?_,?_,?_,0,[],.ZM,?_,?_,ha.pos,aji _,ZF.nil _ _ _ _,rfl⟩
  case refine_6 =>
   repeat first|exact Fr.own|apply Fr.new|apply Fr.put|apply Fr.upto
   all_goals simp only[go_sem]
  all_goals try simp only[go_sem]
  all_goals rfl
theorem c57 (a:YY)(hn:a.next.length<=2^40)(hr:∀r∈a.next,r.2.length<=2^40)(nl:Bool)(l:List Int):Zw U 19 [VQ a,ZG nl (ints l)]=some (lE a l):=by
 refine ZI k57 (by kernel_rfl) (by simp[ZO,Xp,YZ]) ?_;unfold lE
 cases hc:VY a l != 0 with
 |true =>
  have h123:=aaz a hn hr nl l;rw[show br (Jy a != 0) (Jy a) (U0 a.lines l)=VY a l from rfl] at h123;rw[WT] at h123 ⊢;have nn:=ZW a.TN (a.next.map Zi);have nf:=ZW a.Tc (a.ZC.map Zq);have cn:=ZR a.TN (a.next.map Zi);have cf:=ZR a.Tc (a.ZC.map Zq);unfold U6 Xd at h123 ⊢;simp only[go_sem,r57,nn,nf,cn,cf,h123,hc]
 |false =>
  have Dk:VY a l=0:=by simpa using hc
  refine o57 (Zu:=fun x=>x=some (AV.XF [ZG true (ints (Yb a.fa l l.length 0 0).1),.int .i64 0])) a hn hr nl l Dk fun e s w B h4 h5 hv=>?_
  have NA:=hv.U_ 37;simp only[go_sem,h4,h5,NA]
theorem c62 (a:YY)(hn:a.next.length<=2^40)(hr:∀r∈a.next,r.2.length<=2^40)(nl:Bool)(l:List Int):Zw U 20 [VQ a,ZG nl (ints l)]=some (lD a l):=by
 refine ZI k62 (by kernel_rfl) (by simp[ZO,Xp,YZ]) ?_;have h123:=aaz a hn hr nl l;rw[show br (Jy a != 0) (Jy a) (U0 a.lines l)=VY a l from rfl] at h123;rw[WT] at h123 ⊢;have nn:=ZW a.TN (a.next.map Zi);have nf:=ZW a.Tc (a.ZC.map Zq);have cn:=ZR a.TN (a.next.map Zi);have cf:=ZR a.Tc (a.ZC.map Zq);unfold U6 Xd at h123 ⊢;unfold lD
 cases hc:VY a l != 0 with
 |true=>simp only[go_sem,r62,nn,nf,cn,cf,h123,hc]
 |false =>
 have Dk:VY a l=0:=by simpa using hc
 obtain⟨ha,hl⟩:=Eb Dk;have hlen:=hl.1;rw[Dk] at h123;simp only[go_sem,r62,nn,nf,cn,cf,h123,ZJ,Zl,cond_false];refine Ym (σ:=Nat) (fun i=>l.length-i) (fun i=>some (.XF [.int .i64 (((Yb a.fa l l.length 0 0).2:Nat):Int),.int .i64 0])) (fun i e s=>i<=l.length/\Env.get e 2=.ptr 8 0/\Env.get e 16=ZG nl (ints l)/\Env.get e 17=.int .i64 l.length/\Env.get e 18=.int .i64 (i:Nat) /\
  s.get 8=some (.cells [.int .i64 a.lines,ZG a.TN (a.next.map Zi),ZG a.Tc (a.ZC.map Zq)] 42 false 0 0) /\
  ∃(st:Nat),Env.get e 7=.int .i64 (st:Nat)/\st<a.next.length/\(Yb a.fa l (l.length-i) i st).2=(Yb a.fa l l.length 0 0).2) 0 ?_ rfl ?_
 ·rintro L i e s ⟨hi,g2,j3,Gd,g19,gs,st,g7,WY,X'⟩ IH;by_cases hd:i<l.length
  ·have hw:=ZE hd (by omega);obtain⟨hx,oM⟩:=CX hl (nl:=nl) hd;have r1:=Ru (nl:=a.TN) WY;have r3:=ha.ie WY oM;have YH:=ha.Ob.lt st (XH l i) WY oM;rw[show l.length-i=(l.length-(i+1))+1 by omega,Yb] at X';simp only[go_sem,yr,g2,g7,j3,Gd,g19,gs,Z9,hd,hx,r1,r3,hw];refine IH (i+1) _ _ (by omega) ⟨by omega,?_,?_,?_,?_,gs,a.fa.nx st (XH l i),?_,YH,X'⟩
   all_goals simp only[go_sem,g2,j3,Gd,hw]
  ·have:i=l.length:=by omega
   subst this;rw[Nat.sub_self,Yb] at X';rw[<-X'];simp only[go_sem,yr,g7,Gd,g19,Z9,ajp]
 ·refine⟨aji _,?_,?_,?_,?_,?_,0,?_,ha.pos,rfl⟩
  all_goals try simp only[go_sem]
  all_goals rfl
def NU (l:List Nat):List Int:=l.map fun k:Nat=>(k:Int)
def ZA (l:List Nat):List AV:=ints (NU l)
theorem Oq (l:List Nat):(NU l).length=l.length:=by simp[NU]
theorem U' (l:List Nat):(ZA l).length=l.length:=by rw[ZA,Zl,Oq]
theorem X9 {l:List Nat}{i:Nat}(h:i<l.length):(ZA l)[i]? = some (.int .i64 ((gt l i:Nat):Int)):=by
 rw[ZA,SW,NU,ajv,aaa h,R_ h];rfl
theorem Vs {l:List Nat}{i:Nat}(k:Nat)(h:i<l.length):lay i [.int .i64 (k:Int)] (ZA l)=some (ZA (l.set i k)):=by
 rw[MF _ _ _ (by rw[U'];exact h)];simp[ZA,ints,NU,List.map_set]
theorem L7 (l:List Nat)(k:Nat):ZA l++[.int .i64 (k:Int)]=ZA (l++[k]):=by simp[ZA,ints,NU]
theorem ado (a b:Nat):((a:Int)==(b:Int))=(a==b):=by rw[aj4];simp;omega
theorem eK {s:St}{b d n:Nat}{cap:Option Nat}{L:List Nat}(hL:L.length=n)(hg:s.get b=some (.cells (ZA L) 3 false 0 0)):Yc U s (d+2) (.sl b 0 n cap 1)=some (.fz (ZA L)):=by
 have:=Jz (d:=d) (cap:=cap) hg;rw[Oq,hL] at this;exact this
theorem Ev {l:List Nat}{i:Nat}(h:i<l.length):UC 1 (.fz (ZA l)) (.int .i64 (i:Int))=some (.fp [.int .i64 ((gt l i:Nat):Int)] 0):=by
 have:=Ph (nl:=false) (l:=NU l) (i:=i) (by rw[Oq];exact h);rw[QD] at this;rw[ZA,this];simp[NU,R_ h]
def Wg (A:Fa)(q:Nat):List Bool:=(List.range A.m).map (A.fr q)
theorem Rb (A:Fa)(q:Nat):(Wg A q).length=A.m:=by simp[Wg]
theorem uv (A:Fa)(q:Nat){x:Nat}(h:x<A.m):(Wg A q)[x]'(by rw[Rb];exact h)=A.fr q x:=by simp[Wg]
theorem ZF.abM {s:St}{B:Nat}{t:TypeId}{i:Nat}{cs:List AV}{v:AV}(h:ZF s B t 1 i cs v)(hB:B<=s.next)(x:AV)(hx:Go.Am.Zx x=true) :
  ∃s1,QE t 1 1 [x] v s=some (.sl s.next 0 (i+1) none 1,s1)/\s1.next=s.next+1/\ZF s1 B t 1 (i+1) (cs++[x]) (.sl s.next 0 (i+1) none 1) /\
   (∀j c t' lo hi,s.get j=some (.cells c t' false lo hi)->j<s.next->t'≠t->s1.get j=some (.cells c t' false lo hi))/\(∀j,j<B->s1.get j=s.get j)/\(Fr s->Fr s1):=by
 obtain⟨s1,a1,a2,a3,a4,a5⟩:=h.Il hB (m:=1) (new:=[x]) (by omega) rfl (by simp[hx]);exact⟨s1,a1,a2,a3,fun j c t' lo hi hj YH Zv=>by rw[a4 j (by omega) (h.other hj Zv),hj],fun j hj=>a4 j (by omega) (h.Bt (.inr hj)),a5⟩
theorem ZF.Ty {s s':St}{B:Nat}{t:TypeId}{i:Nat}{cs:List AV}{v:AV}(h:ZF s B t 1 i cs v)(hn:s.next<=s'.next)(hg:∀j c,s.get j=some (.cells c t false 0 0)->j<s.next->B<=j->s'.get j=some (.cells c t false 0 0)):ZF s' B t 1 i cs v:=by
 rcases h with⟨h0,h1,h2⟩|⟨h0,h1,b,h2,h3,h4,h5⟩
 ·exact .inl ⟨h0,h1,h2⟩
 ·exact .inr ⟨h0,h1,b,h2,by omega,h4,hg b _ h5 h3 h2⟩
def jY (s:St)(b:Nat)(t:TypeId)(c:AV)(l:List AV):Prop:=∃j,c=.sl j 0 l.length (some l.length) 1/\j<s.next/\j≠b/\12<=j/\s.get j=some (.cells l t false 0 0)
theorem jY.mono {s s':St}{b b':Nat}{t:TypeId}{c:AV}{l:List AV}(h:jY s b t c l)(hn:s.next<=s'.next)(hb:∀j,j<s.next->j≠b->j≠b')(hg:∀j,j<s.next->j≠b->12<=j->s.get j=some (.cells l t false 0 0)->s'.get j=some (.cells l t false 0 0)):jY s' b' t c l:=by
 obtain⟨j,h1,h2,h3,h4,h5⟩:=h;exact⟨j,h1,by omega,hb j h2 h3,h4,hg j h2 h3 h4 h5⟩
theorem jY.Yc {s:St}{b d:Nat}{c:AV}{l:List AV}{t:TypeId}(h:jY s b t c l)(F1:YB U t=some false)(Wh:size U t=some 1)(Ub:l.all Zx=true)(hf:YT (Go.Am.Yc U s d) l=some l):Go.Am.Yc U s (d+1) c=some (.fz l):=by
 obtain⟨j,rfl,_,_,_,h5⟩:=h;rw[QF,h5,UQ,ajj,Wi,F1,Wh,Rh,if_pos Ub,Vt,hf,SQ]
theorem S9 {A:Type}{f:AV->Option AV}{g:A->AV}:∀{cs:List AV} {rs:List A},cs.length=rs.length->(∀j (h:j<cs.length) (h':j<rs.length),f cs[j]=some (g rs[j]))->YT f cs=some (rs.map g)
 |[],[],_,_=>rfl
 |c::cs,r::rs,hl,h=>by
  have h0:=h 0 (by simp) (by simp);simp only[List.getElem_cons_zero] at h0;have ih:=S9 (f:=f) (g:=g) (cs:=cs) (rs:=rs) (by simpa using hl) fun j h1 h2=>by
   have:=h (j+1) (by simpa using h1) (by simpa using h2)
   simpa using this
  rw[Yf,h0,ih,aju];rfl
 |[],_::_,hl,_=>by simp at hl
 |_::_,[],hl,_=>by simp at hl
def YW (a:YY):YY:={ lines:=a.lines,TN:=true,next:=(Vx a.fa).map (fun x=>(false,NU x.2)),Tc:=true,ZC:=(Vx a.fa).map (fun x=>(false,Wg a.fa x.1)) }
end Go.Am
namespace Go.Am
open Go
variable [ZZ]
set_option maxRecDepth 100000
set_option maxHeartbeats 8000000
noncomputable def L6:RC:=(sO [YQ 40 3 39 38] (sQ (cS 40 (.exit 2)) (sQ (.block 3 (sO [Y0 41 1 37 39,ZS 42 41,om 10 42] (sO [om 44 4,om 45 3,om 46 10,Y0 47 1 45 46,ZS 48 47,o 49 (.raw (.lookup 204 (.tmp 44) (.tmp 48) true)),om 43 49,Yd 50 43 0,Yd 51 43 1,om 11 50,om 12 51] (sQ (sO [om 52 12,VO 53 52] (cT 53 (sO [om 54 5,YS 55 54,om 11 55] (sO [om 56 4,om 57 3,om 58 10,Y0 59 1 57 58,ZS 60 59,om 61 11,uE 204 56 60 61] (oP [om 62 5,om 63 10,Qn 64 3 1 1 0 0 1 63,VE 65 3 1 8 62 64,om 5 65]))))) (oP [om 66 8,om 67 11,Qn 68 3 1 1 0 0 1 67,VE 69 3 1 8 66 68,om 8 69]))))) (oP [Yz 70 3 39 1,om 39 70]))))
noncomputable def xr:Code:=NT 63 0
theorem aaK:Rd U xr=some (22,[(o 71 (.fa 1 (.t 6)),none),
 (o 72 (.TB (.t 71)),none),
 (om 73 8,none),
 (⟨some 74,none,some 3,false,.SE 48 1 1 [.ZM] [(0,1,(.t 73))]⟩,none),
 (⟨some 75,none,none,true,.app 48 1 24 (.t 72) (.t 74)⟩,none),
 (o 76 (.fa 2 (.t 6)),none),
 (o 77 (.TB (.t 76)),some (0,2)),
 (o 78 (.fa 2 (.t 1)),none),
 (o 79 (.TB (.t 78)),some (0,1)),
 (om 80 5,none),
 (om 81 7,none),
 (o 82 (.Ff 1 (.t 80) (.t 81)),none),
 (o 83 (.TB (.t 82)),some (0,1)),
 (o 84 (.Ff 1 (.t 79) (.t 83)),none),
 (o 85 (.TB (.t 84)),some (0,1)),
 (⟨some 86,none,none,true,.call 131 [(.t 85)]⟩,none),
 (⟨some 87,none,some 16,false,.SE 72 1 1 [.ZM] [(0,1,(.t 86))]⟩,none),
 (⟨some 88,none,none,true,.app 72 1 24 (.t 77) (.t 87)⟩,none),
 (o 89 (.fa 1 (.t 6)),none),
 (⟨none,none,none,true,.st 1 (.t 89) (.t 75)⟩,none),
 (o 90 (.fa 2 (.t 6)),none),
 (⟨none,none,none,true,.st 1 (.t 90) (.t 88)⟩,none)]):=by kernel_rfl
noncomputable def Jv:RC:=(sQ (sO [om 24 7,om 25 5,YS 26 25,YQ 27 3 24 26] (cS 27 (.exit 0))) (sQ (.block 1 (sO [WS 8] (sQ (sQ (.Sf 10 [ZP 30 1 1,ZS 31 30,om 32 5,om 33 7,Y0 34 1 32 33,ZS 35 34,Y0 36 1 31 35,ZS 37 36,YS 38 37,Zz 39 0]) (.block 2 (.loop L6))) (.raw xr)))) (oP [om 28 7,Yz 29 3 28 1,om 7 29])))
noncomputable def ad6:RC:=(sO [Yy 1 42 0,L_ 2 0 42] (sO [Zh 13 3 1,YO 14 130 13,om 3 14] (sO [o 15 (.raw (.makeMap 204 none)),om 16 3,o 17 (.Ff 1 (.t 16) (vI 0)),ZS 18 17,oS (.raw (.insert 204 (.tmp 15) (.tmp 18) (.const (.int .i64 0)))),om 19 15,om 4 19] (sO [o 20 (.SE 3 1 1 [(iI 0)] [(0,1,(vI 0))]),om 5 20] (sO [ZP 21 0 1,ZS 22 21,o 23 (.N_ [(iI 0),.ZM,.ZM] [(0,1,(.t 22))]),L_ 6 0 42,Yw 3 6 23] (sQ (sO [Zz 7 0] (.block 0 (.loop Jv))) (sO [Zh 91 3 6,Yw 3 2 91] .ret)))))))
theorem ag0:Zb 63=some ([.cell 2 42],ad6):=by kernel_rfl
noncomputable def nc:Code:=NT 130 0
theorem oL:Rd U nc=some (23,[(om 47 4,none),
 (om 48 5,none),
 (o 49 (.Ff 1 (.t 47) (.t 48)),none),
 (o 50 (.TB (.t 49)),some (0,1)),
 (om 51 7,none),
 (om 52 5,none),
 (o 53 (.Ff 1 (.t 51) (.t 52)),none),
 (o 54 (.TB (.t 53)),some (0,1)),
 (om 55 4,none),
 (om 56 5,none),
 (o 57 (.Ff 1 (.t 55) (.t 56)),none),
 (o 58 (.TB (.t 57)),none),
 (om 59 7,none),
 (om 60 5,none),
 (o 61 (.Ff 1 (.t 59) (.t 60)),none),
 (o 62 (.TB (.t 61)),none),
 (o 63 (.Ff 1 (.t 58) (.t 62)),none),
 (o 64 (.TB (.t 63)),none),
 (om 65 6,none),
 (⟨some 66,none,some 19,false,.SE 3 1 1 [(.int .i64 0)] [(0,1,(.t 65))]⟩,none),
 (⟨some 67,none,none,true,.app 3 1 8 (.t 64) (.t 66)⟩,none),
 (o 68 (.Ff 1 (.t 50) (.t 54)),none),
 (⟨none,none,none,true,.st 1 (.t 68) (.t 67)⟩,none)]):=by kernel_rfl
noncomputable def ME:RC:=(sO [YQ 43 3 42 41] (sQ (cS 43 (.exit 2)) (sQ (.block 3 (sO [om 44 42,Y0 45 1 40 42,ZS 46 45,om 6 44,om 7 46] (.raw nc))) (oP [Yz 69 3 42 1,om 42 69]))))
noncomputable def Ju:RC:=(sO [YQ 30 3 29 28] (sQ (cS 30 (.exit 0)) (sQ (.block 1 (sO [om 31 29,om 5 31] (sO [om 32 4,om 33 5,ZP 34 1 1,ZS 35 34,YS 36 35,o 37 (.raw (.makeSlice 39 (.tmp 36) (.tmp 36))),Y0 38 1 32 33,Yw 1 38 37] (sO [ZP 39 1 1,ZS 40 39,YS 41 40,Zz 42 0] (.block 2 (.loop ME)))))) (oP [Yz 70 3 29 1,om 29 70]))))
noncomputable def Jt:RC:=(sO [YQ 77 3 76 75] (sQ (cS 77 (.exit 4)) (sQ (.block 5 (sO [om 78 76,om 9 78] (oP [om 79 8,om 80 9,Qn 81 3 1 1 0 0 1 80,VE 82 3 1 8 79 81,om 8 82]))) (oP [Yz 83 3 76 1,om 76 83]))))
noncomputable def MD:RC:=(sO [YQ 138 3 137 136] (sQ (cS 138 (.exit 12)) (sQ (.block 13 (sO [Y0 139 1 135 137,ZS 140 139,om 17 140] (sO [om 141 3,om 142 17,YI 143 171 141 142] (cT 143 (oP [om 144 13,om 145 3,Yi 146 145,ZP 147 2 146,ZS 148 147,om 149 17,Y0 150 1 148 149,ZS 151 150,Qn 152 3 1 1 0 0 1 151,VE 153 3 1 8 144 152,om 13 153]))))) (oP [Yz 154 3 137 1,om 137 154]))))
noncomputable def Js:RC:=(sO [YQ 126 3 125 124] (sQ (cS 126 (.exit 10)) (sQ (.block 11 (sO [Y0 127 1 123 125,ZS 128 127,om 15 128] (sO [om 129 4,om 130 12,Y0 131 1 129 130,ZS 132 131,om 133 15,Y0 134 1 132 133,ZS 135 134,YS 136 135,Zz 137 0] (.block 12 (.loop MD))))) (oP [Yz 155 3 125 1,om 125 155]))))
noncomputable def L5:RC:=(sO [YQ 159 3 158 157] (sQ (cS 159 (.exit 14)) (sQ (.block 15 (sO [Y0 160 1 156 158,ZS 161 160,om 19 161] (sO [om 162 3,om 163 19,YI 164 172 162 163,om 20 164] (sO [om 165 20,o 166 (.bin .geq 3 true (.t 165) (vI 0))] (cT 166 (oP [om 167 8,om 168 20,Qn 169 3 1 1 0 0 1 168,VE 170 3 1 8 167 169,om 8 170])))))) (oP [Yz 171 3 158 1,om 158 171]))))
noncomputable def JQ:RC:=(sO [YQ 121 3 120 119] (sQ (cS 121 (.exit 8)) (sQ (.block 9 (sO [om 122 120,om 12 122] (sO [WS 13] (sQ (sO [om 123 11,YS 124 123,Zz 125 0] (.block 10 (.loop Js))) (sO [om 156 13,YS 157 156,Zz 158 0] (.block 14 (.loop L5))))))) (oP [Yz 172 3 120 1,om 120 172]))))
noncomputable def Jr:RC:=(sQ (sO [om 84 8,YS 85 84,Ut 86 3 85 0] (cS 86 (.exit 6))) (.block 7 (sO [om 87 8,om 88 8,YS 89 88,MC 90 3 89 1,Y0 91 1 87 90,ZS 92 91,om 10 92] (sO [om 93 8,om 94 8,YS 95 94,MC 96 3 95 1,o 97 (.cW 1 (.t 93) none (some (.t 96))),om 8 97] (sQ (.Sf 21 [om 98 3,Yi 99 98,ZP 100 0 99,ZS 101 100,om 102 3,Yi 103 102,ZP 104 3 103,ZS 105 104,om 106 10,Y0 107 1 105 106,ZS 108 107,om 109 3,Yi 110 109,ZP 111 4 110,ZS 112 111,om 113 10,Y0 114 1 112 113,ZS 115 114,o 116 (.cW 1 (.t 101) (some (.t 108)) (some (.t 115))),⟨some 117,none,none,true,.call 170 [(.t 116)]⟩,om 11 117]) (sO [om 118 4,YS 119 118,Zz 120 0] (.block 8 (.loop JQ))))))))
noncomputable def ad7:RC:=(sO [Yy 1 42 0,WS 2] (sO [Zh 21 3 1,YO 22 169 21,om 3 22] (sO [ZP 23 0 1,ZS 24 23,MB 25 3 1 24,o 26 (.raw (.makeSlice 259 (.tmp 25) (.tmp 25))),om 4 26] (sQ (sO [om 27 4,YS 28 27,Zz 29 0] (.block 0 (.loop Ju))) (sO [WS 8] (sQ (sO [om 71 3,Yi 72 71,ZP 73 3 72,ZS 74 73,YS 75 74,Zz 76 0] (.block 4 (.loop Jt))) (sQ (.block 6 (.loop Jr)) (sO [om 173 3,Yi 174 173,ZP 175 2 174,ZS 176 175,om 2 176] .ret))))))))
theorem ag1:Zb 130=some ([.tmp 2],ad7):=by kernel_rfl
noncomputable def m_:Code:=NT 169 0
theorem aaL:Rd U m_=some (11,[(o 16 (.fa 1 (.t 1)),none),
 (o 17 (.TB (.t 16)),none),
 (o 18 (.TK (.t 17)),none),
 (⟨some 19,none,some 3,false,.raw (.makeSlice 48 (.tmp 18) (.tmp 18))⟩,none),
 (o 20 (.fa 1 (.t 1)),none),
 (o 21 (.TB (.t 20)),some (0,0)),
 (o 22 (.TK (.t 21)),some (0,0)),
 (⟨some 23,none,some 7,false,.raw (.makeSlice 48 (.tmp 22) (.tmp 22))⟩,none),
 (o 24 (.N_ [.ZM,.ZM,.ZM,.ZM,.ZM,.ZM] [(1,1,(.t 19)),(2,1,(.t 23))]),none),
 (⟨some 25,none,some 9,false,.box 261 (.t 24)⟩,none),
 (om 3 25,none)]):=by kernel_rfl
noncomputable def JF:RC:=(sO [YQ 38 3 37 36] (sQ (cS 38 (.exit 2)) (sQ (.block 3 (sO [Y0 39 1 35 37,ZS 40 39,om 10 40] (oP [om 41 10,YO 42 215 41,YI 43 79 8 42]))) (oP [Yz 44 3 37 1,om 37 44]))))
noncomputable def Jq:RC:=(sO [YQ 31 3 30 29] (sQ (cS 31 (.exit 0)) (sQ (.block 1 (sO [om 32 30,Y0 33 1 28 30,ZS 34 33,om 6 32,om 7 34] (sO [o 8 (.al [.VI,.ZM] 150)] (sQ (sO [om 35 7,YS 36 35,Zz 37 0] (.block 2 (.loop JF))) (sO [YO 45 81 8,om 11 45] (sQ (sO [om 46 4,om 47 11,EJ 48 286 46 47,YS 49 48,U4 50 3 49 0] (cT 50 (oP [om 51 5,om 52 11,o 53 (.SE 9 1 1 [(.str [])] [(0,1,(.t 52))]),VE 54 9 1 16 51 53,om 5 54]))) (oP [om 55 4,om 56 11,om 57 4,om 58 11,EJ 59 286 57 58,om 60 6,Qn 61 3 1 1 0 0 1 60,VE 62 3 1 8 59 61,uE 286 55 56 62]))))))) (oP [Yz 63 3 30 1,om 30 63]))))
noncomputable def xq:Code:=NT 169 1
theorem aaM:Rd U xq=some (25,[(om 71 3,none),
 (om 72 3,none),
 (om 73 3,none),
 (o 74 (.raw (.nilCheck (.tmp 73))),none),
 (o 75 (.fa 3 (.t 74)),none),
 (o 76 (.TB (.t 75)),none),
 (om 77 3,none),
 (o 78 (.raw (.nilCheck (.tmp 77))),none),
 (o 79 (.fa 0 (.t 78)),none),
 (o 80 (.TB (.t 79)),none),
 (o 81 (.TK (.t 80)),none),
 (⟨some 82,none,some 11,false,.SE 3 1 1 [(.int .i64 0)] [(0,1,(.t 81))]⟩,none),
 (⟨some 83,none,none,true,.app 3 1 8 (.t 76) (.t 82)⟩,none),
 (om 84 3,none),
 (o 85 (.raw (.nilCheck (.tmp 84))),none),
 (o 86 (.fa 5 (.t 85)),none),
 (o 87 (.TB (.t 86)),some (0,1)),
 (⟨some 88,none,some 17,false,.SE 3 1 1 [(.int .i64 0)] [(0,1,(.v (.int .i64 0)))]⟩,none),
 (⟨some 89,none,none,true,.app 3 1 8 (.t 87) (.t 88)⟩,none),
 (o 90 (.raw (.nilCheck (.tmp 71))),none),
 (o 91 (.fa 3 (.t 90)),none),
 (⟨none,none,none,true,.st 1 (.t 91) (.t 83)⟩,none),
 (o 92 (.raw (.nilCheck (.tmp 72))),none),
 (o 93 (.fa 5 (.t 92)),none),
 (⟨none,none,none,true,.st 1 (.t 93) (.t 89)⟩,none)]):=by kernel_rfl
noncomputable def L4:RC:=(sO [YQ 99 3 98 97] (sQ (cS 99 (.exit 6)) (sQ (.block 7 (sO [Y0 100 1 96 98,ZS 101 100,om 15 101] (sQ (.Sf 20 [om 102 3,Yi 103 102,ZP 104 1 103,ZS 105 104,om 106 15,om 107 3,Yi 108 107,ZP 109 2 108,ZS 110 109,om 111 15,om 112 3,Yi 113 112,ZP 114 0 113,ZS 115 114,YS 116 115,om 117 12,Y0 118 1 105 106,⟨none,none,none,true,.st 1 (.t 118) (.t 116)⟩,Y0 119 1 110 111,⟨none,none,none,true,.st 1 (.t 119) (.t 117)⟩]) (oP [om 120 3,om 121 3,Yi 122 121,ZP 123 0 122,ZS 124 123,om 125 15,Qn 126 3 1 1 0 0 1 125,VE 127 3 1 8 124 126,Yi 128 120,ZP 129 0 128,Yw 1 129 127])))) (oP [Yz 130 3 98 1,om 98 130]))))
noncomputable def JH:RC:=(sO [YQ 67 3 66 65] (sQ (cS 67 (.exit 4)) (sQ (.block 5 (sO [om 68 66,Y0 69 1 64 66,ZS 70 69,om 12 68,om 13 70] (sQ (.raw xq) (sQ (sO [om 94 4,om 95 13,EJ 96 286 94 95,YS 97 96,Zz 98 0] (.block 6 (.loop L4))) (.Sf 15 [om 131 3,om 132 3,Yi 133 132,ZP 134 4 133,ZS 135 134,om 136 3,Yi 137 136,ZP 138 0 137,ZS 139 138,YS 140 139,⟨some 141,none,some 10,false,.SE 3 1 1 [(iI 0)] [(0,1,(.t 140))]⟩,⟨some 142,none,none,true,.app 3 1 8 (.t 135) (.t 141)⟩,Yi 143 131,ZP 144 4 143,⟨none,none,none,true,.st 1 (.t 144) (.t 142)⟩]))))) (oP [Yz 145 3 66 1,om 66 145]))))
noncomputable def aaN:RC:=(sO [Yy 1 42 0,o 2 (.Qb (.v .VI))] (sQ (.raw m_) (sO [o 26 (.raw (.makeMap 286 none)),om 4 26] (sO [WS 5] (sQ (sO [ZP 27 2 1,ZS 28 27,YS 29 28,Zz 30 0] (.block 0 (.loop Jq))) (sQ (sO [om 64 5,YS 65 64,Zz 66 0] (.block 4 (.loop JH))) (sO [om 146 3,om 2 146] .ret)))))))
theorem ag2:Zb 169=some ([.tmp 2],aaN):=by kernel_rfl
noncomputable def mZ:Code:=NT 172 0
theorem mY:Rd U mZ=some (32,[(om 84 0,none),
 (om 85 0,none),
 (om 86 0,none),
 (om 87 0,none),
 (o 88 (.raw (.nilCheck (.tmp 87))),none),
 (o 89 (.fa 3 (.t 88)),none),
 (o 90 (.TB (.t 89)),none),
 (om 91 7,none),
 (⟨some 92,none,some 8,false,.SE 3 1 1 [(.int .i64 0)] [(0,1,(.t 91))]⟩,none),
 (⟨some 93,none,none,true,.app 3 1 8 (.t 90) (.t 92)⟩,none),
 (om 94 0,none),
 (o 95 (.raw (.nilCheck (.tmp 94))),none),
 (o 96 (.fa 4 (.t 95)),none),
 (o 97 (.TB (.t 96)),some (0,1)),
 (om 98 8,none),
 (⟨some 99,none,some 15,false,.SE 3 1 1 [(.int .i64 0)] [(0,1,(.t 98))]⟩,none),
 (⟨some 100,none,none,true,.app 3 1 8 (.t 97) (.t 99)⟩,none),
 (om 101 0,none),
 (o 102 (.raw (.nilCheck (.tmp 101))),none),
 (o 103 (.fa 5 (.t 102)),none),
 (o 104 (.TB (.t 103)),some (0,2)),
 (⟨some 105,none,some 21,false,.SE 3 1 1 [(.int .i64 0)] [(0,1,(.v (.int .i64 0)))]⟩,none),
 (⟨some 106,none,none,true,.app 3 1 8 (.t 104) (.t 105)⟩,none),
 (o 107 (.raw (.nilCheck (.tmp 84))),none),
 (o 108 (.fa 3 (.t 107)),none),
 (⟨none,none,none,true,.st 1 (.t 108) (.t 93)⟩,none),
 (o 109 (.raw (.nilCheck (.tmp 85))),none),
 (o 110 (.fa 4 (.t 109)),none),
 (⟨none,none,none,true,.st 1 (.t 110) (.t 100)⟩,none),
 (o 111 (.raw (.nilCheck (.tmp 86))),none),
 (o 112 (.fa 5 (.t 111)),none),
 (⟨none,none,none,true,.st 1 (.t 112) (.t 106)⟩,none)]):=by kernel_rfl
noncomputable def L3:RC:=(sO [YQ 122 3 121 120] (sQ (cS 122 (.exit 0)) (sQ (.block 1 (sO [Y0 123 1 119 121,ZS 124 123,om 10 124] (.Sf 13 [om 125 0,Yi 126 125,ZP 127 2 126,ZS 128 127,om 129 10,om 130 0,Yi 131 130,ZP 132 3 131,ZS 133 132,YS 134 133,MC 135 3 134 1,Y0 136 1 128 129,⟨none,none,none,true,.st 1 (.t 136) (.t 135)⟩]))) (oP [Yz 137 3 121 1,om 121 137]))))
noncomputable def mX:RC:=(sO [Zz 4 0] (sQ (.Sf 24 [om 11 0,Yi 12 11,ZP 13 5 12,ZS 14 13,om 15 1,Y0 16 1 14 15,ZS 17 16,om 18 0,Yi 19 18,ZP 20 4 19,ZS 21 20,om 22 1,Y0 23 1 21 22,ZS 24 23,om 25 0,Yi 26 25,ZP 27 3 26,ZS 28 27,om 29 1,Y0 30 1 28 29,ZS 31 30,o 32 (.bin .sub 3 false (.t 24) (.t 31)),om 5 17,om 6 32]) (sO [om 33 0,Yi 34 33,ZP 35 5 34,ZS 36 35,om 37 1,Y0 38 1 36 37,oS (.st 1 (.t 38) (vI 0))] (sQ (sO [om 39 5,om 40 6,uD 41 3 39 40] (cT 41 (sO [o 4 (.Qb (vI (-1)))] .ret))) (sQ (.Sf 18 [om 42 0,Yi 43 42,ZP 44 3 43,ZS 45 44,om 46 1,Y0 47 1 45 46,ZS 48 47,om 49 0,Yi 50 49,ZP 51 3 50,ZS 52 51,om 53 1,Y0 54 1 52 53,ZS 55 54,om 56 5,EZ 57 3 55 56,om 7 48,om 8 57]) (sQ (sO [om 58 5,o 59 (.bin .mul 3 true (vI 2) (.t 58)),om 60 6,o 61 (.bin .gtr 3 false (.t 59) (.t 60))] (cO 61 (sQ (.Sf 10 [om 62 8,om 63 0,Yi 64 63,ZP 65 4 64,ZS 66 65,om 67 1,Y0 68 1 66 67,ZS 69 68,om 7 62,om 8 69]) (oP [om 70 0,Yi 71 70,ZP 72 4 71,ZS 73 72,om 74 1,om 75 7,Y0 76 1 73 74,Yw 1 76 75])) (oP [om 77 0,Yi 78 77,ZP 79 3 78,ZS 80 79,om 81 1,om 82 8,Y0 83 1 80 81,Yw 1 83 82]))) (sQ (.raw mZ) (sQ (sO [om 113 0,Yi 114 113,ZP 115 0 114,ZS 116 115,om 117 7,om 118 8,o 119 (.cW 1 (.t 116) (some (.t 117)) (some (.t 118))),YS 120 119,Zz 121 0] (.block 0 (.loop L3))) (sO [om 138 0,Yi 139 138,ZP 140 3 139,ZS 141 140,YS 142 141,MC 143 3 142 1,om 4 143] .ret)))))))))
theorem ag3:Zb 172=some ([.tmp 4],mX):=by kernel_rfl
end Go.Am
namespace Go.Am
open Go
variable [ZZ]
set_option maxRecDepth 100000
set_option maxHeartbeats 4000000
structure M9 (s:St)(pb n bl bp bs bb be bm:Nat)(p:Pt):Prop where
 g:s.get pb=some (.cells [.sl bl 0 p.list.length none 1,.sl bp 0 p.place.length (some n) 1,.sl bs 0 p.set.length (some n) 1,.sl bb 0 p.bg.length none 1,.sl be 0 p.en.length none 1,.sl bm 0 p.mr.length none 1] 261 false 0 0)
 gl:s.get bl=some (.cells (ZA p.list) 3 false 0 0)
 gp:s.get bp=some (.cells (ZA p.place) 3 false 0 0)
 gs:s.get bs=some (.cells (ZA p.set) 3 false 0 0)
 gb:s.get bb=some (.cells (ZA p.bg) 3 false 0 0)
 ge:s.get be=some (.cells (ZA p.en) 3 false 0 0)
 gm:s.get bm=some (.cells (ZA p.mr) 3 false 0 0)
 ne:[pb,bl,bp,bs,bb,be,bm].Nodup
 lt:∀j∈[pb,bl,bp,bs,bb,be,bm],j<s.next
theorem M9.mono {s s':St}{pb n bl bp bs bb be bm:Nat}{p:Pt}(h:M9 s pb n bl bp bs bb be bm p)(hn:s.next<=s'.next)(hg:∀j∈[pb,bl,bp,bs,bb,be,bm],s'.get j=s.get j):M9 s' pb n bl bp bs bb be bm p :=
 ⟨(hg _ (by simp)).trans h.g,(hg _ (by simp)).trans h.gl,(hg _ (by simp)).trans h.gp,(hg _ (by simp)).trans h.gs,(hg _ (by simp)).trans h.gb,(hg _ (by simp)).trans h.ge,(hg _ (by simp)).trans h.gm,h.ne,fun j hj=>Nat.lt_of_lt_of_le (h.lt j hj) hn⟩
structure Ap (pb bl bp bs bb be bm:Nat):Prop where
 n1:pb≠bl
 n2:pb≠bp
 n3:pb≠bs
 n4:pb≠bb
 n5:pb≠be
 n6:pb≠bm
 n7:bl≠bp
 n8:bl≠bs
 n9:bl≠bb
 jm:bl≠be
 r_:bl≠bm
 uQ:bp≠bs
 n13:bp≠bb
 n14:bp≠be
 jl:bp≠bm
 n16:bs≠bb
 n17:bs≠be
 n18:bs≠bm
 n19:bb≠be
 db:bb≠bm
 n21:be≠bm
theorem Ap.of {pb bl bp bs bb be bm:Nat}(ne:[pb,bl,bp,bs,bb,be,bm].Nodup):Ap pb bl bp bs bb be bm:=by
 simp only[aj8,ajo,List.not_mem_nil,not_or,or_false,List.nodup_nil,and_true] at ne;obtain⟨⟨n1,n2,n3,n4,n5,n6⟩,⟨n7,n8,n9,jm,r_⟩,⟨uQ,n13,n14,jl⟩,⟨n16,n17,n18⟩,⟨n19,db⟩,n21,-⟩:=ne;exact⟨n1,n2,n3,n4,n5,n6,n7,n8,n9,jm,r_,uQ,n13,n14,jl,n16,n17,n18,n19,db,n21⟩
theorem dB (args:List AV)(s:St):XR U (Zw U 171 args) 171 args s=SH U 171 args s:=(XL U 171 args s).symm
theorem da (args:List AV)(s:St):XR U (Zw U 172 args) 172 args s=SH U 172 args s:=(XL U 172 args s).symm
theorem adl (args:List AV)(s:St):XR U (Zw U 169 args) 169 args s=SH U 169 args s:=(XL U 169 args s).symm
def adn (s0:St)(pb n bl bp bs bb be bm:Nat)(p:Pt)(v:Bool)(r:Option (AV×St)):Prop :=
 ∃s',r=some (.bool v,s')/\M9 s' pb n bl bp bs bb be bm p/\s0.next<=s'.next/\Fr s'/\∀j,j<s0.next->j≠bl->j≠bp->j≠bm->s'.get j=s0.get j
theorem agc {s:St}{pb n bl bp bs bb be bm:Nat}{p:Pt}(h:M9 s pb n bl bp bs bb be bm p)(hw:p.Wf n)(hn:n<=2^20)(fr:Fr s){u:Nat}(hu:u<n) :
  adn s pb n bl bp bs bb be bm (p.WM u).1 (p.WM u).2 (SH U 171 [.ptr pb 0,.int .i64 (u:Int)] s):=by
 suffices hgo:adn s pb n bl bp bs bb be bm (p.WM u).1 (p.WM u).2 (go U (Rs U [.tmp 4]) [] gK (Zc 0 [.ptr pb 0,.int .i64 (u:Int)] .nil) s) by
  obtain⟨s',h1,h2⟩:=hgo;exact⟨s',V_ agz (by kernel_rfl) h1,h2⟩
 obtain⟨Sq,Se,yQ⟩:=hw.st u hu;obtain⟨JJ,A5,hk3⟩:=hw.sp _ Sq;obtain⟨uO,r9⟩:=hw.pl u hu;obtain⟨g,gl,gp,gs,gb,ge,gm,ne,lt⟩:=h;have nd:=ne;have A:=Ap.of nd;clear ne;have J8:=hw.ll;have hlp:=hw.lp;have uN:=hw.ls;have hle:=hw.le;have aj:=hw.lm;have q1:=X9 (l:=p.set) (i:=u) (by omega);have q2:=X9 (l:=p.place) (i:=u) (by omega);have Qg:=hw.few;have lt':pb<s.next/\bl<s.next/\bp<s.next/\bs<s.next/\bb<s.next/\be<s.next/\bm<s.next:=by
  refine⟨lt _ (by simp),lt _ (by simp),lt _ (by simp),lt _ (by simp),lt _ (by simp),lt _ (by simp),lt _ (by simp)⟩
 obtain⟨c_,gJ,lt3,lt4,gI,lt6,gH⟩:=lt';unfold Pt.WM;generalize hs:gt p.set u=k at *;generalize ha:gt p.place u=x at *;have q3:=X9 (l:=p.bg) (i:=k) Sq;have q4:=X9 (l:=p.mr) (i:=k) (by omega);have hbk:=JJ;have w1:IntKind.i64.wrap (((gt p.bg k:Nat):Int)+((gt p.mr k:Nat):Int))=((gt p.bg k+gt p.mr k:Nat):Int):=by
  have:=hw.mr k Sq;rw[wrap_i64] <;> omega
 have u1:u<p.set.length:=by omega
 have u2:u<p.place.length:=by omega
 have k2:k<p.mr.length:=by omega
 have Fh:=hw.mr k Sq;generalize ht:gt p.bg k+gt p.mr k=t at *
 cases hm:decide (x<t) with
 |true =>
  have hmI:decide ((x:Int)<(t:Int))=true:=by rw[Z9];exact hm
  simp only[go_sem,gK,g,gl,gp,gs,gb,gm,q1,q2,q3,q4,u1,u2,k2,Sq,w1,hmI,ajj];exact⟨_,rfl,M9.mono ⟨g,gl,gp,gs,gb,ge,gm,nd,lt⟩ (by rw[ZV];omega) fun j _=>ZH _ _ _,by rw[ZV];omega,fr.upto (by omega),fun j _ _ _ _=>ZH _ _ _⟩
 |false =>
  have hm':¬x<t:=by simpa using hm
  have htn:t<n:=by omega
  have hmI:decide ((x:Int)<(t:Int))=false:=by rw[Z9];exact hm
  obtain⟨zf,LB⟩:=hw.li t htn;have q5:=X9 (l:=p.list) (i:=t) (by omega);generalize ho:gt p.list t=o at *;have y1:=Vs (l:=p.list) (i:=x) o (by omega);have y2:=Vs (l:=p.list.set x o) (i:=t) u (by rw[aj0];omega);have y3:=Vs (l:=p.place) (i:=o) x (by omega);have y4:=Vs (l:=p.place.set o x) (i:=u) t (by rw[aj0];omega);have y5:=Vs (l:=p.mr) (i:=k) (gt p.mr k+1) (by omega);have q6:=X9 (l:=p.mr.set k (gt p.mr k+1)) (i:=k) (by rw[aj0];omega);rw[Uo,if_pos ⟨rfl,by omega⟩] at q6;have w2:IntKind.i64.wrap (((gt p.mr k:Nat):Int)+1)=((gt p.mr k+1:Nat):Int):=by rw[wrap_i64] <;> omega
  have e1:(((gt p.mr k+1:Nat):Int)==1)=(gt p.mr k+1==1):=ado (gt p.mr k+1) 1;have u3:x<p.list.length:=by omega
  have u4:t<p.list.length:=by omega
  have u5:o<p.place.length:=by omega
  have z1:(bl=pb)=False:=eq_false A.n1.symm;have z2:(bl=bp)=False:=eq_false A.n7;have z3:(bl=bm)=False:=eq_false A.r_;have z4:(bp=pb)=False:=eq_false A.n2.symm;have z5:(bp=bm)=False:=eq_false A.jl;have z6:(bm=pb)=False:=eq_false A.n6.symm;simp only[go_sem,gK,g,gl,gp,gs,gb,gm,q1,q2,q3,q4,q5,q6,u1,u2,u3,u4,u5,k2,Sq,w1,w2,hmI,ajj,y1,y2,y3,y4,y5,z1,z2,z3,z4,z5,z6,e1];refine⟨_,rfl,⟨?_,?_,?_,?_,?_,?_,?_,nd,fun j hj=>?_⟩,?_,?_,fun j h1 h2 h3 h4=>?_⟩
  ·rw[Z0,if_neg A.n6.symm,Z0,if_neg A.n2.symm,Z0,if_neg A.n2.symm,ZH,Z0,if_neg A.n1.symm,Z0,if_neg A.n1.symm,ZH,ZH,g];simp only[aj0]
  ·rw[Z0,if_neg A.r_.symm,Z0,if_neg A.n7.symm,Z0,if_neg A.n7.symm,ZH,Z0,if_pos rfl]
  ·rw[Z0,if_neg A.jl.symm,Z0,if_pos rfl]
  ·rw[Z0,if_neg A.n18.symm,Z0,if_neg A.uQ,Z0,if_neg A.uQ,ZH,Z0,if_neg A.n8,Z0,if_neg A.n8,ZH,ZH,gs]
  ·rw[Z0,if_neg A.db.symm,Z0,if_neg A.n13,Z0,if_neg A.n13,ZH,Z0,if_neg A.n9,Z0,if_neg A.n9,ZH,ZH,gb]
  ·rw[Z0,if_neg A.n21.symm,Z0,if_neg A.n14,Z0,if_neg A.n14,ZH,Z0,if_neg A.jm,Z0,if_neg A.jm,ZH,ZH,ge]
  ·rw[Z0,if_pos rfl]
  ·simp only[Z_,ZV];have:=lt j hj;omega
  ·simp only[Z_,ZV];omega
  ·exact (((((((fr.upto (by omega)).upto (by rw[ZV];omega)).put (by rw[ZV];omega) _).put (by rw[Z_,ZV];omega) _).upto (by rw[Z_,Z_,ZV];omega)).put (by rw[ZV];omega) _).put (by rw[Z_,ZV];omega) _).put (by rw[Z_,Z_,ZV];omega) _
  ·rw[Z0,if_neg h4.symm,Z0,if_neg h3.symm,Z0,if_neg h3.symm,ZH,Z0,if_neg h2.symm,Z0,if_neg h2.symm,ZH,ZH]
end Go.Am
namespace Go.Am
open Go
variable [ZZ]
set_option maxRecDepth 100000
set_option maxHeartbeats 8000000
def az:RC:=(sO [Zz 4 0,o 5 (.Qb (.v .Ul))] (sO [om 6 0,YO 7 147 6] (sO [om 8 0,om 9 0,Yi 10 9,ZP 11 1 10,ZS 12 11,om 13 1,VE 14 5 1 1 12 13,Yi 15 8,ZP 16 1 15,Yw 1 16 14] (sO [om 17 1,Mi 18 17,om 4 18,o 5 (.Qb (.v .Ul))] .ret))))
theorem acZ:Zb 79=some ([.tmp 4,.tmp 5],az):=by kernel_rfl
def abt:RC:=(sO [HM 2] (sQ (.Sf 12 [om 3 0,Yi 4 3,ZP 5 1 4,ZS 6 5,o 7 (.raw (.call { callee:=.builtin .unsafeSliceData,args:=#[(.tmp 6)],argTypes:=#[148] })),om 8 0,Yi 9 8,ZP 10 1 9,ZS 11 10,YS 12 11,⟨some 13,none,none,true,.raw (.call { callee:=.builtin .unsafeString,args:=#[(.tmp 7),(.tmp 12)],argTypes:=#[228,3] })⟩,om 2 13]) .ret))
theorem aey:Zb 81=some ([.tmp 2],abt):=by kernel_rfl
def aez:RC:=(sO [HM 2] (sO [om 3 0,YO 4 251 3,om 2 4] .ret))
theorem ahs:Zb 215=some ([.tmp 2],aez):=by kernel_rfl
def aeA:RC:=(sO [HM 2] (sQ (sO [om 3 0] (cT 3 (sO [o 2 (.Qb (.v (.str [116,114,117,101])))] .ret))) (sO [o 2 (.Qb (.v (.str [102,97,108,115,101])))] .ret)))
theorem aht:Zb 251=some ([.tmp 2],aeA):=by kernel_rfl
def X5 (bs:X6):List AV:=bs.map fun c=>.int .u8 c.toNat
theorem SV (bs:X6):(X5 bs).length=bs.length:=by simp[X5]
theorem Mv (bs:X6):(X5 bs).all Zx=true:=by
 induction bs with
 |nil=>rfl
 |cons c l ih=>rw[X5,aju,List.all_cons];exact ih
theorem Ad (bs:X6):Xn (X5 bs)=some bs:=by
 induction bs with
 |nil=>rfl
 |cons c l ih =>
  show Xn (.int .u8 c.toNat::X5 l)=_;simp only[Xn,ih,ajD,UInt8.ofNat_toNat]
def JX (s:St)(b:Nat)(bs:X6):Prop:=∃p v,s.get b=some (.cells [p,v] 150 false 0 0)/\(p=.VI\/p=.ptr b 0)/\b<s.next/\ZF s (b+1) 5 1 bs.length (X5 bs) v
theorem ay (args:List AV)(s:St):XR U (Zw U 147 args) 147 args s=SH U 147 args s:=(XL U 147 args s).symm
theorem oD (args:List AV)(s:St):XR U (Zw U 79 args) 79 args s=SH U 79 args s:=(XL U 79 args s).symm
theorem va (args:List AV)(s:St):XR U (Zw U 81 args) 81 args s=SH U 81 args s:=(XL U 81 args s).symm
theorem eJ (args:List AV)(s:St):SH U 147 args s=Ot args s:=by
 unfold SH UG;rw[AP];rfl
theorem aA {s:St}{b:Nat}{p v:AV}(hg:s.get b=some (.cells [p,v] 150 false 0 0))(hp:p=.VI\/p=.ptr b 0)(hb:b<s.next) :
  ∃s0,SH U 147 [.ptr b 0] s=some (.XF [],s0)/\s0.next=s.next/\s0.get b=some (.cells [.ptr b 0,v] 150 false 0 0)/\(∀j,j≠b->s0.get j=s.get j)/\(Fr s->Fr s0):=by
 rw[eJ];rcases hp with rfl|rfl
 ·refine⟨s.put b (.cells [.ptr b 0,v] 150 false 0 0),by simp only[Ot,hg,if_true],rfl,by rw[Z0,if_pos rfl],fun j hj=>by rw[Z0,if_neg (by omega)],fun h=>h.put hb _⟩
 ·exact⟨s,by simp only[Ot,hg,if_true],rfl,hg,fun _ _=>rfl,fun h=>h⟩
theorem Mu (t:X6)(s:St):WV 1 (.str t) s=some (t.length,X5 t):=rfl
theorem agh {s:St}{b:Nat}{bs:X6}(h:JX s b bs)(hf:Fr s)(t:X6)(ht:t≠[])(hlen:bs.length+t.length<=2^39) :
  ∃s' r,SH U 79 [.ptr b 0,.str t] s=some (r,s')/\JX s' b (bs++t)/\Fr s'/\s.next<=s'.next/\∀j,j<b->s'.get j=s.get j:=by
 obtain⟨p,v,hg,hp,hb,hv⟩:=h;obtain⟨s0,g1,g2,g3,g4,g5⟩:=aA hg hp hb;have Qf:=hv.Xg;have Un:(bs.length+t.length)*1<=1099511627776:=by omega
 have VD:bs.length+t.length<=1099511627776:=by omega
 have iX:(t.length=0)=False:=by simp[ht]
 have Qm:ZF s0 (b+1) 5 1 bs.length (X5 bs) v:=hv.mono (by omega) fun j hj yh=>g4 j (by omega)
 obtain⟨s1,e1,e2,e3,e4,e5⟩:=Qm.app (by omega) (m:=t.length) (new:=X5 t) (by intro h0;simp[ht] at h0) (by rw[SV];omega) (Mv t);have kb:=e4 b (by omega);rw[g3] at kb;rw[g2] at e1 e2 e3;refine⟨s1.put b (.cells [.ptr b 0,.sl s.next 0 (bs.length+t.length) none 1] 150 false 0 0),.XF [.int .i64 t.length,.Ul],?_,⟨.ptr b 0,.sl s.next 0 (bs.length+t.length) none 1,by rw[Z0,if_pos rfl],.inr rfl,by rw[Z_];omega,?_⟩,(e5 (g5 hf)).put (by omega) _,by rw[Z_];omega,fun j hj=>?_⟩
 ·refine V_ acZ (by kernel_rfl) ?_;simp only[go_sem,az,ay,g1,g2,g3,Mu,Nat.add_eq_left,ZD,Qf,Un,VD,Nat.reducePow,SV,iX,ajj,not_false_eq_true];rw[e1];simp only[go_sem,kb]
 ·have hl:(bs++t).length=bs.length+t.length:=by simp
  rw[hl];have yS:X5 (bs++t)=X5 bs++X5 t:=by simp[X5]
  rw[yS];exact e3.mono (by rw[Z_];omega) fun j hj _=>by rw[Z0,if_neg (by omega)]
 ·rw[Z0,if_neg (by omega),e4 j (by omega),g4 j (by omega)]
def sdK (v:Option AV)(s:St):Option (AV×St):=match v with
 |some .ZM=>some (.VI,s)
 |some (.sl b o (_+1) _ _)=>some (.ptr b o,s)
 |_=>none
theorem abv (ex:Ex)(e:Env)(s:St)(x:Operand)(ts:Array TypeId):YK U ex e (.call { callee:=.builtin .unsafeSliceData,args:=#[x],argTypes:=ts }) s=sdK (eval U e x) s:=by
 have h:YK U ex e (.call { callee:=.builtin .unsafeSliceData,args:=#[x],argTypes:=ts }) s=match Wz U e [x] with
  |some vs=>Yr U .unsafeSliceData ts vs s
  |none=>none:=rfl
 rw[h];simp only[Wz]
 cases eval U e x with
 |none=>rfl
 |some v =>
  cases v <;> try rfl
  rename_i b o n c z
  cases n <;> rfl
noncomputable def usK (ts:Array TypeId)(p n:Option AV)(s:St):Option (AV×St):=match p,n with
 |some p,some n=>Yr U .unsafeString ts [p,n] s
 |_,_=>none
theorem abw (ex:Ex)(e:Env)(s:St)(x y:Operand)(ts:Array TypeId):YK U ex e (.call { callee:=.builtin .unsafeString,args:=#[x,y],argTypes:=ts }) s=usK ts (eval U e x) (eval U e y) s:=by
 have h:YK U ex e (.call { callee:=.builtin .unsafeString,args:=#[x,y],argTypes:=ts }) s=match Wz U e [x,y] with
  |some vs=>Yr U .unsafeString ts vs s
  |none=>none:=rfl
 rw[h];simp only[Wz]
 cases eval U e x with
 |none=>rfl
 |some v=>cases eval U e y <;> rfl
theorem lC (s:St):sdK (some .ZM) s=some (.VI,s):=rfl
theorem abx (b o n:Nat)(c:Option Nat)(z:Nat)(s:St):sdK (some (.sl b o (n+1) c z)) s=some (.ptr b o,s):=rfl
theorem lA (ts:Array TypeId)(p n:AV)(s:St):usK ts (some p) (some n) s=Yr U .unsafeString ts [p,n] s:=rfl
theorem aby (s:St):Yr U .unsafeString #[228,3] [.VI,.int .i64 0] s=some (.str [],s):=rfl
theorem abz {s:St}{j:Nat}{bs:X6}{lo hi:Nat}(hg:s.get j=some (.cells (X5 bs) 5 false lo hi))(h0:bs≠[])(hl:bs.length<=2^39):Yr U .unsafeString #[228,3] [.ptr j 0,.int .i64 bs.length] s=some (.str bs,s.put j (.cells (X5 bs) 5 true 0 0)):=by
 have hu:U.Zj 228=some (.pointer 5):=by kernel_rfl
 have Zv:¬(bs.length:Int)=0:=by
  have:=List.length_pos_iff.2 h0;omega
 have hb:¬((bs.length:Int)<0\/(bs.length:Int)>2^40):=by omega
 unfold Yr;simp only[if_neg Zv,if_neg hb,hg];have hgr:XE bs.length 0 (X5 bs)=some (X5 bs):=by
  have:=Wi (X5 bs)
  rwa [SV] at this
 simp[hu,adJ,hgr,Ad]
attribute [go_sem ↓] abv abw
attribute [go_sem] lC abx lA aby
theorem oC {s:St}{b:Nat}{bs:X6}(h:JX s b bs)(hf:Fr s)(hl:bs.length<=2^39):∃s',SH U 81 [.ptr b 0] s=some (.str bs,s')/\s.next<=s'.next/\Fr s'/\∀j,j<=b->s'.get j=s.get j:=by
 obtain⟨p,v,hg,hp,hb,hv⟩:=h;rcases hv with⟨h0,rfl,h2⟩|⟨h0,h1,j,h2,h3,rfl,h5⟩
 ·have:bs=[]:=ajI.1 h0;subst this;refine⟨s.upto (s.next+12),V_ aey (by kernel_rfl) ?_,by rw[ZV];omega,hf.upto (by omega),fun j _=>ZH _ _ _⟩;simp only[go_sem,abt,hg]
 ·have Zv:bs≠[]:=by rintro rfl;simp at h0
  have NP:=abz (s:=s.upto (s.next+12)) (bs:=bs) (j:=j) (by rw[ZH];exact h5) Zv hl;obtain⟨n,hn⟩:∃n,bs.length=n+1:=⟨bs.length-1,by omega⟩;refine⟨(s.upto (s.next+12)).put j (.cells (X5 bs) 5 true 0 0),V_ aey (by kernel_rfl) ?_,by rw[Z_,ZV];omega,(hf.upto (by omega)).put (by rw[ZV];omega) _,fun i hi=>by rw[Z0,if_neg (by omega),ZH]⟩;rw[hn] at hg NP;simp only[go_sem,abt,hg,NP]
def Bu:Bool->X6
 |true=>[116,114,117,101]
 |false=>[102,97,108,115,101]
theorem ahz (x:Bool):Zw U 251 [.bool x]=some (.str (Bu x)):=by
 refine ZI aht (by kernel_rfl) rfl ?_
 cases x <;> simp only[go_sem,aeA,Bu]
theorem agf (x:Bool):Zw U 215 [.bool x]=some (.str (Bu x)):=by
 refine ZI ahs (by kernel_rfl) rfl ?_;have:=ahz x;simp only[go_sem,aez,this]
def RZ (l:List Bool):X6:=l.flatMap Bu
theorem aC (x:Bool):Bu x≠[]:=by cases x <;> simp[Bu]
theorem Hq:∀{a b:List Bool},a.length=b.length->RZ a=RZ b->a=b
 |[],[],_,_=>rfl
 |x::a,y::b,hl,h=>by
  have D3:a.length=b.length:=by simpa using hl
  simp only[RZ,ajL] at h
  cases x <;> cases y <;> simp only[Bu,ajz,ajP,List.cons.injEq] at h
  ·rw[Hq D3 h.2.2.2.2.2]
  ·exact absurd h.1 (by decide)
  ·exact absurd h.1 (by decide)
  ·rw[Hq D3 h.2.2.2.2]
 |[],_::_,h,_=>by simp at h
 |_::_,[],h,_=>by simp at h
def zg (es:List (X6×AV)):List (AV×AV):=es.map fun x=>(AV.str x.1,x.2)
def F7 (k:X6):List (X6×AV)->Option AV
 |[]=>none
 |x::l=>bif k==x.1 then some x.2 else F7 k l
def F6 (k:X6)(v:AV):List (X6×AV)->List (X6×AV)
 |[]=>[(k,v)]
 |x::l=>bif k==x.1 then (k,v)::l else x::F6 k v l
theorem Fe (k:X6):∀es,VH (.str k) (zg es)=some (F7 k es)
 |[]=>rfl
 |x::l=>by
  have ih:=Fe k l;show VH (.str k) ((AV.str x.1,x.2)::zg l)=_;rw[VH,F7,WB]
  cases k==x.1 with
  |true=>rfl
  |false=>exact ih
theorem By (k:X6)(v:AV):∀es,Mw (.str k) v (zg es)=some (zg (F6 k v es))
 |[]=>rfl
 |x::l=>by
  have ih:=By k v l;show Mw (.str k) v ((AV.str x.1,x.2)::zg l)=_;rw[Mw,F6,WB]
  cases k==x.1 with
  |true=>rfl
  |false=>simp only[ih];rfl
theorem Fo {s:St}{m:Nat}{es:List (X6×AV)}(h:s.get m=some (.map (zg es) false))(k:X6):Xh U 286 (.map m) (.str k) false s=some ((F7 k es).getD .ZM):=by
 have hu:U.Zj 286=some (.map 9 48):=by kernel_rfl
 have h9:U.Zj 9=some .string:=by kernel_rfl
 have hz:zero U 48=some .ZM:=by kernel_rfl
 unfold Xh;rw[hu];simp only[Vi,h9,if_true,h,Fe]
 cases F7 k es with
 |none=>simp only[hz];rfl
 |some v=>rfl
theorem sH {s:St}{m:Nat}{es:List (X6×AV)}(h:s.get m=some (.map (zg es) false))(k:X6)(v:AV):V0 U 286 (.map m) (.str k) v s=some (s.put m (.map (zg (F6 k v es)) false)):=by
 have hu:U.Zj 286=some (.map 9 48):=by kernel_rfl
 have h9:U.Zj 9=some .string:=by kernel_rfl
 unfold V0;rw[hu];simp only[Vi,h9,if_true,h,By]
noncomputable def oG (t:TypeId)(m k v:Option AV)(s:St):Option (AV×St):=match m,k,v with
 |some m,some k,some v=>PE (V0 U t m k v s)
 |_,_,_=>none
theorem F5 (ex:Ex)(e:Env)(s:St)(t:TypeId)(m k v:Operand):YK U ex e (.mapUpdate t m k v) s=oG t (eval U e m) (eval U e k) (eval U e v) s:=by
 unfold oG;simp only[YK];rfl
theorem Bx (ex:Ex)(e:Env)(s:St)(t:TypeId)(m k v:Operand):YK U ex e (.insert t m k v) s=oG t (eval U e m) (eval U e k) (eval U e v) s:=by
 unfold oG;simp only[YK];rfl
theorem sE (t:TypeId)(m k v:AV)(s:St):oG t (some m) (some k) (some v) s=PE (V0 U t m k v s):=(fun h=>h) rfl
theorem Bw (ex:Ex)(e:Env)(s:St)(t:TypeId):YK U ex e (.makeMap t none) s=some (.map s.next,s.new (.map [] false)):=(fun h=>h) rfl
attribute [go_sem ↓] F5 Bx Bw
attribute [go_sem] sE
def TG (len:X6->Nat):List X6->List Nat->List (X6×AV)
 |k::ks,b::bs=>(k,.sl b 0 (len k) none 1)::TG len ks bs
 |_,_=>[]
theorem Dq {len:X6->Nat}:∀{ks:List X6} {bs:List Nat} {j:Nat} (hn:ks.Nodup) (hl:bs.length=ks.length) (h:j<ks.length),F7 ks[j] (TG len ks bs)=some (.sl (bs[j]'(by omega)) 0 (len ks[j]) none 1)
 |k::ks,b::bs,0,hn,hl,h=>by simp[TG,F7]
 |k::ks,b::bs,j+1,hn,hl,h=>by
  rw[aj8] at hn;have hj:j<ks.length:=by simpa using h
  have ih:=Dq (len:=len) (bs:=bs) hn.2 (by simpa using hl) hj;have Zv:(ks[j]==k)=false:=by
   have:ks[j]≠k:=fun e=>hn.1 (e ▸ ajc hj)
   simpa using this
  simp only[List.getElem_cons_succ,TG,F7,Zv,cond_false];exact ih
 |k::ks,[],_,_,hl,_=>by simp at hl
 |[],_,_,_,_,h=>by simp at h
theorem Fc {len:X6->Nat}{k:X6}:∀{ks:List X6} {bs:List Nat},k∉ks->F7 k (TG len ks bs)=none
 |[],bs,_=>by cases bs <;> rfl
 |x::ks,[],_=>rfl
 |x::ks,b::bs,h=>by
  rw[ajo,not_or] at h;have Zv:(k==x)=false:=by simpa using h.1
  simp only[TG,F7,Zv,cond_false];exact Fc h.2
theorem Ip {len N':X6->Nat}:∀{ks:List X6} {bs:List Nat},(∀k∈ks,len k=N' k)->TG len ks bs=TG N' ks bs
 |[],bs,_=>by cases bs <;> rfl
 |x::ks,[],_=>rfl
 |x::ks,b::bs,h=>by
  simp only[TG];rw[h x (aba ..),Ip fun k hk=>h k (aab _ hk)]
theorem vg {len N':X6->Nat}:∀{ks:List X6} {bs:List Nat} {j b':Nat} (hn:ks.Nodup) (hl:bs.length=ks.length) (h:j<ks.length),(∀k∈ks,k≠ks[j]->len k=N' k)->F6 ks[j] (.sl b' 0 (N' ks[j]) none 1) (TG len ks bs)=TG N' ks (bs.set j b')
 |k::ks,b::bs,0,b',hn,hl,h,hc=>by
  rw[aj8] at hn;simp only[List.getElem_cons_zero,TG,F6,beq_self_eq_true,cond_true,List.set_cons_zero];rw[Ip fun x hx=>hc x (aab _ hx) fun e=>by simp at e;exact hn.1 (e ▸ hx)]
 |k::ks,b::bs,j+1,b',hn,hl,h,hc=>by
  rw[aj8] at hn;have hj:j<ks.length:=by simpa using h
  have acU:k≠ks[j]:=fun e=>hn.1 (e ▸ ajc hj)
  have Zv:(ks[j]==k)=false:=by simpa using acU.symm
  have ih:=vg (len:=len) (N':=N') (bs:=bs) (b':=b') hn.2 (by simpa using hl) hj fun x hx hxe=>hc x (aab _ hx) (by simpa using hxe)
  simp only[List.getElem_cons_succ,TG,F6,Zv,cond_false,List.set_cons_succ];rw[ih,hc k (aba ..) (by simpa using acU)]
 |k::ks,[],_,_,_,hl,_,_=>by simp at hl
 |[],_,_,_,_,_,h,_=>by simp at h
theorem Bv {len N':X6->Nat}{k:X6}{b':Nat}:∀{ks:List X6} {bs:List Nat},k∉ks->bs.length=ks.length->(∀x∈ks,len x=N' x)->F6 k (.sl b' 0 (N' k) none 1) (TG len ks bs)=TG N' (ks++[k]) (bs++[b'])
 |[],[],_,_,_=>by simp[TG,F6]
 |x::ks,b::bs,h,hl,hc=>by
  rw[ajo,not_or] at h;have Zv:(k==x)=false:=by simpa using h.1
  have ih:=Bv (len:=len) (N':=N') (b':=b') (bs:=bs) h.2 (by simpa using hl) fun y hy=>hc y (aab _ hy)
  simp only[TG,F6,Zv,cond_false,ajz];rw[ih,hc x (aba ..)]
 |[],_::_,_,hl,_=>by simp at hl
 |_::_,[],_,hl,_=>by simp at hl
theorem acV {β:Type}{fin:Fl->β}{ks:List K}{Zu:β->Prop}{nl:Bool}{l:List Bool}(hl:l.length<=2^20){b:Nat}{e:Env}{s:St}(g8:Env.get e 8=.ptr b 0)(g35:Env.get e 35=ZG nl (ZB l))(oE:Env.get e 36=.int .i64 l.length)(yj:Env.get e 37=.int .i64 (0:Nat))
  (hb:JX s b [])(fr:Fr s)
  (hk:∀e' s',(∀t:Nat,t<10->Env.get e' t=Env.get e t)->(∀t:Nat,26<t->t<35->Env.get e' t=Env.get e t)->JX s' b (RZ l)->(∀j,j<b->s'.get j=s.get j)->s.next<=s'.next->Fr s'->Zu (goN U fin ks e' s')) :
  Zu (SC U fin (.bk 2::ks) JF e s):=by
 have acW:∀l:List Bool,(RZ l).length<=l.length*5:=by
  intro l
  induction l with
  |nil=>simp[RZ]
  |cons x l ih =>
   have:(RZ (x::l)).length=(Bu x).length+(RZ l).length:=by simp[RZ]
   have h5:(Bu x).length<=5:=by cases x <;> simp[Bu]
   simp only[ajk];omega
 refine YG (σ:=Nat) (fun i=>l.length-i) (fun i e' s'=>i<=l.length/\(∀t:Nat,t<10->Env.get e' t=Env.get e t)/\(∀t:Nat,26<t->t<37->Env.get e' t=Env.get e t)/\Env.get e' 37=.int .i64 (i:Nat)/\JX s' b (RZ (l.take i))/\(∀j,j<b->s'.get j=s.get j)/\s.next<=s'.next/\Fr s') 0 ?_
  ⟨aji _,fun _ _=>rfl,fun _ _ _=>rfl,yj,hb,fun _ _=>rfl,ajg _,fr⟩
 rintro Lp i e' s' ⟨hi,hold,vf,q37,hbi,hs,UL,UB⟩ IH;have q8:=(hold 8 (by omega)).trans g8;have q35:=(vf 35 (by omega) (by omega)).trans g35;have q36:=(vf 36 (by omega) (by omega)).trans oE;by_cases hd:i<l.length
 ·have hw:=ZE hd (by omega);have hx:=Fb (nl:=nl) hd;have h244:=agf l[i];have JJ:=acW (l.take i);have htl:(l.take i).length=i:=by rw[aj2];omega
  have h5:(Bu l[i]).length<=5:=by cases l[i] <;> simp[Bu]
  obtain⟨s2,r,e1,e2,e3,e4,e5⟩:=agh hbi UB (Bu l[i]) (aC _) (by omega);simp only[go_sem,JF,q8,q35,q36,q37,Z9,hd,hx,h244,oD,e1,hw];have ij:RZ (l.take (i+1))=RZ (l.take i)++Bu l[i]:=by rw[ajC hd,RZ,List.flatMap_append];simp[RZ]
  refine IH (i+1) _ _ (by omega) ⟨by omega,fun t ht=>?_,fun t h1 h2=>?_,?_,by rw[ij];exact e2,fun j hj=>by rw[e5 j hj,hs j hj],by omega,e3⟩
  ·have Zv:∀k:Nat,10<=k->(k=t)=False:=fun k hk=>by simp;omega
   simp only[go_sem,Zv];exact hold t ht
  ·have Zv:∀k:Nat,37<=k->(k=t)=False:=fun k hk=>by simp;omega
   have acX:(10=t)=False:=by simp;omega
   simp only[go_sem,Zv,acX];exact vf t h1 h2
  ·simp only[go_sem]
 ·have:i=l.length:=by omega
  subst this;rw[List.take_length] at hbi;simp only[go_sem,JF,q36,q37,Z9,ajp];refine hk _ _ (fun t ht=>?_) (fun t h1 h2=>?_) hbi hs UL UB
  ·have Zv:∀k:Nat,10<=k->(k=t)=False:=fun k hk=>by simp;omega
   simp only[go_sem,Zv];exact hold t ht
  ·have Zv:∀k:Nat,37<=k->(k=t)=False:=fun k hk=>by simp;omega
   simp only[go_sem,Zv];exact vf t h1 (by omega)
theorem BG {s:St}{b n:Nat}{L:List Nat}(hL:L.length=n)(hg:s.get b=some (.cells (ZA L) 3 false 0 0))(k:Nat) :
  QE 3 1 1 [.int .i64 (k:Int)] (.sl b 0 n none 1) s=some (.sl s.next 0 (n+1) none 1,(s.put b .gone).new (.cells (ZA (L++[k])) 3 false 0 0)):=by
 have Fm:(ZA L).length=n*1:=by rw[U',hL,ajj]
 rw[Tg,hg,UO Fm (by omega) rfl,L7]
def strs (l:List X6):List AV:=l.map .str
def Zg (a:YY)(u:Nat):X6:=RZ (a.ZC.getD u (true,[])).2
structure Grp (s:St)(m:Nat)(κ:Nat->X6)(i:Nat)(bl:List Nat)(vo:AV):Prop where
 gm:s.get m=some (.map (zg (TG (fun k=>(S2 κ k i).length) (YC κ i) bl)) false)
 len:bl.length=(YC κ i).length
 nd:bl.Nodup
 Gv:∀j (h:j<bl.length) (h':j<(YC κ i).length),m<bl[j]/\bl[j]<s.next/\s.get bl[j]=some (.cells (ZA (S2 κ (YC κ i)[j] i)) 3 false 0 0)
 row:ZF s (m+1) 9 1 (YC κ i).length (strs (YC κ i)) vo
theorem vw (κ:Nat->X6)(k:X6)(n:Nat):(S2 κ k n).length<=n:=by
 have:=List.length_filter_le (fun i=>decide (κ i=k)) (List.range n);rw[List.length_range] at this;exact this
theorem Eg {b:Nat}:∀{l:List Nat} {j:Nat},l.Nodup->b∉l->(l.set j b).Nodup
 |[],j,_,_=>by simp
 |x::l,0,h,hb=>by
  rw[aj8] at h;rw[List.set_cons_zero,aj8];exact⟨fun hm=>hb (aab _ hm),h.2⟩
 |x::l,j+1,h,hb=>by
  rw[aj8] at h;rw[ajo,not_or] at hb;rw[List.set_cons_succ,aj8];refine⟨fun hm=>?_,Eg h.2 hb.2⟩;rcases List.mem_or_eq_of_mem_set hm with h1|h1
  ·exact h.1 h1
  ·exact hb.1 h1.symm
theorem ad_ {β:Type}{fin:Fl->β}{ks:List K}{Zu:β->Prop}{a:YY}(ha:a.ok){m:Nat}{e:Env}{s:St}(g4:Env.get e 4=.map m)(g5:Env.get e 5=.ZM)(g28:Env.get e 28=ZG a.Tc (a.ZC.map Zq))(g29:Env.get e 29=.int .i64 a.ZC.length)(g30:Env.get e 30=.int .i64 (0:Nat))
  (gm:s.get m=some (.map [] false))(nm:m<s.next)(fr:Fr s)
  (hk:∀e' s' bl vo,(∀t:Nat,t<5->Env.get e' t=Env.get e t)->Env.get e' 5=vo->Grp s' m (Zg a) a.next.length bl vo->(∀j,j<m->s'.get j=s.get j)->s.next<=s'.next->Fr s'->Zu (goN U fin ks e' s')) :
  Zu (SC U fin (.bk 0::ks) Jq e s):=by
 have Qg:=ha.few;have Lt:=ha.fl;refine YG (σ:=Nat) (fun i=>a.ZC.length-i) (fun i e' s'=>i<=a.ZC.length/\(∀t:Nat,t<5->Env.get e' t=Env.get e t)/\Env.get e' 28=ZG a.Tc (a.ZC.map Zq)/\Env.get e' 29=.int .i64 a.ZC.length/\Env.get e' 30=.int .i64 (i:Nat)/\(∀j,j<m->s'.get j=s.get j)/\s.next<=s'.next/\Fr s' /\
   ∃bl vo,Env.get e' 5=vo/\Grp s' m (Zg a) i bl vo) 0 ?_
  ⟨aji _,fun _ _=>rfl,g28,g29,g30,fun _ _=>rfl,ajg _,fr,[],.ZM,g5,⟨by rw[gm];rfl,rfl,by simp,fun j h=>by simp at h,ZF.nil _ _ _ _⟩⟩
 rintro Lp i e' s' ⟨hi,hold,q28,q29,q30,hs,UL,UB,bl,vo,q5,G⟩ IH;have q4:=(hold 4 (by omega)).trans g4;by_cases hd:i<a.ZC.length
 ·have Qp:=ZE hd (by omega);have hx:=Pg (nl:=a.Tc) hd;have vQ:=ha.Wg i hd;have Gk:=ha.m16;have Qf:=ZJ a.ZC[i].1 (ZB a.ZC[i].2);rw[Wm] at Qf;have hκ:Zg a i=RZ a.ZC[i].2:=by unfold Zg;rw[XT hd]
  simp only[go_sem,Jq,q4,q28,q29,q30,Z9,hd,hx,Qf];refine acV (nl:=a.ZC[i].1) (l:=a.ZC[i].2) (b:=s'.next) (by omega) ?_ ?_ ?_ ?_ ?_ ?_ ?_
  case refine_7 =>
   intro e2 s2 Og jB hbi Se Gc IV;rw[<-hκ] at hbi;have Cp:(Zg a i).length<=2^39:=by
    have:∀l:List Bool,(RZ l).length<=l.length*5:=by
     intro l
     induction l with
     |nil=>simp[RZ]
     |cons x l ih =>
      have:(RZ (x::l)).length=(Bu x).length+(RZ l).length:=by simp[RZ]
      have h5:(Bu x).length<=5:=by cases x <;> simp[Bu]
      simp only[ajk];omega
    have:=this a.ZC[i].2;rw[hκ];omega
   obtain⟨s3,c1,c2,c3,c4⟩:=oC hbi IV Cp;rw[Z'] at Gc;have old:∀j,j<s'.next->s3.get j=s'.get j:=fun j hj=>by rw[c4 j (by omega),Se j hj,ZY,if_neg (by omega)]
   have p4:Env.get e2 4=.map m:=by rw[Og 4 (by omega)];simp only[go_sem,q4]
   have p5:Env.get e2 5=vo:=by rw[Og 5 (by omega)];simp only[go_sem,q5]
   have p6:Env.get e2 6=.int .i64 (i:Nat):=by rw[Og 6 (by omega)];simp only[go_sem]
   have p8:Env.get e2 8=.ptr s'.next 0:=by rw[Og 8 (by omega)];simp only[go_sem]
   have p28:Env.get e2 28=ZG a.Tc (a.ZC.map Zq):=by rw[jB 28 (by omega) (by omega)];simp only[go_sem,q28]
   have p29:Env.get e2 29=.int .i64 a.ZC.length:=by rw[jB 29 (by omega) (by omega)];simp only[go_sem,q29]
   have p30:Env.get e2 30=.int .i64 (i:Nat):=by rw[jB 30 (by omega) (by omega)];simp only[go_sem,q30]
   have pl:∀t:Nat,t<5->Env.get e2 t=Env.get e t:=fun t ht=>by
    rw[Og t (by omega)];have Zv:∀k:Nat,6<=k->(k=t)=False:=fun k hk=>by simp;omega
    simp only[go_sem,Zv];exact hold t ht
   obtain⟨Gm,yA,Gnd,yz,ik⟩:=G;have nm':m<s'.next:=by omega
   have um:=(old m nm').trans Gm;have hgl:=vw (Zg a) (Zg a i) i;have lk:=fun (S:St) (h:S.get m=some (.map (zg (TG (fun k=>(S2 (Zg a) k i).length) (YC (Zg a) i) bl)) false))=>Fo h (Zg a i)
   have up:=fun (S:St) (v:AV) (h:S.get m=some (.map (zg (TG (fun k=>(S2 (Zg a) k i).length) (YC (Zg a) i) bl)) false))=>sH h (Zg a i) v
   have ko:S2 (Zg a) (Zg a i) (i+1)=S2 (Zg a) (Zg a i) i++[i]:=by rw[LJ,if_pos rfl]
   by_cases Sd:Zg a i∈YC (Zg a) i
   ·obtain⟨j,hj,hje⟩:=ajw.1 Sd;have hJ:j<bl.length:=by omega
    obtain⟨b1,b2,b3⟩:=yz j hJ hj;rw[hje] at b3;have Gu:=Dq (len:=fun k=>(S2 (Zg a) k i).length) (bs:=bl) (QM (Zg a) i) yA hj;rw[hje] at Gu;have Dr:0<(S2 (Zg a) (Zg a i) i).length:=by
     obtain⟨u,F9,NB⟩:=(TV (Zg a) (Zg a i) i).1 Sd;exact List.length_pos_of_mem ((QN _ _ _ _).2 ⟨F9,NB⟩)
    rw[Gu] at lk;simp only[akk] at lk;have hz:(((S2 (Zg a) (Zg a i) i).length:Int)==0)=false:=by simp;intro e;rw[e] at Dr;simp at Dr
    have u3:=(old _ b2).trans b3;have ax:=fun (S:St) (h:S.get bl[j]=some (.cells (ZA (S2 (Zg a) (Zg a i) i)) 3 false 0 0))=>BG rfl h i
    have Un:((S2 (Zg a) (Zg a i) i).length+1)*8<=1099511627776:=by omega
    have VD:(S2 (Zg a) (Zg a i) i).length+1<=1099511627776:=by omega
    have z1:(s3.next=m)=False:=by simp;omega
    have z2:(s3.next+1=m)=False:=by simp;omega
    have z3:(bl[j]=m)=False:=by simp;omega
    have z4:(s3.next=bl[j])=False:=by simp;omega
    simp only[go_sem,p4,p6,p8,p30,va,c1,um,lk,up,hz,u3,ax,ZD,Nat.reducePow,ajB,Un,VD,z1,z2,z3,z4,Qp];have JS:YC (Zg a) (i+1)=YC (Zg a) i:=by rw[YC,if_pos Sd]
    have S8:∀x y z k,k<s3.next->k≠m->k≠bl[j]->((((s3.new x).put bl[j] y).new z).put m (.map (zg (TG (fun k=>(S2 (Zg a) k (i+1)).length) (YC (Zg a) i) (bl.set j (s3.next+1)))) false)).get k=s3.get k:=fun x y z k h1 h2 h3=>by
     rw[Z0,if_neg h2.symm,ZY,Z_,Z',if_neg (by omega),Z0,if_neg h3.symm,ZY,if_neg (by omega)]
    have Bm:=vg (len:=fun k=>(S2 (Zg a) k i).length) (N':=fun k=>(S2 (Zg a) k (i+1)).length) (bs:=bl) (b':=s3.next+1) (QM (Zg a) i) yA hj (fun k _ ck=>by
     rw[hje] at ck;simp only[LJ,if_neg (fun e=>ck (Eq.symm e))])
    rw[hje] at Bm;simp only[ko,ajh,ajR] at Bm;rw[Bm];have lbl:∀x∈bl,x<s'.next:=fun x hx=>by
     obtain⟨k,JJ,rfl⟩:=ajw.1 hx;exact (yz k JJ (by omega)).2.1
    refine IH (i+1) _ _ (by omega) ⟨by omega,fun t ht=>?_,?_,?_,?_,fun k hk=>?_,by simp only[Z_,Z'];omega,(((c3.new _).put (by rw[Z'];omega) _).new _).put (by rw[Z',Z_,Z'];omega) _,bl.set j (s3.next+1),vo,?_,⟨?_,?_,?_,fun k h h'=>?_,?_⟩⟩
    ·have Zv:∀k:Nat,6<=k->(k=t)=False:=fun k hk=>by simp;omega
     simp only[go_sem,Zv];exact pl t ht
    ·simp only[go_sem,p28]
    ·simp only[go_sem,p29]
    ·simp only[go_sem]
    ·rw[S8 _ _ _ k (by omega) (by omega) (by omega),old k (by omega),hs k hk]
    ·simp only[go_sem,p5]
    ·rw[Z0,if_pos rfl,JS]
    ·rw[aj0,JS];exact yA
    ·exact Eg Gnd fun hm=>by have:=lbl _ hm;omega
    ·rw[aj0] at h;have h'':k<(YC (Zg a) i).length:=by rw[<-JS];exact h'
     have hko:(YC (Zg a) (i+1))[k]=(YC (Zg a) i)[k]:=by simp only[JS]
     rw[hko];by_cases pR:k=j
     ·subst pR;rw[List.getElem_set_self,hje,ko];refine⟨by omega,by simp only[Z_,Z'];omega,?_⟩;rw[Z0,if_neg (by omega),ZY,Z_,Z',if_pos rfl]
     ·rw[List.getElem_set_ne (fun e=>pR e.symm)];obtain⟨d1,d2,d3⟩:=yz k h h'';have Zv:bl[k]≠bl[j]:=fun e=>pR ((List.getElem_inj Gnd).1 e)
      have ck:(YC (Zg a) i)[k]≠Zg a i:=fun e=>pR ((List.getElem_inj (QM (Zg a) i)).1 (e.trans hje.symm))
      refine⟨d1,by simp only[Z_,Z'];omega,?_⟩;rw[S8 _ _ _ _ (by omega) (by omega) Zv,old _ d2,d3,LJ,if_neg (fun e=>ck e.symm)]
    ·rw[JS];refine ik.Ty (by simp only[Z_,Z'];omega) fun k c h1 h2 h3=>?_
     rw[S8 _ _ _ k (by omega) (by omega) (fun e=>by rw[e,b3] at h1;cases h1),old k h2];exact h1
   ·have Gu:=Fc (len:=fun k=>(S2 (Zg a) k i).length) (bs:=bl) Sd;rw[Gu] at lk;simp only[Option.getD_none] at lk;have nF:S2 (Zg a) (Zg a i) i=[]:=by
     refine List.eq_nil_iff_forall_not_mem.2 fun u hu=>Sd ?_
     obtain⟨h1,h2⟩:=(QN _ _ _ _).1 hu;exact (TV _ _ _).2 ⟨u,h1,h2⟩
    have hvo:ZF s3 (m+1) 9 1 (YC (Zg a) i).length (strs (YC (Zg a) i)) vo:=ik.Ty (by omega) fun k c h1 h2 h3=>by rw[old k h2];exact h1
    have aie:ZF (s3.new (.cells [.str (Zg a i)] 9 false 0 0)) (m+1) 9 1 (YC (Zg a) i).length (strs (YC (Zg a) i)) vo:=hvo.Ty (by rw[Z'];omega) fun k c h1 h2 h3=>by rw[ZY,if_neg (by omega)];exact h1
    obtain⟨s5,d1,d2,d3,d4,d5,d6⟩:=aie.abM (by rw[Z'];omega) (.str (Zg a i)) rfl;rw[Z'] at d1 d2 d3 d4;have la:=hvo.Xg;have vJ:=Iz (Zg a) i;have Un:((YC (Zg a) i).length+1)*16<=1099511627776:=by omega
    have VD:(YC (Zg a) i).length+1<=1099511627776:=by omega
    simp only[go_sem,p4,p5,p6,p8,p30,va,c1,um,lk,ZD,Nat.reducePow,ajB,Un,VD,la,Qp];rw[d1];have v5m:s5.get m=some (.map (zg (TG (fun k=>(S2 (Zg a) k i).length) (YC (Zg a) i) bl)) false):=by rw[d5 m (by omega),ZY,if_neg (by omega)];exact um
    have z1:(s5.next=m)=False:=by simp;omega
    have z2:(s5.next+1=m)=False:=by simp;omega
    simp only[go_sem,p4,p6,p8,p30,v5m,lk,up,ZD,Nat.reducePow,ajB,Qp,z1,z2];have JS:YC (Zg a) (i+1)=YC (Zg a) i++[Zg a i]:=by rw[YC,if_neg Sd]
    have su:S2 (Zg a) (Zg a i) (i+1)=[i]:=by rw[ko,nF];rfl
    have aft:∀k,k≠Zg a i->S2 (Zg a) k (i+1)=S2 (Zg a) k i:=fun k ck=>by rw[LJ,if_neg (fun e=>ck (Eq.symm e))]
    have Bm:=Bv (len:=fun k=>(S2 (Zg a) k i).length) (N':=fun k=>(S2 (Zg a) k (i+1)).length) (bs:=bl) (b':=s5.next+1) Sd yA (fun k hk=>by
     have:k≠Zg a i:=fun e=>Sd (e ▸ hk)
     simp only[aft k this])
    simp only[su,ajR] at Bm;rw[Bm];have S8:∀x y k,k<s5.next->k≠m->(((s5.new x).new y).put m (.map (zg (TG (fun k=>(S2 (Zg a) k (i+1)).length) (YC (Zg a) i++[Zg a i]) (bl++[s5.next+1]))) false)).get k=s5.get k:=fun x y k h1 h2=>by
     rw[Z0,if_neg h2.symm,ZY,Z',if_neg (by omega),ZY,if_neg (by omega)]
    have aif:∀k,k<m->s5.get k=s'.get k:=fun k hk=>by rw[d5 k (by omega),ZY,if_neg (by omega),old k (by omega)]
    have aih:∀k c,s'.get k=some (.cells c 3 false 0 0)->k<s'.next->s5.get k=some (.cells c 3 false 0 0):=fun k c h1 h2=>d4 k c 3 0 0 (by rw[ZY,if_neg (by omega),old k h2];exact h1) (by omega) (by decide)
    have lbl:∀x∈bl,x<s'.next:=fun x hx=>by
     obtain⟨k,JJ,rfl⟩:=ajw.1 hx;exact (yz k JJ (by omega)).2.1
    refine IH (i+1) _ _ (by omega) ⟨by omega,fun t ht=>?_,?_,?_,?_,fun k hk=>?_,by simp only[Z_,Z'];omega,(((d6 (c3.new _)).new _).new _).put (by simp only[Z'];omega) _,bl++[s5.next+1],.sl (s3.next+1) 0 ((YC (Zg a) i).length+1) none 1,?_,⟨?_,?_,?_,fun k h h'=>?_,?_⟩⟩
    ·have Zv:∀k:Nat,6<=k->(k=t)=False:=fun k hk=>by simp;omega
     have abP:(5=t)=False:=by simp;omega
     simp only[go_sem,Zv,abP];exact pl t ht
    ·simp only[go_sem,p28]
    ·simp only[go_sem,p29]
    ·simp only[go_sem]
    ·rw[S8 _ _ k (by omega) (by omega),aif k hk,hs k hk]
    ·simp only[go_sem]
    ·rw[Z0,if_pos rfl,JS]
    ·rw[JS,ajh,ajh,yA];rfl
    ·rw[List.nodup_append];refine⟨Gnd,by simp,fun x hx y hy=>?_⟩;rw[ajm.1 hy];have:=lbl x hx;omega
    ·by_cases hkb:k<bl.length
     ·obtain⟨e1,e2,e3⟩:=yz k hkb (by omega);have hko:(YC (Zg a) (i+1))[k]=(YC (Zg a) i)[k]'(by omega):=by simp only[JS];rw[aj9 (by omega)]
      have ck:(YC (Zg a) i)[k]'(by omega)≠Zg a i:=fun e=>Sd (e ▸ ajc (by omega))
      rw[hko,aj9 hkb,aft _ ck];refine⟨e1,by simp only[Z_,Z'];omega,?_⟩;rw[S8 _ _ _ (by omega) (by omega)];exact aih _ _ e3 e2
     ·have Cp:k=bl.length:=by rw[ajh,ajR] at h;omega
      subst Cp;have hko:(YC (Zg a) (i+1))[bl.length]=Zg a i:=by simp only[JS];rw[ake (by omega)];simp
      rw[hko,ake (by omega),su];simp only[List.getElem_singleton];refine⟨by omega,by simp only[Z_,Z'];omega,?_⟩;rw[Z0,if_neg (by omega),ZY,Z',if_pos rfl];rfl
    ·have e1:(YC (Zg a) (i+1)).length=(YC (Zg a) i).length+1:=by rw[JS];simp
     have e2:strs (YC (Zg a) (i+1))=strs (YC (Zg a) i)++[.str (Zg a i)]:=by rw[JS];simp[strs]
     rw[e1,e2];refine d3.Ty (by simp only[Z_,Z'];omega) fun k c h1 h2 h3=>?_
     rw[S8 _ _ k (by omega) (by omega)];exact h1
  case refine_6=>exact UB.new _
  case refine_5 =>
   refine⟨.VI,.ZM,?_,.inl rfl,by rw[Z'];omega,ZF.nil _ _ _ _⟩;rw[ZY,if_pos rfl]
  all_goals simp only[go_sem]
  all_goals rfl
 ·have:i=a.ZC.length:=by omega
  subst this;simp only[go_sem,Jq,q29,q30,Z9,ajp];rw[Lt] at G;refine hk _ _ bl vo (fun t ht=>?_) ?_ G hs UL UB
  ·have Zv:∀k:Nat,6<=k->(k=t)=False:=fun k hk=>by simp;omega
   simp only[go_sem,Zv];exact hold t ht
  ·simp only[go_sem,q5]
end Go.Am
