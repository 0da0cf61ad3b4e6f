/- A part of the proof of a statement of this seat: the machine on which the program is read, and what it computes; for every input. -/
import Derived.Test.YtikiipfbkfgmbaaGreatDoorZ29
import Derived.Test.YtikiipfbkfgmbaaGreatDoorZ07
import Derived.Test.YtikiipfbkfgmbaaGreatDoorZ30
import Derived.Test.YtikiipfbkfgmbaaGreatDoorZ09
set_option linter.all false
namespace Go.Am
open Go
variable [Z4]
set_option maxRecDepth 100000
set_option maxHeartbeats 8000000
theorem gJ:isS (Yg U (exec U 100000) 127 [.int .i64 (-1)] true) [45,49]=true:=by kernel_rfl
def Bf (n:Int):XV:=bif decide (n<0) then [45,49] else dg n
theorem aad (n:Int)(h0 : -1<=n)(h1:n<=255):ZE U 127 [.int .i64 n]=some (.str (Bf n)):=by
 unfold Bf;by_cases h:n<0
 ·have:n = -1:=by omega
  subst this;exact VL (by kernel_rfl) rfl (Za U (n:=100000) (iq gJ))
 ·rw[decide_eq_false h];exact akk n (by omega) h1
theorem aU:((List.range 256).all fun n=>Nat.ble 1 (TJ n).length&&Nat.ble (TJ n).length 3&&(TJ n).all (fun c=>!(c==32)&&!(c==45))&&((List.range 256).all fun m=>!(TJ n==TJ m)||Nat.beq n m))=true:=by kernel_rfl
theorem Qm {n:Int}(h0 : -1<=n)(h1:n<=255):Bf n≠[]/\(Bf n).length<=3/\(32:UInt8)∉Bf n/\∀m:Int,-1<=m->m<=255->Bf n=Bf m->n=m:=by
 have key:∀k:Nat,k<256->dg (k:Int)=TJ k:=fun k hk=>by
  unfold dg;rw[amn,yg k (by omega)]
 have Xa:=alK.1 aU;have hx:∀k:Nat,k<256->1<=(TJ k).length/\(TJ k).length<=3/\(32:UInt8)∉TJ k/\(45:UInt8)∉TJ k/\∀m,m<256->TJ k=TJ m->k=m:=fun k hk=>by
  have h:=Xa k (al4.2 hk);simp only[agw] at h;obtain⟨⟨⟨a1,a2⟩,a3⟩,a4⟩:=h;have a3:=alK.1 a3;refine⟨Nat.le_of_ble_eq_true a1,Nat.le_of_ble_eq_true a2,fun hm=>?_,fun hm=>?_,fun m hm e=>?_⟩
  ·have:=a3 _ hm;simp at this
  ·have:=a3 _ hm;simp at this
  ·have:=alK.1 a4 m (al4.2 hm);rw[e] at this;simp at this;exact Nat.eq_of_beq_eq_true (by simpa using this)
 by_cases h:n<0
 ·have:n = -1:=by omega
  subst this;refine⟨by decide,by decide,by decide,fun m m0 m1 e=>?_⟩;by_cases hm:m<0
  ·omega
  ·obtain⟨k,rfl⟩:=Int.eq_ofNat_of_zero_le (show 0<=m by omega);have e2:Bf (k:Int)=TJ k:=by unfold Bf;rw[decide_eq_false hm];exact key k (by omega)
   rw[e2] at e;have h45:=(hx k (by omega)).2.2.2.1;rw[<-e] at h45;exact absurd (by decide) h45
 ·obtain⟨j,rfl⟩:=Int.eq_ofNat_of_zero_le (show 0<=n by omega);have e1:Bf (j:Int)=TJ j:=by unfold Bf;rw[decide_eq_false h];exact key j (by omega)
  obtain⟨b1,b2,b3,b4,b5⟩:=hx j (by omega);rw[e1];refine⟨fun e=>by rw[e] at b1;simp at b1,b2,b3,fun m m0 m1 e=>?_⟩;by_cases hm:m<0
  ·have:m = -1:=by omega
   subst this;rw[e] at b4;exact absurd (by decide) b4
  ·obtain⟨k,rfl⟩:=Int.eq_ofNat_of_zero_le (show 0<=m by omega);have e2:Bf (k:Int)=TJ k:=by unfold Bf;rw[decide_eq_false hm];exact key k (by omega)
   rw[e2] at e;rw[b5 k (by omega) e]
def Qn (L:List Int):XV:=L.flatMap fun n=>Bf n++[32]
theorem PZ (n:Int)(L:List Int):Qn (n::L)=Bf n++32::Qn L:=by
 unfold Qn;rw[al7,alS];rfl
theorem gI:∀(a b x y:XV),(32:UInt8)∉a->(32:UInt8)∉b->a++32::x=b++32::y->a=b/\x=y
 |[],[],x,y,_,_,e=>⟨rfl,by simpa using e⟩
 |[],c::b,x,y,_,h,e=>by
  simp at e;exact absurd (by rw[<-e.1];exact aba ..) h
 |c::a,[],x,y,h,_,e=>by
  simp at e;exact absurd (by rw[e.1];exact aba ..) h
 |c::a,d::b,x,y,h,h',e=>by
  simp only[alU,List.cons.injEq] at e;obtain⟨e1,e2⟩:=gI a b x y (fun hm=>h (aab _ hm)) (fun hm=>h' (aab _ hm)) e.2;exact⟨by rw[e.1,e1],e2⟩
def r7 (L:List Int):Prop:=∀n∈L,-1<=n/\n<=255
theorem xT:∀(L M:List Int),r7 L->r7 M->Qn L=Qn M->L=M
 |[],[],_,_,_=>rfl
 |[],m::M,_,_,e=>by
  rw[PZ] at e;have:=congrArg List.length e;simp[Qn] at this
 |n::L,[],_,_,e=>by
  rw[PZ] at e;have:=congrArg List.length e;simp[Qn] at this
 |n::L,m::M,h,h',e=>by
  rw[PZ,PZ] at e;obtain⟨a1,a2⟩:=h n (aba ..);obtain⟨b1,b2⟩:=h' m (aba ..);obtain⟨_,_,c3,c4⟩:=Qm a1 a2;obtain⟨_,_,d3,_⟩:=Qm b1 b2;obtain⟨e1,e2⟩:=gI _ _ _ _ c3 d3 e;rw[c4 m b1 b2 e1,xT L M (fun x hx=>h x (aab _ hx)) (fun x hx=>h' x (aab _ hx)) e2]
theorem Oy:∀(L:List Int),r7 L->(Qn L).length<=L.length*4
 |[],_=>by simp[Qn]
 |n::L,h=>by
  obtain⟨a1,a2⟩:=h n (aba ..);have:=(Qm a1 a2).2.1;have h2:=Oy L fun x hx=>h x (aab _ hx)
  rw[PZ,agy,akd,akd];omega
theorem zV (L:List Int)(n:Int):Qn (L++[n])=(Qn L++Bf n)++[32]:=by
 unfold Qn;simp
def ah (b:Nat)(s s':St):Prop:=∀j c t,j<s.next->j≠b->s.get j=some (.cells c t false 0 0)->t≠5->s'.get j=s.get j
theorem af {s:St}{b:Nat}{bs:XV}(h:Iq s b bs)(hf:Fr s)(t:XV)(ht:t≠[])(hlen:bs.length+t.length<=2^39) :
  ∃s' r,Rl U 131 [.ptr b 0,.str t] s=some (r,s')/\Iq s' b (bs++t)/\Fr s'/\s.next<=s'.next/\ah b s s':=by
 obtain⟨p,v,hg,hp,hb,hv⟩:=h;obtain⟨s0,g1,g2,g3,g4,g5⟩:=abh hg hp hb;have Jl:=hv.Xj;have UP:(bs.length+t.length)*1<=1099511627776:=by omega
 have VP:bs.length+t.length<=1099511627776:=by omega
 have fu:(t.length=0)=False:=by simp[ht]
 have Pd:ZK s0 (b+1) 5 1 bs.length (XW bs) v:=hv.mono (by omega) fun j hj wJ=>g4 j (by omega)
 obtain⟨s1,e1,e2,e3,e4,e5⟩:=Pd.Gy (by omega) (m:=t.length) (new:=XW t) (by intro h0;simp[ht] at h0) (by rw[RK];omega) (K' t);have kb:=e4 b (by omega) (Pd.B8 (.inr (by omega)));rw[g3] at kb;rw[g2] at e1 e2 e3;refine⟨s1.put b (.cells [.ptr b 0,.sl s.next 0 (bs.length+t.length) none 1] 207 false 0 0),.XU [.int .i64 t.length,.TO],?_,⟨.ptr b 0,.sl s.next 0 (bs.length+t.length) none 1,by rw[Z9,if_pos rfl],.inr rfl,by rw[Z'];omega,?_⟩,(e5 (g5 hf)).put (by omega) _,by rw[Z'];omega,fun j c t' hj mB hc eV=>?_⟩
 ·refine VE aef (by kernel_rfl) ?_;simp only[go_sem,abi,abj,g1,g3,K_,ZH,Jl,VP,Nat.reducePow,RK,fu,ah1,not_false_eq_true];rw[e1];simp only[go_sem,kb]
 ·have hl:(bs++t).length=bs.length+t.length:=by simp
  rw[hl];have xn:XW (bs++t)=XW bs++XW t:=by simp[XW]
  rw[xn];exact e3.mono (by rw[Z'];omega) fun j hj _=>by rw[Z9,if_neg (by omega)]
 ·rw[Z9,if_neg (by omega),e4 j (by omega) (Pd.other (by rw[g4 j mB];exact hc) eV),g4 j mB]
theorem ae {s:St}{b:Nat}{bs:XV}(h:Iq s b bs)(hf:Fr s)(c:UInt8)(hlen:bs.length+1<=2^39) :
  ∃s',Rl U 130 [.ptr b 0,.int .u8 c.toNat] s=some (.TO,s')/\Iq s' b (bs++[c])/\Fr s'/\s.next<=s'.next/\ah b s s':=by
 obtain⟨p,v,hg,hp,hb,hv⟩:=h;obtain⟨s0,g1,g2,g3,g4,g5⟩:=abh hg hp hb;have Jl:=hv.Xj;have UP:(bs.length+1)*1<=1099511627776:=by omega
 have VP:bs.length+1<=1099511627776:=by omega
 have Pd:ZK (s0.new (.cells [.int .u8 c.toNat] 5 false 0 0)) (b+1) 5 1 bs.length (XW bs) v:=hv.mono (by rw[Z_];omega) fun j hj wJ=>by rw[Z7,if_neg (by omega),g4 j (by omega)]
 obtain⟨s1,e1,e2,e3,e4,e5⟩:=Pd.Gy (by rw[Z_];omega) (m:=1) (new:=[.int .u8 c.toNat]) (by omega) rfl rfl;have kb:=e4 b (by rw[Z_];omega) (Pd.B8 (.inr (by omega)));rw[Z7,if_neg (by omega),g3] at kb;rw[Z_,g2] at e1 e2 e3;refine⟨s1.put b (.cells [.ptr b 0,.sl (s.next+1) 0 (bs.length+1) none 1] 207 false 0 0),?_,⟨.ptr b 0,.sl (s.next+1) 0 (bs.length+1) none 1,by rw[Z9,if_pos rfl],.inr rfl,by rw[Z'];omega,?_⟩,(e5 ((g5 hf).new _)).put (by omega) _,by rw[Z'];omega,fun j c' t' hj mB hc eV=>?_⟩
 ·refine VE ah4 (by kernel_rfl) ?_;simp only[go_sem,aeg,abj,g1,g2,g3,ZH,Jl,UP,VP,Nat.reducePow];rw[e1];simp only[go_sem,kb]
 ·have hl:(bs++[c]).length=bs.length+1:=by simp
  rw[hl];have xn:XW (bs++[c])=XW bs++[.int .u8 c.toNat]:=by simp[XW]
  rw[xn];exact e3.mono (by rw[Z'];omega) fun j hj _=>by rw[Z9,if_neg (by omega)]
 ·rw[Z9,if_neg (by omega),e4 j (by rw[Z_];omega) (Pd.other (by rw[Z7,if_neg (by omega),g4 j mB];exact hc) eV),Z7,if_neg (by omega),g4 j mB]
theorem aac (args:List AV)(s:St):X6 U (ZE U 130 args) 130 args s=Rl U 130 args s:=(XI U 130 args s).symm
theorem ah5 {args:List AV}{s:St}(h:ZU args=false):X6 U (ZE U 175 args) 175 args s=UR U 175 (Y' (Yn U s 40) args) s:=Ke (by kernel_rfl) s h
theorem RJ (l:List Int)(s:St):Wc 1 (.fz (ints l)) s=some (l.length,ints l):=by
 have h1:(ints l).all (fun x=>x.cells.length==1)=true:=by
  rw[alK];intro x hx;obtain⟨n,_,rfl⟩:=alN.1 hx;rfl
 have h2:(ints l).flatMap AV.cells=ints l:=by
  unfold ints;rw[List.flatMap_map]
  induction l with
  |nil=>rfl
  |cons x l ih=>rw[al7,alT,ih (by
    rw[ints,alT,List.all_cons,agw] at h1;exact h1.2)];rfl
 simp only[Wc,h1,h2,YK];rfl
theorem Oz {L:List Int}{i:Nat}(h:i<L.length):L.take (i+1)=L.take i++[L[i]]:=alX h
theorem ah6 {Yy:List Int}{a k g last:Int}(X5:r7 (a::k::g::last::Yy))(h0:Yy≠[])(hl:Yy.length<=2^20):ZE U 175 [.fz (ints Yy),.agg [.int .i64 a,.int .i64 k,.int .i64 g],.int .i64 last]=some (.str (Qn (a::k::g::last::Yy))):=by
 refine ZR aeh (by kernel_rfl) (by simp[ZU,still]) ?_;obtain⟨L,hL⟩:∃L,L=a::k::g::last::Yy:=⟨_,rfl⟩;have hLl:L.length=4+Yy.length:=by rw[hL];simp;omega
 have eB:Yy.length≠0:=fun e=>h0 (al6.1 e)
 rw[<-hL] at X5 ⊢;have Mg:=fun S=>RJ Yy S
 simp only[go_sem,ez,Mg];have e1:B7 3 1 8 (.sl 10 0 4 (some 4) 1) (some (Yy.length,ints Yy)) ((((X8 U).new (.cells [.int .i64 a,.int .i64 k,.int .i64 g] 167 false 0 0)).new (.cells [.Vk,.ZW] 207 false 0 0)).new (.cells [.int .i64 a,.int .i64 k,.int .i64 g,.int .i64 last] 3 false 0 0))=some (.sl 11 0 (4+Yy.length) none 1,((((X8 U).new (.cells [.int .i64 a,.int .i64 k,.int .i64 g] 167 false 0 0)).new (.cells [.Vk,.ZW] 207 false 0 0)).new (.cells [.int .i64 a,.int .i64 k,.int .i64 g,.int .i64 last] 3 false 0 0)).new (.cells (ints L) 3 false 0 0)):=by
  have hz:Go.Am.Xj (.sl 10 0 4 (some 4) 1)=4:=rfl;rw[ZH (by rw[YK];omega) (by rw[hz];omega) (by rw[hz];omega) eB,T1 (cs:=[.int .i64 a,.int .i64 k,.int .i64 g,.int .i64 last]) (lo:=0) (hi:=0) (by simp only[go_sem]) rfl (by omega)];rw[hL];rfl
 rw[e1];simp only[go_sem];obtain⟨S0,J8⟩:∃S0,S0=((((X8 U).new (.cells [.int .i64 a,.int .i64 k,.int .i64 g] 167 false 0 0)).new (.cells [.Vk,.ZW] 207 false 0 0)).new (.cells [.int .i64 a,.int .i64 k,.int .i64 g,.int .i64 last] 3 false 0 0)).new (.cells (ints L) 3 false 0 0):=⟨_,rfl⟩;rw[<-J8];have EO:S0.next=12:=by rw[J8];simp only[go_sem]
 have gL0:S0.get 11=some (.cells (ints L) 3 false 0 0):=by rw[J8];simp only[go_sem]
 have gb0:S0.get 9=some (.cells [.Vk,.ZW] 207 false 0 0):=by rw[J8];simp only[go_sem]
 have fr0:Fr S0:=by rw[J8];exact (((Fr.own.new _).new _).new _).new _
 rw[<-hLl];refine YP (ZB:=fun (o:Option AV)=>o=some (.str (Qn L))) (σ:=Nat) (fun i=>L.length-i) (fun i e' s'=>i<=L.length/\Env.get e' 7=.ptr 9 0/\Env.get e' 19=.sl 11 0 L.length none 1/\Env.get e' 20=.int .i64 (L.length:Nat)/\Env.get e' 21=.int .i64 (i:Nat)/\s'.get 11=some (.cells (ints L) 3 false 0 0)/\12<=s'.next/\Fr s'/\Iq s' 9 (Qn (L.take i))) 0 ?_
  ⟨aic _,?_,?_,?_,?_,gL0,by omega,fr0,⟨.Vk,.ZW,gb0,.inl rfl,by omega,ZK.nil _ _ _ _⟩⟩
 ·rintro Lp i e' s' ⟨hi,q7,ey,mh,q21,gL,Vl,Xx,hB⟩ IH;by_cases hd:i<L.length
  ·have hw:=ZN hd (by omega);have hx:(ints L)[i]? = some (.int .i64 L[i]):=by rw[ints,alV,aaa hd];rfl
   obtain⟨o1,o2⟩:=X5 L[i] (adm hd);have hit:=aad L[i] o1 o2;obtain⟨f1,f2,_,_⟩:=Qm o1 o2;have NA:=Oy (L.take i) fun x hx=>X5 x (List.mem_of_mem_take hx)
   rw[amr] at NA;obtain⟨s1,r1,h131,B1,mg,n1,K1⟩:=af hB Xx (Bf L[i]) f1 (by omega);obtain⟨s2,h130,B2,O1,n2,K2⟩:=ae B1 mg 32 (by rw[agy];omega);have g1:=K1 11 _ _ (by omega) (by omega) gL (by decide);have gL1:=g1.trans gL;have g2:=K2 11 _ _ (by omega) (by omega) gL1 (by decide);have gL2:=g2.trans gL1;have h130:Rl U 130 [.ptr 9 0,.int .u8 32] s1=some (.TO,s2):=h130;simp only[go_sem,K9,q7,ey,mh,q21,Z8,hd,gL,hx,hit,mj,h131,aac,h130,hw,ald,ah1];refine IH (i+1) _ _ (by omega) ⟨by omega,?_,?_,?_,?_,gL2,by omega,O1,?_⟩
   case refine_5=>rw[Oz hd,zV];exact B2
   all_goals simp only[go_sem,q7,ey,mh]
  ·have xb:i=L.length:=by omega
   subst xb;rw[amH] at hB;have NA:=Oy L X5;obtain⟨s3,h133,n3,rC,_⟩:=mf hB Xx (by omega);simp only[go_sem,K9,q7,mh,q21,Z8,alh,ta,h133]
 all_goals simp only[go_sem]
 all_goals rfl
end Go.Am
