/- A part of the proof of a statement of this seat: the machine on which the program is read, and what it computes; for every input. -/
import Derived.Test.YtkmaeondbkpajaaGreatDoorG05
import Derived.Test.YtkmaeondbkpajaaGreatDoorG11
import Derived.Test.YtkmaeondbkpajaaGreatDoorG07
import Derived.Test.YtkmaeondbkpajaaGreatDoorG03
set_option linter.all false
namespace Go.Am
open Go
def cJ (A B:Fa):Fa where
 n:=A.n*B.n
 m:=A.m
 nx c x:=A.nx (c / B.n) x*B.n+B.nx (c%B.n) x
 fr c x:=A.fr (c / B.n) x
abbrev CP:=Nat×Nat×Nat
structure wU (A:Fa)(T:List CP):Prop where
 pos:0<T.length
 nd:(T.map (·.1)).Nodup
 lt:∀t∈T,t.1<A.n
 fr:∀k t,T[k+1]? = some t->t.2.1<=k/\t.2.2<A.m
theorem wU.len {A:Fa}{T:List CP}(h:wU A T):T.length<=A.n:=by
 have:=Vm (κ:=id) (st:=T.map (·.1)) (by rw[List.map_id];exact h.nd) (n:=A.n) fun a ha=>by
  obtain⟨t,ht,rfl⟩:=ajs.1 ha;exact h.lt t ht
 rwa [aje] at this
theorem wU.put {A:Fa}{T:List CP}(h:wU A T){c i x:Nat}(hc:c<A.n)(hi:i<T.length)(hx:x<A.m)(hn:c∉T.map (·.1)):wU A (T++[(c,i,x)]):=by
 refine⟨by simp,?_,fun t ht=>?_,fun k t ht=>?_⟩
 ·rw[ajA,List.nodup_append];refine⟨h.nd,by simp,fun a ha b hb=>?_⟩;simp only[aju,List.map_nil,ajm] at hb;rintro rfl;rw[hb] at ha;exact hn ha
 ·rcases ajX.1 ht with h1|h1
  ·exact h.lt t h1
  ·rw[ajm.1 h1];exact hc
 ·by_cases hk:k+1<T.length
  ·rw[ajM hk] at ht;exact h.fr k t ht
  ·have A5:k+1=T.length:=by
    have:=(ajt.1 ht).1;simp at this;omega
   rw[A5,akc (ajg _),Nat.sub_self] at ht;simp at ht;subst ht;exact⟨by simp only;omega,hx⟩
structure aiX (A:Fa)(T T':List CP):Prop where
 inv:wU A T'
 pre:∃R,T'=T++R
structure aiY (A:Fa)(y:Nat->Nat->Bool)(i:Nat)(T:List CP)(r:List CP×Option (Nat×Nat)):Prop where
 inv:wU A r.1
 pre:∃R,r.1=T++R
 go:r.2=none->∀k t,i<=k->r.1[k]? = some t->∀x,x<A.m->y t.1 x=true/\A.nx t.1 x∈r.1.map (·.1)
 stop:∀k x,r.2=some (k,x)->i<=k/\x<A.m/\(∃t,r.1[k]? = some t/\y t.1 x=false)/\(∀j t,i<=j->j<k->r.1[j]? = some t->∀z,z<A.m->y t.1 z=true)/\∀t,r.1[k]? = some t->∀z,z<x->y t.1 z=true
end Go.Am
namespace Go.Am
open Go
variable [ZZ]
set_option maxRecDepth 100000
set_option maxHeartbeats 8000000
theorem agp (a:YY)(h:a.next.length<=256):Zw U 62 [VQ a]=some (.XF [VQ a,.int .i64 0]):=by
 refine ZI ac_ (by kernel_rfl) (by simp[ZO,Xp]) ?_;rw[WT a];unfold U6 Xd;have nn:=ZW a.TN (a.next.map Zi);have nf:=ZW a.Tc (a.ZC.map Zq);have cn:=ZR a.TN (a.next.map Zi);have cf:=ZR a.Tc (a.ZC.map Zq);have ln:=ZJ a.TN (a.next.map Zi);rw[aje] at ln;have hd:decide ((a.next.length:Int)>256)=false:=by simp;omega
 simp only[go_sem,ae,nn,nf,cn,cf,ln,hd,VW]
def lJ (k c:Nat):List AV:=[.int .i64 ((c / k:Nat):Int),.int .i64 ((c%k:Nat):Int)]
def aeC (k:Nat)(f:Nat->AV):List Nat->Nat->List (AV×AV)
 |[],_=>[]
 |c::l,i=>(.agg (lJ k c),f i)::aeC k f l (i+1)
end Go.Am
namespace Go.Am
open Go
variable [ZZ]
set_option maxRecDepth 100000
end Go.Am
namespace Go.Am
open Go
variable [ZZ]
set_option maxRecDepth 100000
set_option maxHeartbeats 8000000
def aeN:RC:=(sO [Yy 2 137 0,XW 4] (sO [ZP 5 0 2,ZS 6 5,om 7 1,uC 8 3 6 7,o 9 (.bin .and 3 true (.t 8) (vI 1)),U4 10 3 9 1,om 4 10] .ret))
theorem ahI:Zb 180=some ([.tmp 4],aeN):=by kernel_rfl
def aeP:RC:=(sO [Yy 2 137 0,XW 4] (sO [ZP 5 1 2,ZS 6 5,om 7 1,uC 8 3 6 7,o 9 (.bin .and 3 true (.t 8) (vI 1)),U4 10 3 9 1,om 4 10] .ret))
theorem ahJ:Zb 183=some ([.tmp 4],aeP):=by kernel_rfl
def afc:RC:=(sO [Yy 2 78 0,Yy 3 137 1,XW 4] (sO [Zh 5 3 3,ZP 6 1 2,ZS 7 6,YI 8 180 5 7,om 4 8] .ret))
theorem ah3:Zb 179=some ([.tmp 4],afc):=by kernel_rfl
def afd:RC:=(sO [Yy 2 78 0,Yy 3 137 1,XW 4] (sO [Zh 5 3 3,ZP 6 1 2,ZS 7 6,YI 8 180 5 7,VO 9 8,om 4 9] .ret))
theorem ah4:Zb 181=some ([.tmp 4],afd):=by kernel_rfl
def afe:RC:=(sO [Yy 2 78 0,Yy 3 137 1,XW 4] (sO [Zh 5 3 3,ZP 6 1 2,ZS 7 6,YI 8 180 5 7,om 9 8,Pr 10 9 3 3,Yq 11 9 1 2,Yp 12 9 11,Mg 13 9 183 10 12,EH 14 9 13,X4 15 9 14,om 4 15] .ret))
theorem ah5:Zb 182=some ([.tmp 4],afe):=by kernel_rfl
def aff:RC:=(sO [Yy 2 78 0,Yy 3 137 1,XW 4] (sO [Zh 5 3 3,ZP 6 1 2,ZS 7 6,YI 8 180 5 7,VO 9 8,om 10 9,Pr 11 10 3 3,Yq 12 10 1 2,Yp 13 10 12,Mg 14 10 183 11 13,X4 15 10 14,om 4 15] .ret))
theorem ah6:Zb 184=some ([.tmp 4],aff):=by kernel_rfl
def afg:RC:=(sO [Yy 2 78 0,Yy 3 137 1,XW 4] (sO [ZP 5 5 2,ZS 6 5,ZP 7 0 3,ZS 8 7,YI 9 186 6 8,om 4 9] .ret))
theorem ah7:Zb 185=some ([.tmp 4],afg):=by kernel_rfl
def afh:RC:=(sO [Yy 2 78 0,Yy 3 137 1,XW 4] (sO [ZP 5 5 2,ZS 6 5,ZP 7 0 3,ZS 8 7,YI 9 186 6 8,om 10 9,Yq 11 10 5 2,Yp 12 10 11,Yq 13 10 1 3,Yp 14 10 13,Mg 15 10 186 12 14,EH 16 10 15,X4 17 10 16,om 4 17] .ret))
theorem ah8:Zb 187=some ([.tmp 4],afh):=by kernel_rfl
def afi:RC:=(sO [Yy 3 78 0,Yy 5 137 2,Zz 6 0,XW 7] (sQ (sQ (.Sf 13 [ZP 8 2 5,ZS 9 8,om 10 9,Kt 11 10 3 5,Vv 12 10 1 3,Xk 13 10 12,oF 14 10 (.call 180 [(.t 11),(.t 13)]),Kt 15 10 3 5,Vv 16 10 1 3,Xk 17 10 16,oF 18 10 (.call 183 [(.t 15),(.t 17)]),vn 19 10 4 14 18,Yj 20 10 19]) (cT 20 (oP [Zz 1 0]))) (sO [om 21 1,Yz 22 3 21 1,ZP 23 3 3,ZS 24 23,Yz 25 3 24 1,nJ 26 22 25 3 3,om 1 26] (sQ (.Sf 7 [om 27 1,om 28 1,ZP 29 3 3,ZS 30 29,uD 31 3 28 30,om 6 27,om 7 31]) .ret))))
theorem ah9:Zb 189=some ([.tmp 6,.tmp 7],afi):=by kernel_rfl
def afj:RC:=(sO [Yy 3 78 0,Yy 5 137 2,Zz 6 0,XW 7] (sO [om 8 1,Yz 9 3 8 1,ZP 10 3 3,ZS 11 10,nJ 12 9 11 3 3,om 1 12] (sQ (sQ (.Sf 9 [Zh 13 3 5,ZP 14 1 3,ZS 15 14,YI 16 180 13 15,Zh 17 3 5,ZP 18 1 3,ZS 19 18,YI 20 183 17 19,NY 21 4 16 20]) (cT 21 (oP [Zz 1 0]))) (sQ (.Sf 20 [om 22 1,Zh 23 3 5,ZP 24 2 3,ZS 25 24,YI 26 180 23 25,om 27 26,Pr 28 27 3 5,Yq 29 27 2 3,Yp 30 27 29,Mg 31 27 183 28 30,EH 32 27 31,X4 33 27 32,om 34 33,VP 35 34 1,Yq 36 34 3 3,Yp 37 34 36,oT 38 34 (.bin .lss 3 false (.t 35) (.t 37)),X4 39 34 38,om 6 22,om 7 39]) .ret))))
theorem ah_:Zb 191=some ([.tmp 6,.tmp 7],afj):=by kernel_rfl
def afk:RC:=(sO [Yy 3 78 0,Yy 5 137 2,Zz 6 0,XW 7] (sQ (.block 0 (sO [Zh 9 3 5,ZP 10 1 3,ZS 11 10,YI 12 180 9 11,VO 13 12,om 8 13] (cO 8 (sO [Zh 14 3 5,ZP 15 1 3,ZS 16 15,YI 17 183 14 16,om 18 17,VP 19 18 1,oT 20 18 (.bin .eql 3 true (.t 19) (vI 2)),X4 21 18 20,Zz 6 0,om 7 21] .ret) (sO [ZP 23 2 5,ZS 24 23,VO 25 24,om 26 25,Pr 27 26 3 5,Yq 28 26 2 3,Yp 29 26 28,Mg 30 26 180 27 29,EH 31 26 30,X4 32 26 31,om 33 32,Pr 34 33 3 5,Yq 35 33 1 3,Yp 36 33 35,Mg 37 33 183 34 36,EH 38 33 37,VP 39 33 38,X8 40 39 1,oF 41 39 (.bin .eql 3 true (.t 40) (vI 2)),oT 42 33 (.pick (.t 39) vT (.t 41)),X4 43 33 42,om 22 43] (cT 22 (sO [Zz 6 2,XW 7] .ret)))))) (sO [Zz 6 1,XW 7] .ret)))
theorem ah':Zb 193=some ([.tmp 6,.tmp 7],afk):=by kernel_rfl
def afl:RC:=(sO [Yy 4 78 0,Yy 6 137 2,Zz 7 0,XW 8] (sO [om 9 1,ZS 10 3,Zh 11 7 4,Zh 12 3 6,o 13 (.Ks (.t 10) [(.t 11),(.t 12)]),om 7 9,om 8 13] .ret))
theorem aia:Zb 216=some ([.tmp 7,.tmp 8],afl):=by kernel_rfl
def afm:RC:=(sO [Yy 4 78 0,Yy 6 137 2,Zz 7 0,XW 8] (sQ (.Sf 14 [Zh 11 3 6,ZP 12 1 4,ZS 13 12,YI 14 180 11 13,ZS 15 3,uD 16 4 14 15,Zh 17 3 6,ZP 18 1 4,ZS 19 18,YI 20 183 17 19,ZS 21 3,uD 22 4 20 21,om 9 16,om 10 22]) (sQ (.block 0 (sO [om 24 9,VO 25 24,om 23 25] (cO 23 (sQ (.Sf 15 [om 26 10,om 27 26,VP 28 27 1,Yq 29 27 3 4,Yp 30 27 29,oT 31 27 (.bin .geq 3 false (.t 28) (.t 30)),X4 32 27 31,om 33 32,VP 34 33 1,Yq 35 33 4 4,Yp 36 33 35,uW 37 33 3 34 36,X4 38 33 37,Zz 7 0,om 8 38]) .ret) (sO [ZP 40 2 6,ZS 41 40,om 39 41] (cO 39 (sO [ZP 42 4 4,ZS 43 42,Yz 44 3 43 1,om 7 44,XW 8] .ret) (sO [om 46 10,VO 47 46,om 45 47] (cT 45 (sO [Zz 7 1,XW 8] .ret)))))))) (sO [om 48 1,Yz 49 3 48 1,ZP 50 4 4,ZS 51 50,Yz 52 3 51 1,nJ 53 49 52 3 3,om 7 53,XW 8] .ret))))
theorem aib:Zb 217=some ([.tmp 7,.tmp 8],afm):=by kernel_rfl
def DV:RC:=(sO [YQ 15 3 14 13] (sQ (cS 15 (.exit 0)) (sQ (.block 1 (sO [Y0 16 7 12 14,Zh 17 7 16,Qk 5 0 0 0 0 78,Yw 7 5 17] (oP [om 18 3,Zh 19 7 5,YO 20 137 19,VE 21 78 7 88 18 20,om 3 21]))) (oP [Yz 22 3 14 1,om 14 22]))))
def bG:RC:=(sO [Yy 1 78 0,WS 2] (sQ (sO [Zh 6 7 1,YO 7 168 6,VO 8 7] (cT 8 (sO [Zh 9 7 1,o 10 (.SE 78 7 1 [(.str []),(iI 0),(iI 0),(iI 0),(iI 0),(.str []),.ZM] [(0,7,(.t 9))]),om 2 10] .ret))) (sO [WS 3] (sQ (sO [ZP 11 6 1,ZS 12 11,YS 13 12,Zz 14 0] (.block 0 (.loop DV))) (sO [om 23 3,om 2 23] .ret)))))
theorem af1:Zb 137=some ([.tmp 2],bG):=by kernel_rfl
def CG:RC:=(sO [YQ 19 3 18 17] (sQ (cS 19 (.exit 0)) (sQ (.block 1 (sO [Y0 20 7 16 18,Zh 21 7 20,Qk 8 0 0 0 0 78,Yw 7 8 21] (sO [Zh 22 7 8,om 23 1,YI 24 140 22 23,om 9 24] (oP [om 25 5,om 26 25,X8 27 26 9,Yj 28 26 27,om 29 6,om 30 29,VP 31 30 9,X4 32 30 31,om 5 28,om 6 32])))) (oP [Yz 33 3 18 1,om 18 33]))))
def eo:RC:=(sO [Yy 2 78 0,XW 4] (sQ (sO [Zh 10 7 2,YO 11 168 10,VO 12 11] (cT 12 (sO [om 13 1,o 14 (.Ks (.t 13) []),om 4 14] .ret))) (sO [XW 5,Tt 6] (sQ (sO [ZP 15 6 2,ZS 16 15,YS 17 16,Zz 18 0] (.block 0 (.loop CG))) (sQ (sO [ZP 34 0 2,ZS 35 34] (.block 2 (sO [Pu 37 9 35 110 111 116,om 36 37] (cO 36 (sO [om 38 5,VO 39 38,om 4 39] .ret) (sO [Pu 41 9 35 97 110 121,om 40 41] (cT 40 (sO [om 42 5,om 4 42] .ret))))))) (sO [om 43 6,om 4 43] .ret))))))
theorem aic:Zb 140=some ([.tmp 4],eo):=by kernel_rfl
def afn:RC:=(sO [XW 2] (sO [ZS 3 0,Yz 4 3 3 1,Yw 1 0 4] (sO [ZS 5 1,ZS 6 0,Y0 7 1 5 6,ZS 8 7,om 2 8] .ret)))
theorem aid:Zb 141=some ([.tmp 2],afn):=by kernel_rfl
def Qz:RC:=(sO [o 9 (.raw (.next (.tmp 8) true)),Yd 10 9 0] (sQ (cS 10 (.exit 0)) (.block 1 (sO [Yd 11 9 1,Yd 12 9 2,om 5 11,om 6 12] (sO [om 13 6] (.block 2 (sQ (sO [o 15 (.bin .eql 21 true (.t 13) (.v (.int .i32 48))),om 14 15] (cS 14 (oP [o 16 (.bin .eql 21 true (.t 13) (.v (.int .i32 49))),om 14 16]))) (cT 14 (sO [om 17 1,om 18 5,uC 19 3 17 18,o 20 (.bin .and 3 true (.t 19) (vI 1)),o 21 (.bin .add 3 true (vI 48) (.t 20)),o 22 (.raw (.convert 3 21 (.tmp 21))),om 23 6,NY 24 21 22 23] (cT 24 (sO [XW 4] .ret)))))))))))
def aeQ:RC:=(sO [XW 4] (sQ (sO [om 7 0,o 8 (.raw (.range 9 (.tmp 7)))] (.block 0 (.loop Qz))) (sO [Tt 4] .ret)))
theorem ahK:Zb 186=some ([.tmp 4],aeQ):=by kernel_rfl
def Zn (n k:Int):Int:=n / 2^k.toNat%2
theorem MW (n k:Int):Zn n k=0\/Zn n k=1:=by unfold Zn;omega
theorem Jo (t:TypeId)(cst:Bool)(a b:Int)(h0:0<=b)(h1:b<=64):WO U .shr t cst (.int .i64 a) (.int .i64 b)=some (.int .i64 (a / 2^b.toNat)):=by
 have:min b.toNat IntKind.i64.bits=b.toNat:=by
  have:IntKind.i64.bits=64:=rfl;omega
 simp only[WO,K',if_neg (show ¬b<0 by omega),this];rw[Int.fdiv_eq_ediv_of_nonneg];exact Int.pow_nonneg (by decide)
theorem L2 (t:TypeId)(cst:Bool)(a:Int)(h0:0<=a)(h1:a<2^62):WO U .and t cst (.int .i64 a) (.int .i64 1)=some (.int .i64 (a%2)):=by
 simp only[WO,if_true,Pp];have h2:IntKind.i64.bits=64:=rfl;rw[h2];have:((BitVec.ofInt 64 a &&& BitVec.ofInt 64 1).toNat:Int)=a%2:=by
  rw[BitVec.toNat_and,BitVec.toNat_ofInt,BitVec.toNat_ofInt];have e1:(1%((2^64:Nat):Int)).toNat=1:=by decide
  have e2:(a%((2^64:Nat):Int)).toNat=a.toNat:=by
   rw[Int.emod_eq_of_lt h0 (by omega)]
  rw[e1,e2,Nat.and_one_is_mod];omega
 rw[this,wrap_i64] <;> omega
theorem CT {n:Int}(k:Nat)(h:0<=n):0<=n / 2^k/\n / 2^k<=n:=by
 have:(0:Int)<2^k:=Int.pow_pos (by decide);refine⟨Int.ediv_nonneg h (by omega),?_⟩;exact Int.ediv_le_self _ h
def EV (l:List Int):Prop:=l.length<=4096/\∀x∈l,0<=x/\x<65536
theorem ox {l:List Int}(h:EV l)(t:Int):0<=XS l t/\XS l t<65536:=by
 unfold XS;rw[ajl]
 cases hg:l[t.toNat]? with
 |none=>simp
 |some x=>exact h.2 x (aj1 hg)
def WE (l:List Int)(t:Int):Int:=XS l (max 0 (t-1))
def runN (l:List Int)(k:Int):Nat->Nat
 |0=>0
 |t+1=>bif Zn (XS l (t:Int)) k==Zn (XS l ((t+1:Nat):Int)) k then runN l k t else t+1
theorem JP (l:List Int)(k:Int):∀t,runN l k t<=t
 |0=>ajg _
 |t+1=>by
  unfold runN
  cases Zn (XS l (t:Int)) k==Zn (XS l ((t+1:Nat):Int)) k with
  |true=>have:=JP l k t;show runN l k t<=t+1;omega
  |false=>exact ajg _
def IJ (l:List Int)(k ja:Int)(t:Nat):Bool:=(t:Int)==0||Zn (XS l (t:Int)) k==ja||Zn (XS l ((t-1:Nat):Int)) k != ja
def Uw (l:List Int)(k ja:Int)(t:Nat):Nat:=bif IJ l k ja t then 0 else runN l k (t-1)
def Sx (l:List Int)(k ja:Int)(t:Nat):Bool:=bif IJ l k ja t then false else decide (0<runN l k (t-1))
def cD (sym:Int)(i:Nat)(c:UInt8):Bool:=c==48&&Zn sym (i:Int) != 0||c==49&&Zn sym (i:Int) != 1
def ur (sym:Int):Nat->X6->Bool
 |_,[]=>true
 |i,c::l=>bif cD sym i c then false else ur sym (i+1) l
end Go.Am
namespace Go.Am
open Go
variable [ZZ]
def ZX.wf:ZX->Prop
 |.mk k a b mi ma pat _ kids=>(0<=a/\a<16)/\(0<=b/\b<16)/\(0<=mi/\mi<=255)/\(0<=ma/\ma<=255)/\pat.length<=16/\(∀c∈pat,c=48\/c=49\/c=120) /\
  (Zy k).known=true/\(Zy k=.Lv->kids.length=1)/\((YL (Zy k)).kids=false->kids=[])/\((YL (Zy k)).kids=true->kids≠[])/\((YL (Zy k)).mi=true->1<=mi)/\kids.length<=8/\∀x∈kids,x.wf
theorem Eu {lines d:Int}:∀{l:List ZX},QI lines l d=0->∀x∈l,NK lines x d=0
 |[],_,x,hx=>by cases hx
 |c::l,h,x,hx=>by
  rw[QI] at h
  cases hb:NK lines c d != 0 with
  |true =>
   rw[hb] at h;have h:NK lines c d=0:=h;rw[h] at hb;cases hb
  |false =>
   rw[hb] at h;rcases ajo.1 hx with rfl|hx
   ·simpa using hb
   ·exact Eu h x hx
theorem xn {pat:X6}{lines:Int}(h:NO pat lines=false):(pat.length:Int)=lines/\∀c∈pat,c=48\/c=49\/c=120:=by
 unfold NO at h;rw[ajJ] at h;refine⟨by simpa using h.1,fun c hc=>?_⟩;have:=List.any_eq_false.1 h.2 c hc;by_cases h1:c=48
 ·exact .inl h1
 ·by_cases h2:c=49
  ·exact .inr (.inl h2)
  ·by_cases h3:c=120
   ·exact .inr (.inr h3)
   ·exact absurd (by simp[h1,h2,h3]) this
theorem nG {lines:Int}(h1:1<=lines)(h2:lines<=16):∀(c:ZX) (d:Int),NK lines c d=0->c.wf:=by
 intro c
 induction c using ZX.ind with
 |h k a b mi ma pat nl kids ih =>
 intro d h;rw[NK] at h;obtain⟨-,h⟩:=XU h (by decide);obtain⟨q1,h⟩:=XU h (by decide);obtain⟨q2,h⟩:=XU h (by decide);obtain⟨q3,h⟩:=XU h (by decide);obtain⟨-,h⟩:=XU h (by decide);obtain⟨q5,h⟩:=XU h (by decide);obtain⟨-,h⟩:=XU h (by decide);obtain⟨q7,h⟩:=XU h (by decide);obtain⟨q8,h⟩:=XU h (by decide);obtain⟨q9,h⟩:=XU h (by decide);obtain⟨cV,h⟩:=XU h (by decide);have hk:=fun x hx=>ih x hx _ (Eu h x hx)
 rw[wrap_i64 (by omega) (by omega)] at q3;simp only[ajJ,Bool.and_eq_false_iff] at q2 q3 q5 q7 q8 q9 cV;rw[AE] at q8;rw[ZX.wf];generalize Zy k=dd at *;have ha:0<=a/\a<16:=by
  cases hu:(YL dd).a with
  |true=>rcases q3.1 with h|h;(rw[hu] at h;cases h);have:=UP h;omega
  |false =>
    rcases q2.1.1.1.1.1 with h|h;(rw[hu] at h;cases h);have:a=0:=by simpa using h
    omega
 have hb:0<=b/\b<16:=by
  cases hu:(YL dd).b with
  |true=>rcases q3.2 with h|h;(rw[hu] at h;cases h);have:=UP h;omega
  |false =>
    rcases q2.1.1.1.1.2 with h|h;(rw[hu] at h;cases h);have:b=0:=by simpa using h
    omega
 have hm:0<=mi/\mi<=255/\((YL dd).mi=true->1<=mi):=by
  cases hu:(YL dd).mi with
  |true=>rcases q5.1 with h|h;(rw[hu] at h;cases h);have:=UP h;omega
  |false =>
    rcases q2.1.1.1.2 with h|h;(rw[hu] at h;cases h);have:mi=0:=by simpa using h
    subst this;exact⟨by omega,by omega,fun h=>by cases h⟩
 have hM:0<=ma/\ma<=255:=by
  cases hu:(YL dd).ma with
  |true=>rcases q5.2 with h|h;(rw[hu] at h;cases h);have:=UP h;omega
  |false =>
    rcases q2.1.1.2 with h|h;(rw[hu] at h;cases h);have:ma=0:=by simpa using h
    omega
 have hp:pat.length<=16/\∀c∈pat,c=48\/c=49\/c=120:=by
  cases hu:(YL dd).pat with
  |true=>rcases q7 with h|h;(rw[hu] at h;cases h);have:=xn h;exact⟨by omega,this.2⟩
  |false =>
    rcases q2.1.2 with h|h;(rw[hu] at h;cases h);have:pat=[]:=by simpa using h
    subst this;exact⟨by simp,by simp⟩
 refine⟨ha,hb,⟨hm.1,hm.2.1⟩,hM,hp.1,hp.2,by simpa using q1,fun hd=>?_,fun hu=>?_,fun hu=>?_,hm.2.2,?_,hk⟩
 ·rcases q8 with h|h
  ·simp[hd] at h
  ·have:(kids.length:Int)=1:=by simpa using h
   omega
 ·rcases q2.2 with h|h
  ·rw[hu] at h;cases h
  ·have:¬(kids.length:Int)>0:=by simpa using h
   exact List.eq_nil_of_length_eq_zero (by omega)
 ·rcases q9 with h|h
  ·rw[hu] at h;cases h
  ·intro e;subst e;simp at h
 ·cases hu:(YL dd).kids with
  |true =>
   rcases cV with h|h
   ·rw[hu] at h;cases h
   ·have:¬(kids.length:Int)>8:=by simpa using h
    omega
  |false =>
   rcases q2.2 with h|h
   ·rw[hu] at h;cases h
   ·have:¬(kids.length:Int)>0:=by simpa using h
    omega
def chg (l:List Int)(k:Int):Nat->Nat->Bool->Bool
 |_,0,p=>p
 |u,n+1,p=>chg l k (u+1) n (p||Zn (XS l (u:Int)) k != Zn (XS l ((u-1:Nat):Int)) k)
def low (l:List Int)(k:Int):Nat->Nat->Bool->Bool
 |_,0,p=>p
 |u,n+1,p=>bif p then low l k (u+1) n (Zn (XS l (u:Int)) k==0) else false
def VK (t:Nat)(mi:Int):Nat:=(max 1 ((t:Int)-mi+1)).toNat
mutual
def atR (l:List Int)(t:Nat):ZX->Bool
 |.mk k a b mi ma pat nl kids =>
  let now:=XS l (t:Int)
  let was:=WE l (t:Int)
  match Zy k with
  |.high=>Zn now a==1
  |.low=>Zn now a==0
  |.Ja=>Zn now a==1&&Zn was a==0
  |.fall=>Zn now a==0&&Zn was a==1
  |.pattern=>ur now 0 pat
  |.enter=>ur now 0 pat&&!ur was 0 pat
  |.Vj=>Sx l a 1 t&&!outside ((t:Int)-(Uw l a 1 t:Nat)) mi ma
  |.gap=>Sx l a 0 t&&!outside ((t:Int)-(Uw l a 0 t:Nat)) mi ma
  |.idle=>(t:Int)-(runN l a t:Nat)+1==mi
  |.setup=>chg l a (VK t mi) (t+1-VK t mi) false&&Zn now b==1&&Zn was b==0
  |.Um=>low l b (Uw l a 1 t) (t-Uw l a 1 t) (Sx l a 1 t)
  |.Lv=>!rK l t kids
  |d=>((N6 l t kids:Nat):Int)==((kids.length:Nat):Int)||decide (d=.I_)&&decide (((N6 l t kids:Nat):Int)>0)
def rK (l:List Int)(t:Nat):List ZX->Bool
 |[]=>false
 |c::_=>atR l t c
def N6 (l:List Int)(t:Nat):List ZX->Nat
 |[]=>0
 |c::k=>(bif atR l t c then 1 else 0)+N6 l t k
end
end Go.Am
namespace Go.Am
open Go
variable [ZZ]
set_option maxRecDepth 100000
set_option maxHeartbeats 8000000
theorem gS (x:Nat)(n:Int)(e:Env)(s:St)(h:Env.get e x=.int .i64 n)(c:Int)(tys:Array TypeId):YK U (Yo U) e (.call { callee:=.builtin .max,args:=#[(.const (.int .i64 c)),(.tmp x)],argTypes:=tys }) s=some (.int .i64 (max c n),s):=by
 simp only[YK,Wz,eval,o9,h,Yr,xO]
 congr 3
 split <;> omega
theorem OJ (l:List Int)(k:Int)(u:Nat):∀n,low l k u n false=false
 |0=>rfl
 |n+1=>rfl
end Go.Am
