/- A part of the proof of a statement of this seat: the machine on which the program is read, and what it computes; for every input. -/
import Derived.Test.YtikiipfbkfgmbaaGreatDoorZ07
import Derived.Test.YtikiipfbkfgmbaaGreatDoorZ12
import Derived.Test.YtikiipfbkfgmbaaGreatDoorZ06
import Derived.Test.YtikiipfbkfgmbaaGreatDoorZ04
import Derived.Test.YtikiipfbkfgmbaaGreatDoorZ05
set_option linter.all false
namespace Go.Am
open Go
def aas (A B:Fa):Fa where
 n:=A.n*B.n
 m:=A.m
 nx c x:=A.nx (c / B.n) x*B.n+B.nx (c%B.n) x
 fr c x:=A.fr (c / B.n) x
abbrev Ij:=Nat×Nat×Nat
structure uN (A:Fa)(T:List Ij):Prop where
 pos:0<T.length
 nd:(T.map (·.1)).Nodup
 lt:∀t∈T,t.1<A.n
 fr:∀k t,T[k+1]? = some t->t.2.1<=k/\t.2.2<A.m
theorem uN.len {A:Fa}{T:List Ij}(h:uN A T):T.length<=A.n:=by
 have:=Vn (κ:=id) (st:=T.map (·.1)) (by rw[List.map_id];exact h.nd) (n:=A.n) fun a ha=>by
  obtain⟨t,ht,rfl⟩:=alN.1 ha;exact h.lt t ht
 rwa [agC] at this
theorem uN.put {A:Fa}{T:List Ij}(h:uN A T){c i x:Nat}(hc:c<A.n)(hi:i<T.length)(hx:x<A.m)(hn:c∉T.map (·.1)):uN A (T++[(c,i,x)]):=by
 refine⟨by simp,?_,fun t ht=>?_,fun k t ht=>?_⟩
 ·rw[alY,List.nodup_append];refine⟨h.nd,by simp,fun a ha b hb=>?_⟩;simp only[alT,List.map_nil,ake] at hb;rintro rfl;rw[hb] at ha;exact hn ha
 ·rcases amb.1 ht with h1|h1
  ·exact h.lt t h1
  ·rw[ake.1 h1];exact hc
 ·by_cases hk:k+1<T.length
  ·rw[al0 hk] at ht;exact h.fr k t ht
  ·have BW:k+1=T.length:=by
    have:=(alQ.1 ht).1;simp at this;omega
   rw[BW,amI (agB _),Nat.sub_self] at ht;simp at ht;subst ht;exact⟨by simp only;omega,hx⟩
structure alq (A:Fa)(T T':List Ij):Prop where
 inv:uN A T'
 pre:∃R,T'=T++R
structure alr (A:Fa)(y:Nat->Nat->Bool)(i:Nat)(T:List Ij)(r:List Ij×Option (Nat×Nat)):Prop where
 inv:uN A r.1
 pre:∃R,r.1=T++R
 go:r.2=none->∀k t,i<=k->r.1[k]? = some t->∀x,x<A.m->y t.1 x=true/\A.nx t.1 x∈r.1.map (·.1)
 stop:∀k x,r.2=some (k,x)->i<=k/\x<A.m/\(∃t,r.1[k]? = some t/\y t.1 x=false)/\(∀j t,i<=j->j<k->r.1[j]? = some t->∀z,z<A.m->y t.1 z=true)/\∀t,r.1[k]? = some t->∀z,z<x->y t.1 z=true
end Go.Am
namespace Go.Am
open Go
variable [Z4]
set_option maxRecDepth 100000
set_option maxHeartbeats 8000000
theorem aie (a:Yi)(h:a.next.length<=256):ZE U 103 [Wd a]=some (.XU [Wd a,.int .i64 0]):=by
 refine ZR ael (by kernel_rfl) (by simp[ZU,VJ]) ?_;rw[WJ a];unfold SV Vy;have nn:=ZL a.TH (a.next.map Zn);have nf:=ZL a.S6 (a.ZD.map Zv);have cn:=Zu a.TH (a.next.map Zn);have cf:=Zu a.S6 (a.ZD.map Zv);have ln:=ZI a.TH (a.next.map Zn);rw[agC] at ln;have hd:decide ((a.next.length:Int)>256)=false:=by simp;omega
 simp only[go_sem,abn,nn,nf,ln,hd,UL]
def jh (k c:Nat):List AV:=[.int .i64 ((c / k:Nat):Int),.int .i64 ((c%k:Nat):Int)]
def afY (k:Nat)(f:Nat->AV):List Nat->Nat->List (AV×AV)
 |[],_=>[]
 |c::l,i=>(.agg (jh k c),f i)::afY k f l (i+1)
end Go.Am
namespace Go.Am
open Go
variable [Z4]
set_option maxRecDepth 100000
end Go.Am
namespace Go.Am
open Go
variable [Z4]
set_option maxRecDepth 100000
set_option maxHeartbeats 8000000
def agh:RC:=(sO [Zi 2 158 0,Zj 4] (sO [ZX 5 0 2,Z0 6 5,om 7 1,sK 8 3 6 7,tw 9 3 8 1,VR 10 3 9 1,om 4 10] .ret))
theorem aj7:Ze 198=some ([.tmp 4],agh):=by kernel_rfl
def agj:RC:=(sO [Zi 2 158 0,Zj 4] (sO [ZX 5 1 2,Z0 6 5,om 7 1,sK 8 3 6 7,tw 9 3 8 1,VR 10 3 9 1,om 4 10] .ret))
theorem aj8:Ze 201=some ([.tmp 4],agj):=by kernel_rfl
def agI:RC:=(sO [Zi 2 48 0,Zi 3 158 1,Zj 4] (sO [Zr 5 3 3,ZX 6 1 2,Z0 7 6,Zb 8 198 5 7,om 4 8] .ret))
theorem akn:Ze 197=some ([.tmp 4],agI):=by kernel_rfl
def agJ:RC:=(sO [Zi 2 48 0,Zi 3 158 1,Zj 4] (sO [Zr 5 3 3,ZX 6 1 2,Z0 7 6,Zb 8 198 5 7,WZ 9 8,om 4 9] .ret))
theorem ako:Ze 199=some ([.tmp 4],agJ):=by kernel_rfl
def agK:RC:=(sO [Zi 2 48 0,Zi 3 158 1,Zj 4] (sO [Zr 5 3 3,ZX 6 1 2,Z0 7 6,Zb 8 198 5 7,om 9 8,Tg 10 9 3 3,YW 11 9 1 2,YV 12 9 11,Un 13 9 201 10 12,Q6 14 9 13,YJ 15 9 14,om 4 15] .ret))
theorem akp:Ze 200=some ([.tmp 4],agK):=by kernel_rfl
def agL:RC:=(sO [Zi 2 48 0,Zi 3 158 1,Zj 4] (sO [Zr 5 3 3,ZX 6 1 2,Z0 7 6,Zb 8 198 5 7,WZ 9 8,om 10 9,Tg 11 10 3 3,YW 12 10 1 2,YV 13 10 12,Un 14 10 201 11 13,YJ 15 10 14,om 4 15] .ret))
theorem akq:Ze 202=some ([.tmp 4],agL):=by kernel_rfl
def agM:RC:=(sO [Zi 2 48 0,Zi 3 158 1,Zj 4] (sO [ZX 5 5 2,Z0 6 5,ZX 7 0 3,Z0 8 7,Zb 9 204 6 8,om 4 9] .ret))
theorem akr:Ze 203=some ([.tmp 4],agM):=by kernel_rfl
def agN:RC:=(sO [Zi 2 48 0,Zi 3 158 1,Zj 4] (sO [ZX 5 5 2,Z0 6 5,ZX 7 0 3,Z0 8 7,Zb 9 204 6 8,om 10 9,YW 11 10 5 2,YV 12 10 11,YW 13 10 1 3,YV 14 10 13,Un 15 10 204 12 14,Q6 16 10 15,YJ 17 10 16,om 4 17] .ret))
theorem aks:Ze 205=some ([.tmp 4],agN):=by kernel_rfl
def agO:RC:=(sO [Zi 3 48 0,Zi 5 158 2,ZA 6 0,Zj 7] (sQ (sQ (.TP 13 [ZX 8 2 5,Z0 9 8,om 10 9,Qq 11 10 3 5,Uj 12 10 1 3,XH 13 10 12,Gg 14 10 198 11 13,Qq 15 10 3 5,Uj 16 10 1 3,XH 17 10 16,Gg 18 10 201 15 17,oF 19 10 (.bin .neq 4 false (.t 14) (.t 18)),Yp 20 10 19]) (cT 20 (oP [ZA 1 0]))) (sO [om 21 1,YE 22 3 21 1,ZX 23 3 3,Z0 24 23,YE 25 3 24 1,sI 26 22 25 3 3,om 1 26] (sQ (.TP 7 [om 27 1,om 28 1,ZX 29 3 3,Z0 30 29,Ja 31 3 28 30,om 6 27,om 7 31]) .ret))))
theorem akt:Ze 207=some ([.tmp 6,.tmp 7],agO):=by kernel_rfl
def agP:RC:=(sO [Zi 3 48 0,Zi 5 158 2,ZA 6 0,Zj 7] (sO [om 8 1,YE 9 3 8 1,ZX 10 3 3,Z0 11 10,sI 12 9 11 3 3,om 1 12] (sQ (sQ (.TP 9 [Zr 13 3 5,ZX 14 1 3,Z0 15 14,Zb 16 198 13 15,Zr 17 3 5,ZX 18 1 3,Z0 19 18,Zb 20 201 17 19,Oe 21 4 16 20]) (cT 21 (oP [ZA 1 0]))) (sQ (.TP 20 [om 22 1,Zr 23 3 5,ZX 24 2 3,Z0 25 24,Zb 26 198 23 25,om 27 26,Tg 28 27 3 5,YW 29 27 2 3,YV 30 27 29,Un 31 27 201 28 30,Q6 32 27 31,YJ 33 27 32,om 34 33,Zp 35 34 1,YW 36 34 3 3,YV 37 34 36,oT 38 34 (.bin .lss 3 false (.t 35) (.t 37)),YJ 39 34 38,om 6 22,om 7 39]) .ret))))
theorem aku:Ze 209=some ([.tmp 6,.tmp 7],agP):=by kernel_rfl
def agQ:RC:=(sO [Zi 3 48 0,Zi 5 158 2,ZA 6 0,Zj 7] (sQ (.block 0 (sO [Zr 9 3 5,ZX 10 1 3,Z0 11 10,Zb 12 198 9 11,WZ 13 12,om 8 13] (cO 8 (sO [Zr 14 3 5,ZX 15 1 3,Z0 16 15,Zb 17 201 14 16,om 18 17,Zp 19 18 1,MP 20 18 3 19 2,YJ 21 18 20,ZA 6 0,om 7 21] .ret) (sO [ZX 23 2 5,Z0 24 23,WZ 25 24,om 26 25,Tg 27 26 3 5,YW 28 26 2 3,YV 29 26 28,Un 30 26 198 27 29,Q6 31 26 30,YJ 32 26 31,om 33 32,Tg 34 33 3 5,YW 35 33 1 3,YV 36 33 35,Un 37 33 201 34 36,Q6 38 33 37,Zp 39 33 38,Yo 40 39 1,oF 41 39 (.bin .eql 3 true (.t 40) (vI 2)),oT 42 33 (.pick (.t 39) vT (.t 41)),YJ 43 33 42,om 22 43] (cT 22 (sO [ZA 6 2,Zj 7] .ret)))))) (sO [ZA 6 1,Zj 7] .ret)))
theorem akv:Ze 211=some ([.tmp 6,.tmp 7],agQ):=by kernel_rfl
def agR:RC:=(sO [Zi 4 48 0,Zi 6 158 2,ZA 7 0,Zj 8] (sO [om 9 1,Z0 10 3,Zr 11 7 4,Zr 12 3 6,o 13 (.IU (.t 10) [(.t 11),(.t 12)]),om 7 9,om 8 13] .ret))
theorem akw:Ze 235=some ([.tmp 7,.tmp 8],agR):=by kernel_rfl
def agS:RC:=(sO [Zi 4 48 0,Zi 6 158 2,ZA 7 0,Zj 8] (sQ (.TP 14 [Zr 11 3 6,ZX 12 1 4,Z0 13 12,Zb 14 198 11 13,Z0 15 3,Ja 16 4 14 15,Zr 17 3 6,ZX 18 1 4,Z0 19 18,Zb 20 201 17 19,Z0 21 3,Ja 22 4 20 21,om 9 16,om 10 22]) (sQ (.block 0 (sO [om 24 9,WZ 25 24,om 23 25] (cO 23 (sQ (.TP 15 [om 26 10,om 27 26,Zp 28 27 1,YW 29 27 3 4,YV 30 27 29,oT 31 27 (.bin .geq 3 false (.t 28) (.t 30)),YJ 32 27 31,om 33 32,Zp 34 33 1,YW 35 33 4 4,YV 36 33 35,Lg 37 33 3 34 36,YJ 38 33 37,ZA 7 0,om 8 38]) .ret) (sO [ZX 40 2 6,Z0 41 40,om 39 41] (cO 39 (sO [ZX 42 4 4,Z0 43 42,YE 44 3 43 1,om 7 44,Zj 8] .ret) (sO [om 46 10,WZ 47 46,om 45 47] (cT 45 (sO [ZA 7 1,Zj 8] .ret)))))))) (sO [om 48 1,YE 49 3 48 1,ZX 50 4 4,Z0 51 50,YE 52 3 51 1,sI 53 49 52 3 3,om 7 53,Zj 8] .ret))))
theorem akx:Ze 236=some ([.tmp 7,.tmp 8],agS):=by kernel_rfl
def CA:RC:=(sO [YN 15 3 14 13] (sQ (cS 15 (.exit 0)) (sQ (.block 1 (sO [Zk 16 7 12 14,Zr 17 7 16,Pa 5 0 0 0 0 48,YT 7 5 17] (oP [om 18 3,Zr 19 7 5,Zc 20 160 19,VT 21 48 7 88 18 20,om 3 21]))) (oP [YE 22 3 14 1,om 14 22]))))
def aaW:RC:=(sO [Zi 1 48 0,WY 2] (sQ (sO [Zr 6 7 1,Zc 7 213 6,WZ 8 7] (cT 8 (sO [Zr 9 7 1,o 10 (.U3 48 7 1 [(.str []),(iI 0),(iI 0),(iI 0),(iI 0),(.str []),.ZW] [(0,7,(.t 9))]),om 2 10] .ret))) (sO [WY 3] (sQ (sO [ZX 11 6 1,Z0 12 11,YU 13 12,ZA 14 0] (.block 0 (.loop CA))) (sO [om 23 3,om 2 23] .ret)))))
theorem ahA:Ze 160=some ([.tmp 2],aaW):=by kernel_rfl
def Br:RC:=(sO [YN 19 3 18 17] (sQ (cS 19 (.exit 0)) (sQ (.block 1 (sO [Zk 20 7 16 18,Zr 21 7 20,Pa 8 0 0 0 0 48,YT 7 8 21] (sO [Zr 22 7 8,om 23 1,Zb 24 161 22 23,om 9 24] (oP [om 25 5,om 26 25,Yo 27 26 9,Yp 28 26 27,om 29 6,om 30 29,Zp 31 30 9,YJ 32 30 31,om 5 28,om 6 32])))) (oP [YE 33 3 18 1,om 18 33]))))
def bC:RC:=(sO [Zi 2 48 0,Zj 4] (sQ (sO [Zr 10 7 2,Zc 11 213 10,WZ 12 11] (cT 12 (sO [om 13 1,o 14 (.IU (.t 13) []),om 4 14] .ret))) (sO [Zj 5,TK 6] (sQ (sO [ZX 15 6 2,Z0 16 15,YU 17 16,ZA 18 0] (.block 0 (.loop Br))) (sQ (sO [ZX 34 0 2,Z0 35 34] (.block 2 (sO [Td 37 9 35 110 111 116,om 36 37] (cO 36 (sO [om 38 5,WZ 39 38,om 4 39] .ret) (sO [Td 41 9 35 97 110 121,om 40 41] (cT 40 (sO [om 42 5,om 4 42] .ret))))))) (sO [om 43 6,om 4 43] .ret))))))
theorem aky:Ze 161=some ([.tmp 4],bC):=by kernel_rfl
def agT:RC:=(sO [Zj 2] (sO [Z0 3 0,YE 4 3 3 1,YT 1 0 4] (sO [Z0 5 1,Z0 6 0,Zk 7 1 5 6,Z0 8 7,om 2 8] .ret)))
theorem akz:Ze 162=some ([.tmp 2],agT):=by kernel_rfl
def Pp:RC:=(sO [o 9 (.raw (.next (.tmp 8) true)),YO 10 9 0] (sQ (cS 10 (.exit 0)) (.block 1 (sO [YO 11 9 1,YO 12 9 2,om 5 11,om 6 12] (sO [om 13 6] (.block 2 (sQ (sO [o 15 (.bin .eql 21 true (.t 13) (.v (.int .i32 48))),om 14 15] (cS 14 (oP [o 16 (.bin .eql 21 true (.t 13) (.v (.int .i32 49))),om 14 16]))) (cT 14 (sO [om 17 1,om 18 5,sK 19 3 17 18,tw 20 3 19 1,o 21 (.bin .add 3 true (vI 48) (.t 20)),o 22 (.raw (.convert 3 21 (.tmp 21))),om 23 6,Oe 24 21 22 23] (cT 24 (sO [Zj 4] .ret)))))))))))
def agk:RC:=(sO [Zj 4] (sQ (sO [om 7 0,o 8 (.raw (.range 9 (.tmp 7)))] (.block 0 (.loop Pp))) (sO [TK 4] .ret)))
theorem aj9:Ze 204=some ([.tmp 4],agk):=by kernel_rfl
def Zy (n k:Int):Int:=n / 2^k.toNat%2
theorem Lv (n k:Int):Zy n k=0\/Zy n k=1:=by unfold Zy;omega
theorem Hs (t:TypeId)(cst:Bool)(a b:Int)(h0:0<=b)(h1:b<=64):Wg U .shr t cst (.int .i64 a) (.int .i64 b)=some (.int .i64 (a / 2^b.toNat)):=by
 have:min b.toNat IntKind.i64.bits=b.toNat:=by
  have:IntKind.i64.bits=64:=rfl;omega
 simp only[Wg,JN,if_neg (show ¬b<0 by omega),this];rw[Int.fdiv_eq_ediv_of_nonneg];exact Int.pow_nonneg (by decide)
theorem KJ (t:TypeId)(cst:Bool)(a:Int)(h0:0<=a)(h1:a<2^62):Wg U .and t cst (.int .i64 a) (.int .i64 1)=some (.int .i64 (a%2)):=by
 simp only[Wg,if_true,Mc];have h2:IntKind.i64.bits=64:=rfl;rw[h2];have:((BitVec.ofInt 64 a &&& BitVec.ofInt 64 1).toNat:Int)=a%2:=by
  rw[BitVec.toNat_and,BitVec.toNat_ofInt,BitVec.toNat_ofInt];have e1:(1%((2^64:Nat):Int)).toNat=1:=by decide
  have e2:(a%((2^64:Nat):Int)).toNat=a.toNat:=by
   rw[Int.emod_eq_of_lt h0 (by omega)]
  rw[e1,e2,Nat.and_one_is_mod];omega
 rw[this,wrap_i64] <;> omega
theorem BD {n:Int}(k:Nat)(h:0<=n):0<=n / 2^k/\n / 2^k<=n:=by
 have:(0:Int)<2^k:=Int.pow_pos (by decide);refine⟨Int.ediv_nonneg h (by omega),?_⟩;exact Int.ediv_le_self _ h
def Hb (l:List Int):Prop:=l.length<=4096/\∀x∈l,0<=x/\x<65536
theorem vh {l:List Int}(h:Hb l)(t:Int):0<=Xg l t/\Xg l t<65536:=by
 unfold Xg;rw[alM]
 cases hg:l[t.toNat]? with
 |none=>simp
 |some x=>exact h.2 x (amu hg)
def QS (l:List Int)(t:Int):Int:=Xg l (max 0 (t-1))
def runN (l:List Int)(k:Int):Nat->Nat
 |0=>0
 |t+1=>bif Zy (Xg l (t:Int)) k==Zy (Xg l ((t+1:Nat):Int)) k then runN l k t else t+1
theorem NN (l:List Int)(k:Int):∀t,runN l k t<=t
 |0=>agB _
 |t+1=>by
  unfold runN
  cases Zy (Xg l (t:Int)) k==Zy (Xg l ((t+1:Nat):Int)) k with
  |true=>have:=NN l k t;show runN l k t<=t+1;omega
  |false=>exact agB _
def Lt (l:List Int)(k Og:Int)(t:Nat):Bool:=(t:Int)==0||Zy (Xg l (t:Int)) k==Og||Zy (Xg l ((t-1:Nat):Int)) k != Og
def WI (l:List Int)(k Og:Int)(t:Nat):Nat:=bif Lt l k Og t then 0 else runN l k (t-1)
def Tl (l:List Int)(k Og:Int)(t:Nat):Bool:=bif Lt l k Og t then false else decide (0<runN l k (t-1))
def iM (sym:Int)(i:Nat)(c:UInt8):Bool:=c==48&&Zy sym (i:Int) != 0||c==49&&Zy sym (i:Int) != 1
def yW (sym:Int):Nat->XV->Bool
 |_,[]=>true
 |i,c::l=>bif iM sym i c then false else yW sym (i+1) l
end Go.Am
namespace Go.Am
open Go
variable [Z4]
def Z5.wf:Z5->Prop
 |.mk k a b mi ma pat _ kids=>(0<=a/\a<16)/\(0<=b/\b<16)/\(0<=mi/\mi<=255)/\(0<=ma/\ma<=255)/\pat.length<=16/\(∀c∈pat,c=48\/c=49\/c=120) /\
  (ZF k).known=true/\(ZF k=.QG->kids.length=1)/\((YQ (ZF k)).kids=false->kids=[])/\((YQ (ZF k)).kids=true->kids≠[])/\((YQ (ZF k)).mi=true->1<=mi)/\kids.length<=8/\∀x∈kids,x.wf
theorem Dj {lines d:Int}:∀{l:List Z5},Pz lines l d=0->∀x∈l,Mr lines x d=0
 |[],_,x,hx=>by cases hx
 |c::l,h,x,hx=>by
  rw[Pz] at h
  cases hb:Mr lines c d != 0 with
  |true =>
   rw[hb] at h;have h:Mr lines c d=0:=h;rw[h] at hb;cases hb
  |false =>
   rw[hb] at h;rcases alL.1 hx with rfl|hx
   ·simpa using hb
   ·exact Dj h x hx
theorem vk {pat:XV}{lines:Int}(h:MA pat lines=false):(pat.length:Int)=lines/\∀c∈pat,c=48\/c=49\/c=120:=by
 unfold MA at h;rw[ame] at h;refine⟨by simpa using h.1,fun c hc=>?_⟩;have:=List.any_eq_false.1 h.2 c hc;by_cases h1:c=48
 ·exact .inl h1
 ·by_cases h2:c=49
  ·exact .inr (.inl h2)
  ·by_cases h3:c=120
   ·exact .inr (.inr h3)
   ·exact absurd (by simp[h1,h2,h3]) this
theorem kR {lines:Int}(h1:1<=lines)(h2:lines<=16):∀(c:Z5) (d:Int),Mr lines c d=0->c.wf:=by
 intro c
 induction c using Z5.ind with
 |h k a b mi ma pat nl kids ih =>
 intro d h;rw[Mr] at h;obtain⟨-,h⟩:=U5 h (by decide);obtain⟨q1,h⟩:=U5 h (by decide);obtain⟨q2,h⟩:=U5 h (by decide);obtain⟨q3,h⟩:=U5 h (by decide);obtain⟨-,h⟩:=U5 h (by decide);obtain⟨q5,h⟩:=U5 h (by decide);obtain⟨-,h⟩:=U5 h (by decide);obtain⟨q7,h⟩:=U5 h (by decide);obtain⟨q8,h⟩:=U5 h (by decide);obtain⟨q9,h⟩:=U5 h (by decide);obtain⟨Cd,h⟩:=U5 h (by decide);have hk:=fun x hx=>ih x hx _ (Dj h x hx)
 rw[wrap_i64 (by omega) (by omega)] at q3;simp only[ame,Bool.and_eq_false_iff] at q2 q3 q5 q7 q8 q9 Cd;rw[ze] at q8;rw[Z5.wf];generalize ZF k=dd at *;have ha:0<=a/\a<16:=by
  cases hu:(YQ dd).a with
  |true=>rcases q3.1 with h|h;(rw[hu] at h;cases h);have:=Pv h;omega
  |false =>
    rcases q2.1.1.1.1.1 with h|h;(rw[hu] at h;cases h);have:a=0:=by simpa using h
    omega
 have hb:0<=b/\b<16:=by
  cases hu:(YQ dd).b with
  |true=>rcases q3.2 with h|h;(rw[hu] at h;cases h);have:=Pv h;omega
  |false =>
    rcases q2.1.1.1.1.2 with h|h;(rw[hu] at h;cases h);have:b=0:=by simpa using h
    omega
 have hm:0<=mi/\mi<=255/\((YQ dd).mi=true->1<=mi):=by
  cases hu:(YQ dd).mi with
  |true=>rcases q5.1 with h|h;(rw[hu] at h;cases h);have:=Pv h;omega
  |false =>
    rcases q2.1.1.1.2 with h|h;(rw[hu] at h;cases h);have:mi=0:=by simpa using h
    subst this;exact⟨by omega,by omega,fun h=>by cases h⟩
 have hM:0<=ma/\ma<=255:=by
  cases hu:(YQ dd).ma with
  |true=>rcases q5.2 with h|h;(rw[hu] at h;cases h);have:=Pv h;omega
  |false =>
    rcases q2.1.1.2 with h|h;(rw[hu] at h;cases h);have:ma=0:=by simpa using h
    omega
 have hp:pat.length<=16/\∀c∈pat,c=48\/c=49\/c=120:=by
  cases hu:(YQ dd).pat with
  |true=>rcases q7 with h|h;(rw[hu] at h;cases h);have:=vk h;exact⟨by omega,this.2⟩
  |false =>
    rcases q2.1.2 with h|h;(rw[hu] at h;cases h);have:pat=[]:=by simpa using h
    subst this;exact⟨by simp,by simp⟩
 refine⟨ha,hb,⟨hm.1,hm.2.1⟩,hM,hp.1,hp.2,by simpa using q1,fun hd=>?_,fun hu=>?_,fun hu=>?_,hm.2.2,?_,hk⟩
 ·rcases q8 with h|h
  ·simp[hd] at h
  ·have:(kids.length:Int)=1:=by simpa using h
   omega
 ·rcases q2.2 with h|h
  ·rw[hu] at h;cases h
  ·have:¬(kids.length:Int)>0:=by simpa using h
   exact List.eq_nil_of_length_eq_zero (by omega)
 ·rcases q9 with h|h
  ·rw[hu] at h;cases h
  ·intro e;subst e;simp at h
 ·cases hu:(YQ dd).kids with
  |true =>
   rcases Cd with h|h
   ·rw[hu] at h;cases h
   ·have:¬(kids.length:Int)>8:=by simpa using h
    omega
  |false =>
   rcases q2.2 with h|h
   ·rw[hu] at h;cases h
   ·have:¬(kids.length:Int)>0:=by simpa using h
    omega
def dI (l:List Int)(k:Int):Nat->Nat->Bool->Bool
 |_,0,p=>p
 |u,n+1,p=>dI l k (u+1) n (p||Zy (Xg l (u:Int)) k != Zy (Xg l ((u-1:Nat):Int)) k)
def low (l:List Int)(k:Int):Nat->Nat->Bool->Bool
 |_,0,p=>p
 |u,n+1,p=>bif p then low l k (u+1) n (Zy (Xg l (u:Int)) k==0) else false
def XO (t:Nat)(mi:Int):Nat:=(max 1 ((t:Int)-mi+1)).toNat
mutual
def atR (l:List Int)(t:Nat):Z5->Bool
 |.mk k a b mi ma pat nl kids =>
  let now:=Xg l (t:Int)
  let was:=QS l (t:Int)
  match ZF k with
  |.high=>Zy now a==1
  |.low=>Zy now a==0
  |.Iz=>Zy now a==1&&Zy was a==0
  |.fall=>Zy now a==0&&Zy was a==1
  |.pattern=>yW now 0 pat
  |.enter=>yW now 0 pat&&!yW was 0 pat
  |.Vj=>Tl l a 1 t&&!outside ((t:Int)-(WI l a 1 t:Nat)) mi ma
  |.gap=>Tl l a 0 t&&!outside ((t:Int)-(WI l a 0 t:Nat)) mi ma
  |.idle=>(t:Int)-(runN l a t:Nat)+1==mi
  |.setup=>dI l a (XO t mi) (t+1-XO t mi) false&&Zy now b==1&&Zy was b==0
  |.Uf=>low l b (WI l a 1 t) (t-WI l a 1 t) (Tl l a 1 t)
  |.QG=>!pY l t kids
  |d=>((JC l t kids:Nat):Int)==((kids.length:Nat):Int)||decide (d=.OV)&&decide (((JC l t kids:Nat):Int)>0)
def pY (l:List Int)(t:Nat):List Z5->Bool
 |[]=>false
 |c::_=>atR l t c
def JC (l:List Int)(t:Nat):List Z5->Nat
 |[]=>0
 |c::k=>(bif atR l t c then 1 else 0)+JC l t k
end
end Go.Am
namespace Go.Am
open Go
variable [Z4]
set_option maxRecDepth 100000
set_option maxHeartbeats 8000000
theorem Qv (l:List Int)(k:Int)(u:Nat):∀n,low l k u n false=false
 |0=>rfl
 |n+1=>rfl
end Go.Am
