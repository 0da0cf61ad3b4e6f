/- A part of the proof of a statement of this seat: the machine on which the program is read, and what it computes; for every input. -/
import Derived.Test.YtkmaeondbkpajaaGreatDoorN04
set_option linter.all false
namespace Go.Am
open Go
variable [Z3]
set_option maxRecDepth 100000
set_option maxHeartbeats 8000000
def KT:RC:=(sQ (sO [om 30 5,YR 31 1 2,Ze 32 31,Wj 33 32,VF 34 3 30 33] (cS 34 (.exit 0))) (sQ (.block 1 (sO [YR 37 1 2,Ze 38 37,om 39 5,YS 40 1 38 39,Ze 41 40,Wj 42 41,Oc 43 3 42 18] (cT 43 (sO [UE 4] .ret)))) (oP [om 35 5,Vw 36 3 35 1,om 5 36])))
def KU:RC:=(sQ (sO [om 44 6,YR 45 2 2,Ze 46 45,Wj 47 46,VF 48 3 44 47] (cS 48 (.exit 2))) (sQ (.block 3 (sO [YR 51 2 2,Ze 52 51,om 53 6,YS 54 1 52 53,Ze 55 54,Wj 56 55,Oc 57 3 56 18] (cT 57 (sO [UE 4] .ret)))) (oP [om 49 6,Vw 50 3 49 1,om 6 50])))
def r44:RC:=(sO [TW 2 46 0,UE 4] (sQ (sO [YR 7 1 2,Ze 8 7,Wj 9 8,om 10 1,Bq 11 3 9 10,om 12 11,oT 13 12 (.fa 1 (.t 2)),P0 14 12 13,oT 15 12 (.Zf (.t 14)),oT 16 12 (.bin .leq 3 true (.t 15) (vI 256)),TV 17 12 16,om 18 17,P5 19 18 1 2,Tk 20 18 19,PZ 21 18 20,oF 22 18 (.bin .gtr 3 true (.t 21) (vI 258)),Tj 23 18 22,om 24 23,P5 25 24 2 2,Tk 26 24 25,PZ 27 24 26,oF 28 24 (.bin .gtr 3 true (.t 27) (vI 260)),Tj 29 24 28] (cT 29 (sO [UE 4] .ret))) (sQ (sO [WZ 5 0] (.block 0 (.loop KT))) (sQ (sO [WZ 6 0] (.block 2 (.loop KU))) (sO [Ip 4] .ret)))))
theorem k44:YQ 34=some ([.tmp 4],r44):=by kernel_rfl
def Hg:RC:=(sQ (sO [om 52 4,YR 53 1 1,Ze 54 53,om 55 3,YS 56 1 54 55,Ze 57 56,Wj 58 57,VF 59 3 52 58] (cS 59 (.exit 2))) (sQ (.block 3 (sQ (.Wq 13 [YR 62 1 1,Ze 63 62,om 64 3,YS 65 1 63 64,Ze 66 65,om 67 4,YS 68 1 66 67,Ze 69 68,YR 70 1 1,Ze 71 70,Wj 72 71,Vz 73 3 72 1,o 74 (.call 65 [(.t 69),(vI 0),(.t 73)])]) (cT 74 (sO [WZ 2 10] .ret)))) (oP [om 60 4,Vw 61 3 60 1,om 4 61])))
def KJ:RC:=(sQ (sO [om 23 3,YR 24 1 1,Ze 25 24,Wj 26 25,VF 27 3 23 26] (cS 27 (.exit 0))) (sQ (.block 1 (sQ (sQ (.Wq 22 [YR 30 1 1,Ze 31 30,om 32 3,YS 33 1 31 32,Ze 34 33,Wj 35 34,YR 36 0 1,Ze 37 36,AT 38 3 1 37,Ml 39 3 35 38,om 40 39,P5 41 40 2 1,Tk 42 40 41,Mh 43 40 3,oF 44 40 (.XV 1 (.t 42) (.t 43)),Tk 45 40 44,PZ 46 40 45,P5 47 40 0 1,Tk 48 40 47,oF 49 40 (.bin .shl 3 true (vI 1) (.t 48)),af3 50 40 3 46 49,Tj 51 40 50]) (cT 51 (sO [WZ 2 2] .ret))) (sO [WZ 4 0] (.block 2 (.loop Hg))))) (oP [om 28 3,Vw 29 3 28 1,om 3 29])))
def r50:RC:=(sO [TW 1 46 0,WZ 2 0] (sQ (sO [YR 5 0 1,Ze 6 5,o 7 (.call 65 [(.t 6),(vI 1),(vI 4)])] (cT 7 (sO [WZ 2 3] .ret))) (sQ (sO [YR 8 1 1,Ze 9 8,Wj 10 9,Mg 11 3 10 0] (cT 11 (sO [WZ 2 12] .ret))) (sQ (sO [YR 12 1 1,Ze 13 12,Wj 14 13,Oc 15 3 14 256] (cT 15 (sO [WZ 2 5] .ret))) (sQ (sO [YR 16 2 1,Ze 17 16,Wj 18 17,YR 19 1 1,Ze 20 19,Wj 21 20,Ml 22 3 18 21] (cT 22 (sO [WZ 2 2] .ret))) (sQ (sO [WZ 3 0] (.block 0 (.loop KJ))) (sO [WZ 2 0] .ret)))))))
theorem k50:YQ 17=some ([.tmp 2],r50):=by kernel_rfl
def Dy:RC:=(sO [VF 39 3 38 37] (sQ (cS 39 (.exit 0)) (sQ (.block 1 (sO [om 40 38,YS 41 1 36 38,Ze 42 41,om 4 40,om 5 42] (sQ (.Wq 19 [om 43 5,Wj 44 43,YR 45 0 1,Ze 46 45,AT 47 3 1 46,Ml 48 3 44 47,om 49 48,P5 50 49 2 1,Tk 51 49 50,Mh 52 49 4,oF 53 49 (.XV 1 (.t 51) (.t 52)),Tk 54 49 53,PZ 55 49 54,P5 56 49 0 1,Tk 57 49 56,oF 58 49 (.bin .shl 3 true (vI 1) (.t 57)),af3 59 49 3 55 58,Tj 60 49 59,om 6 60]) (sO [om 61 5,o 62 (.gg 154 [] [(.t 1)]),RL 63 134 61 62,om 7 63] (sO [om 64 6,Oi 65 85 64 2,om 66 7,Oi 67 85 66 10,o 68 (.VC 26 1 2 [(iI 0),(iI 0)] [(0,1,(.t 65)),(1,1,(.t 67))]),Vf 69 93 68,om 8 69] (sO [om 70 8,Oa 71 26 70 0] (cT 71 (sO [om 72 8,om 2 72] .ret)))))))) (oP [Vw 73 3 38 1,om 38 73]))))
def r58:RC:=(sO [TW 1 42 0,WZ 2 0] (sQ (sQ (.Wq 24 [YR 9 0 1,Ze 10 9,o 11 (.call 111 [(.t 10),(vI 1),(vI 4)]),YR 12 1 1,Ze 13 12,Wj 14 13,Mg 15 3 14 0,Oi 16 85 15 12,YR 17 1 1,Ze 18 17,Wj 19 18,Oc 20 3 19 256,Oi 21 85 20 5,YR 22 2 1,Ze 23 22,Wj 24 23,YR 25 1 1,Ze 26 25,Wj 27 26,Ml 28 3 24 27,Oi 29 85 28 2,⟨some 30,none,some 21,false,.VC 26 1 4 [(iI 0),(iI 0),(iI 0),(iI 0)] [(0,1,(.t 11)),(1,1,(.t 16)),(2,1,(.t 21)),(3,1,(.t 29))]⟩,Vf 31 93 30,om 3 31]) (sO [om 32 3,Oa 33 26 32 0] (cT 33 (sO [om 34 3,om 2 34] .ret)))) (sQ (sO [YR 35 1 1,Ze 36 35,Wj 37 36,WZ 38 0] (.block 0 (.loop Dy))) (sO [WZ 2 0] .ret))))
theorem k58:YQ 94=some ([.tmp 2],r58):=by kernel_rfl
def r59:RC:=(sO [TW 1 42 0,Ob 2 0 42,WZ 3 0] (sQ (sO [Xr 5 3 1,Vf 6 94 5,om 4 6] (sO [om 7 4,Oa 8 26 7 0] (cT 8 (sO [o 9 (.JE [(iI 0),.ZR,.ZR] []),om 10 4,U5 3 2 9,om 3 10] .ret)))) (sO [Xr 11 3 1,Vf 12 63 11,U5 3 2 12,WZ 3 0] .ret)))
theorem k59:YQ 35=some ([.cell 2 42,.tmp 3],r59):=by kernel_rfl
def DM:RC:=(sQ (sO [om 31 5,YR 32 1 2,Ze 33 32,Wj 34 33,VF 35 3 31 34] (cS 35 (.exit 0))) (sQ (.block 1 (sQ (.Wq 12 [YR 38 1 2,Ze 39 38,om 40 5,YS 41 1 39 40,Ze 42 41,YR 43 1 3,Ze 44 43,om 45 5,YS 46 1 44 45,Ze 47 46,RL 48 92 42 47,Mj 49 48]) (cT 49 (sO [UE 4] .ret)))) (oP [om 36 5,Vw 37 3 36 1,om 5 37])))
def DK:RC:=(sQ (sO [om 70 7,YR 71 2 2,Ze 72 71,om 73 6,YS 74 1 72 73,Ze 75 74,Wj 76 75,VF 77 3 70 76] (cS 77 (.exit 4))) (sQ (.block 5 (sQ (.Wq 17 [YR 80 2 2,Ze 81 80,om 82 6,YS 83 1 81 82,Ze 84 83,om 85 7,YS 86 1 84 85,Ze 87 86,YR 88 2 3,Ze 89 88,om 90 6,YS 91 1 89 90,Ze 92 91,om 93 7,YS 94 1 92 93,Ze 95 94,Ml 96 4 87 95]) (cT 96 (sO [UE 4] .ret)))) (oP [om 78 7,Vw 79 3 78 1,om 7 79])))
def DL:RC:=(sQ (sO [om 50 6,YR 51 2 2,Ze 52 51,Wj 53 52,VF 54 3 50 53] (cS 54 (.exit 2))) (sQ (.block 3 (sQ (sQ (.Wq 13 [YR 57 2 2,Ze 58 57,om 59 6,YS 60 1 58 59,Ze 61 60,Wj 62 61,YR 63 2 3,Ze 64 63,om 65 6,YS 66 1 64 65,Ze 67 66,Wj 68 67,Ml 69 3 62 68]) (cT 69 (sO [UE 4] .ret))) (sO [WZ 7 0] (.block 4 (.loop DK))))) (oP [om 55 6,Vw 56 3 55 1,om 6 56])))
def r60:RC:=(sO [TW 2 46 0,TW 3 46 1,UE 4] (sQ (sO [YR 8 0 2,Ze 9 8,YR 10 0 3,Ze 11 10,Ml 12 3 9 11,om 13 12,P5 14 13 1 2,Tk 15 13 14,PZ 16 13 15,P5 17 13 1 3,Tk 18 13 17,PZ 19 13 18,af3 20 13 3 16 19,Tj 21 13 20,om 22 21,P5 23 22 2 2,Tk 24 22 23,PZ 25 22 24,P5 26 22 2 3,Tk 27 22 26,PZ 28 22 27,af3 29 22 3 25 28,Tj 30 22 29] (cT 30 (sO [UE 4] .ret))) (sQ (sO [WZ 5 0] (.block 0 (.loop DM))) (sQ (sO [WZ 6 0] (.block 2 (.loop DL))) (sO [Ip 4] .ret)))))
theorem k60:YQ 29=some ([.tmp 4],r60):=by kernel_rfl
def bP:RC:=(sO [UE 3] (sO [om 4 0,K' 5 3 4 0,om 6 5,Mh 7 6 0,P5 8 6 1 1,Tk 9 6 8,PZ 10 6 9,AU 11 6 3 7 10,Tj 12 6 11,om 3 12] .ret))
theorem acx:YQ 154=some ([.tmp 3],bP):=by kernel_rfl
def aS:RC:=(sO [Ra 2] (sQ (sO [om 3 0,o 4 (.bin .eql 72 true (.t 3) (.v .ZR))] (cT 4 (sO [Ra 2] .ret))) (sO [o 5 (.VC 4 1 0 [] []),om 6 0,Pg 7 4 1 1 5 6,om 2 7] .ret)))
theorem acM:YQ 131=some ([.tmp 2],aS):=by kernel_rfl
def aam:RC:=(sO [Ra 2] (sQ (sO [om 3 0,o 4 (.bin .eql 48 true (.t 3) (.v .ZR))] (cT 4 (sO [Ra 2] .ret))) (sO [o 5 (.VC 3 1 0 [] []),om 6 0,Pg 7 3 1 8 5 6,om 2 7] .ret)))
theorem adr:YQ 170=some ([.tmp 2],aam):=by kernel_rfl
def qB:RC:=(sO [UE 4] (sO [om 9 0,UY 10 9,YR 11 2 10,Ze 12 11,om 13 1,YS 14 1 12 13,Ze 15 14,om 5 15] (sQ (.Wq 24 [om 16 0,UY 17 16,YR 18 1 17,Ze 19 18,om 20 1,YS 21 1 19 20,Ze 22 21,om 23 0,UY 24 23,YR 25 3 24,Ze 26 25,om 27 5,YS 28 1 26 27,Ze 29 28,om 30 0,UY 31 30,YR 32 5 31,Ze 33 32,om 34 5,YS 35 1 33 34,Ze 36 35,UD 37 3 29 36,om 6 22,om 7 37]) (sQ (sO [om 38 6,om 39 7,VF 40 3 38 39] (cT 40 (sO [UE 4] .ret))) (sO [om 41 0,UY 42 41,YR 43 0 42,Ze 44 43,om 45 7,YS 46 1 44 45,Ze 47 46,om 8 47] (sQ (.Wq 16 [om 48 0,UY 49 48,YR 50 0 49,Ze 51 50,om 52 6,om 53 0,UY 54 53,YR 55 0 54,Ze 56 55,om 57 7,om 58 8,om 59 1,YS 60 1 51 52,⟨none,none,none,true,.st 1 (.t 60) (.t 58)⟩,YS 61 1 56 57,⟨none,none,none,true,.st 1 (.t 61) (.t 59)⟩]) (sQ (.Wq 16 [om 62 0,UY 63 62,YR 64 1 63,Ze 65 64,om 66 8,om 67 0,UY 68 67,YR 69 1 68,Ze 70 69,om 71 1,om 72 6,om 73 7,YS 74 1 65 66,⟨none,none,none,true,.st 1 (.t 74) (.t 72)⟩,YS 75 1 70 71,⟨none,none,none,true,.st 1 (.t 75) (.t 73)⟩]) (sO [om 76 0,UY 77 76,YR 78 5 77,Ze 79 78,om 80 5,YS 81 1 79 80,Ze 82 81,Vw 83 3 82 1,YS 84 1 79 80,U5 1 84 83] (sO [om 85 0,UY 86 85,YR 87 5 86,Ze 88 87,om 89 5,YS 90 1 88 89,Ze 91 90,Mg 92 3 91 1,om 4 92] .ret)))))))))
theorem ab5:YQ 171=some ([.tmp 4],qB):=by kernel_rfl
end Go.Am
namespace Go.Am
open Go
variable [Z3]
set_option maxRecDepth 100000
def r94:RC:=(sO [UE 6] (sO [om 7 0,om 8 1,VF 9 3 7 8,om 10 9,Mh 11 10 0,Mh 12 10 2,oF 13 10 (.bin .gtr 3 false (.t 11) (.t 12)),Tj 14 10 13,om 6 14] .ret))
theorem k94:YQ 65=some ([.tmp 6],r94):=by kernel_rfl
def dm:RC:=(sO [WZ 4 0] (sQ (sO [om 5 0] (cT 5 (sO [om 6 1,om 4 6] .ret))) (sO [WZ 4 0] .ret)))
theorem abX:YQ 85=some ([.tmp 4],dm):=by kernel_rfl
def dk:RC:=(sO [WZ 6 0] (sO [om 7 0,om 8 1,VF 9 3 7 8,om 10 9,Mh 11 10 0,Mh 12 10 2,oF 13 10 (.bin .gtr 3 false (.t 11) (.t 12)),Tj 14 10 13,Oi 15 85 14 3,om 6 15] .ret))
theorem abY:YQ 111=some ([.tmp 6],dk):=by kernel_rfl
def Dv:RC:=(sO [VF 8 3 7 6] (sQ (cS 8 (.exit 0)) (sQ (.block 1 (sO [YS 9 1 5 7,Ze 10 9,om 4 10] (sO [om 11 4,Oa 12 26 11 0] (cT 12 (sO [om 13 4,om 2 13] .ret))))) (oP [Vw 14 3 7 1,om 7 14]))))
def r89:RC:=(sO [WZ 2 0] (sQ (sO [om 5 0,Wj 6 5,WZ 7 0] (.block 0 (.loop Dv))) (sO [WZ 2 0] .ret)))
theorem k89:YQ 93=some ([.tmp 2],r89):=by kernel_rfl
end Go.Am
namespace Go.Am
open Go Go.Proofs
variable [Z3]
set_option maxRecDepth 100000
theorem eV (a:AV)(s:St):Vd U 42 a s=UL 3 a s:=BO U nS nR a s
theorem mg (a:AV)(s:St):Vd U 55 a s=UL 2 a s:=BO U xA xy a s
theorem Gd (x:Option AV)(s:St):Ug false x s=some (undef,s):=(fun h=>h) rfl
theorem Gc (X:Cx)(x:Option AV)(f:FuncId)(args:List AV)(s:St):S1 X false x f args s=some (undef,s):=(fun h=>h) rfl
def St.upto (s:St)(k:Nat):St:={ s with next:=k }
theorem Z0 (s:St)(k j:Nat):(s.upto k).get j=s.get j:=(fun h=>h) rfl
theorem Z_ (s:St)(k:Nat):(s.upto k).next=k:=(fun h=>h) rfl
theorem Gb {X:Cx}{β:Type}(fin:Fl->β)(ks:List K)(e:Env)(s:St)(n:Nat)(l:List RO):go X fin ks (.Wq n l) e s=bif XM s.next s l then Jw X fin ks s.next l e (s.upto (s.next+n)) else stuck X fin ks:=xw X fin ks e s n l
theorem BN {n:Nat}(h:4<=n):U.O_ n=none:=by
 rw[O9];unfold nQ xu
 match n,h with
 |n+4,_=>rfl
def Fr (s:St):Prop:=∀j,s.next<=j->s.get j=none
theorem Fr.at {s:St}(h:Fr s)(k:Nat):s.get (s.next+k)=none:=h _ (by omega)
theorem Fr.own:Fr (YH U):=fun j hj=>by
 rw[HJ];rw[K6,K5] at hj;exact BN (by omega)
theorem Fr.new {s:St}(h:Fr s)(x:UK):Fr (s.new x):=fun j hj=>by
 rw[Z'] at hj;rw[ZZ,if_neg (by omega)];exact h j (by omega)
theorem Fr.put {s:St}(h:Fr s){k:Nat}(hk:k<s.next)(x:UK):Fr (s.put k x):=fun j hj=>by
 rw[Z9] at hj;rw[Z7,if_neg (by omega)];exact h j (by omega)
theorem Fr.upto {s:St}(h:Fr s){k:Nat}(hk:s.next<=k):Fr (s.upto k):=fun j hj=>by
 rw[Z_] at hj;rw[Z0];exact h j (by omega)
attribute [go_sem ↓ high] Gb
attribute [go_sem ↓] Z0 Z_
attribute [go_sem] BN Option.isNone_none
attribute [go_sem ↓] Gd Gc
attribute [go_sem] eV mg
end Go.Am
namespace Go.Am
open Go
inductive Kd where
 |high|low|aet|fall|pattern|enter|aen|gap|idle|setup|aeu|aev|aew|aex|other
 deriving DecidableEq
structure Uses where
 a:Bool
 b:Bool
 mi:Bool
 ma:Bool
 pat:Bool
 kids:Bool
def Kd.known:Kd->Bool
 |.other=>false
 |_=>true
def outside (n a b:Int):Bool:=decide (n<a)||decide (n>b)
def X0:List Int->Int
 |[]=>0
 |e::l=>br (e != 0) e (X0 l)
def within (n a b:Int):Int:=br (decide (n<a)||decide (n>b)) 3 0
theorem jU {β:Type}{p:Bool}{x y y':β}(h:p=false->y=y'):br p x y=br p x y':=by
 cases p
 ·rw[h rfl]
 ·rfl
end Go.Am
