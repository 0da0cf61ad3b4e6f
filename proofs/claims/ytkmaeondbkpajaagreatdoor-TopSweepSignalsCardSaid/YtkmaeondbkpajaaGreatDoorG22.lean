/- A part of the proof of a statement of this seat: the machine on which the program is read, and what it computes; for every input. -/
import Derived.Test.YtkmaeondbkpajaaGreatDoorG07
import Derived.Test.YtkmaeondbkpajaaGreatDoorG03
import Derived.Test.YtkmaeondbkpajaaGreatDoorG17
set_option linter.all false
namespace Go.Am
open Go
variable [ZZ]
set_option maxRecDepth 100000
set_option maxHeartbeats 8000000
noncomputable def r6:RC:=(sO [Yy 1 31 0,XW 2] (sQ (sO [Ps 7 8,VO 8 7,om 9 8,Kt 10 9 2 1,AO 11 9 22 10 12,Uj 12 9 11,Yj 13 9 12] (cT 13 (sO [Ps 14 8,om 2 14] .ret))) (sO [Zh 15 2 1,YO 16 23 15,om 3 16] (sQ (sO [om 17 3,U4 18 3 17 0] (cT 18 (sO [ZP 19 0 1,ZS 20 19,Ut 21 3 20 4,om 22 21,Kt 23 22 2 1,oF 24 22 (.call 55 [(.t 23)]),Bh 25 22 3 24 65536,Yj 26 22 25,Wj 27 37 26 22,om 3 27] (sO [om 28 3,U4 29 3 28 0,om 30 29,Pr 31 30 2 1,oT 32 30 (.call 26 [(.t 31),(vI 400)]),EH 33 30 32,X4 34 30 33] (cT 34 (sO [Tt 2] .ret)))))) (sO [Zh 36 2 1,YO 37 25 36,YO 38 16 37,om 35 38,Yd 39 35 0,Yd 40 35 1,L_ 4 0 42,Yw 3 4 39,om 5 40] (sO [L_ 6 0 46] (sQ (sO [om 41 3,U4 42 3 41 0] (cT 42 (sO [Zh 43 2 1,YO 44 42 43,YO 45 41 44,Yw 3 6 45] (oP [ZP 46 1 6,ZS 47 46,YS 48 47,Ut 49 3 48 256,Wj 50 37 49 5,om 3 50])))) (sO [Zh 51 3 4,om 52 5,om 53 3,Zh 54 3 6,o 55 (.call 43 [(.t 51),(.t 52),(.t 53),(.t 54)]),om 2 55] .ret))))))))
noncomputable def r40:RC:=(sO [Yy 1 25 0,L_ 2 0 42,Zz 3 0] (sQ (sO [Zh 5 2 1,YO 6 47 5,om 4 6] (sO [om 7 4,Vh 8 26 7 0] (cT 8 (sO [o 9 (.N_ [(iI 0),.ZM,.ZM] []),om 10 4,Yw 3 2 9,om 3 10] .ret)))) (sQ (sO [ZP 11 0 1,ZS 12 11,Ut 13 3 12 4,om 14 13,Kt 15 14 2 1,oF 16 14 (.call 61 [(.t 15)]),Bh 17 14 3 16 65536,Yj 18 14 17] (cT 18 (sO [o 19 (.N_ [(iI 0),.ZM,.ZM] []),Yw 3 2 19,Zz 3 22] .ret))) (sO [Zh 20 2 1,YO 21 64 20,YO 22 63 21,YO 23 62 22,Yd 24 23 0,Yd 25 23 1,Yw 3 2 24,om 3 25] .ret))))
theorem k40:Zb 16=some ([.cell 2 42,.tmp 3],r40):=by kernel_rfl
noncomputable def Jp:RC:=(sO [YQ 49 3 48 47] (sQ (cS 49 (.exit 2)) (sQ (.block 3 (sO [om 50 48,om 13 50] (sO [om 51 13,ZP 52 4 10,ZS 53 52,ZP 54 4 10,ZS 55 54,o 56 (.bin .lss 3 true (.t 55) (vI 0)),o 57 (.N_ [(iI 0),(iI 0),bF] [(0,1,(.t 51)),(1,1,(.t 53)),(2,1,(.t 56))]),o 14 (.al [(iI 0),(iI 0),bF] 137),Yw 3 14 57] (sQ (sO [ZP 58 2 14,ZS 59 58] (cT 59 (oP [om 60 13,ZP 61 1 14,Yw 1 61 60]))) (sO [Zh 63 3 3,ZP 64 0 10,ZS 65 64,Zh 66 3 14,Mh 67 69 63 65 66,om 62 67,Yd 68 62 0,Yd 69 62 1,om 15 68,om 16 69] (sO [Zh 71 2 1,ZP 72 1 10,Zh 73 3 72,om 74 16,Mh 75 70 71 73 74,om 70 75,Yd 76 70 0,Yd 77 70 1,AN 17 0 0 0 133,Yw 3 17 76,om 18 77] (oP [om 78 11,om 79 7,om 80 15,Zh 81 3 17,om 82 13,o 83 (.N_ [.ZM,(iI 0),(iI 0),(iI 0),(iI 0)] [(0,1,(.t 80)),(1,3,(.t 81)),(4,1,(.t 82))]),EK 84 79 83,Qn 85 3 1 1 0 0 1 84,VE 86 3 1 8 78 85,om 87 12,om 88 18,o 89 (.SE 4 1 1 [bF] [(0,1,(.t 88))]),VE 90 4 1 1 87 89,om 11 86,om 12 90]))))))) (oP [Yz 91 3 48 1,om 48 91]))))
noncomputable def yO:Code:=NT 64 0
theorem bE:Rd U yO=some (14,[(o 92 (.fa 1 (.t 8)),none),
 (o 93 (.TB (.t 92)),none),
 (om 94 11,none),
 (⟨some 95,none,some 3,false,.SE 48 1 1 [.ZM] [(0,1,(.t 94))]⟩,none),
 (⟨some 96,none,none,true,.app 48 1 24 (.t 93) (.t 95)⟩,none),
 (o 97 (.fa 2 (.t 8)),none),
 (o 98 (.TB (.t 97)),some (0,1)),
 (om 99 12,none),
 (⟨some 100,none,some 8,false,.SE 72 1 1 [.ZM] [(0,1,(.t 99))]⟩,none),
 (⟨some 101,none,none,true,.app 72 1 24 (.t 98) (.t 100)⟩,none),
 (o 102 (.fa 1 (.t 8)),none),
 (⟨none,none,none,true,.st 1 (.t 102) (.t 96)⟩,none),
 (o 103 (.fa 2 (.t 8)),none),
 (⟨none,none,none,true,.st 1 (.t 103) (.t 101)⟩,none)]):=by kernel_rfl
noncomputable def JO:RC:=(sQ (sO [om 35 9,ZS 36 6,YS 37 36,YQ 38 3 35 37] (cS 38 (.exit 0))) (sQ (.block 1 (sO [ZS 41 6,om 42 9,Y0 43 5 41 42,Zh 44 5 43,o 10 (.al [.ZM,(iI 0),(iI 0),(iI 0),(iI 0)] 210),Yw 5 10 44] (sO [WS 11] (sO [WS 12] (sQ (sO [ZP 45 0 1,ZS 46 45,MB 47 3 1 46,Zz 48 0] (.block 2 (.loop Jp))) (.raw yO)))))) (oP [om 39 9,Yz 40 3 39 1,om 9 40])))
noncomputable def aee:RC:=(sO [Yy 1 25 0,L_ 2 0 42] (sO [Zh 20 2 1,YO 21 68 20,YO 22 67 21,om 19 22,Yd 23 19 0,Yd 24 19 1,uF 3 128,Yw 3 3 23,om 4 24] (sO [o 25 (.raw (.makeMap 207 none)),o 5 (.al [.QP] 207),Yw 1 5 25] (sO [o 6 (.al [.ZM] 208)] (sO [o 26 (.aE 132 [] [(.t 5),(.t 6)]),om 7 26] (sO [om 27 7,om 28 4,o 29 (.N_ [(iI 0),(iI 0),(iI 0)] []),o 30 (.N_ [.ZM,(iI 0),(iI 0),(iI 0),(iI 0)] [(0,1,(.t 28)),(1,3,(.t 29)),(4,1,(vI (-1)))]),EK 31 27 30] (sO [ZP 32 0 1,ZS 33 32,o 34 (.N_ [(iI 0),.ZM,.ZM] [(0,1,(.t 33))]),L_ 8 0 42,Yw 3 8 34] (sQ (sO [Zz 9 0] (.block 0 (.loop JO))) (sO [Zh 104 3 8,Yw 3 2 104] .ret)))))))))
theorem ag_:Zb 64=some ([.cell 2 42],aee):=by kernel_rfl
noncomputable def aaU:RC:=(sO [Yy 3 210 0,Zz 4 0] (sO [ZP 8 0 3,ZS 9 8,ZP 10 1 3,Zh 11 3 10,ZP 12 4 3,ZS 13 12,Mh 14 133 9 11 13,om 5 14] (sO [ZS 16 1,om 17 5,o 18 (.raw (.lookup 207 (.tmp 16) (.tmp 17) true)),om 15 18,Yd 19 15 0,Yd 20 15 1,om 6 19,om 7 20] (sQ (sO [om 21 7,VO 22 21] (cT 22 (sO [ZS 23 2,YS 24 23,om 6 24] (sO [ZS 25 1,om 26 5,om 27 6,uE 207 25 26 27] (oP [ZS 28 2,Zh 29 5 3,o 30 (.SE 210 5 1 [.ZM,(iI 0),(iI 0),(iI 0),(iI 0)] [(0,5,(.t 29))]),VE 31 210 5 56 28 30,Yw 1 2 31]))))) (sO [om 32 6,om 4 32] .ret)))))
theorem aef:Zb 132=some ([.tmp 4],aaU):=by kernel_rfl
noncomputable def Mt:RC:=(sO [YQ 22 3 21 20] (sQ (cS 22 (.exit 0)) (sQ (.block 1 (sO [Y0 23 1 19 21,ZS 24 23,om 9 24] (sO [om 25 9,YO 26 75 25,YI 27 79 7 26] (oP [o 28 (.call 78 [(.t 7),(.v (.int .u8 32))])])))) (oP [Yz 29 3 21 1,om 21 29]))))
noncomputable def g_:RC:=(sO [Yy 4 133 1,HM 6] (sO [o 7 (.al [.VI,.ZM] 150)] (sQ (sO [ZP 10 0 4,ZS 11 10,ZP 12 1 4,ZS 13 12,ZP 14 2 4,ZS 15 14,om 16 2,o 17 (.SE 3 1 4 [(iI 0),(iI 0),(iI 0),(iI 0)] [(0,1,(.t 11)),(1,1,(.t 13)),(2,1,(.t 15)),(3,1,(.t 16))]),om 18 0,VE 19 3 1 8 17 18,YS 20 19,Zz 21 0] (.block 0 (.loop Mt))) (sO [YO 30 81 7,om 6 30] .ret))))
theorem ac1:Zb 133=some ([.tmp 6],g_):=by kernel_rfl
end Go.Am
namespace Go.Am
open Go
variable [ZZ]
set_option maxRecDepth 100000
def ac0:RC:=(sO [o 4 (.Qb (.v .Ul))] (sO [om 5 0,YO 6 147 5] (sO [om 7 0,om 8 0,Yi 9 8,ZP 10 1 9,ZS 11 10,om 12 1,o 13 (.SE 5 1 1 [(.int .u8 0)] [(0,1,(.t 12))]),VE 14 5 1 1 11 13,Yi 15 7,ZP 16 1 15,Yw 1 16 14] (sO [o 4 (.Qb (.v .Ul))] .ret))))
theorem agi:Zb 78=some ([.tmp 4],ac0):=by kernel_rfl
end Go.Am
namespace Go.Am
open Go
variable [ZZ]
set_option maxRecDepth 100000
set_option maxHeartbeats 8000000
def AS (n:Nat):X6:=if n<10 then [UInt8.ofNat (48+n)] else AS (n / 10)++[UInt8.ofNat (48+n%10)]
termination_by n
decreasing_by omega
theorem Ns {n:Nat}(h:n<10):AS n=[UInt8.ofNat (48+n)]:=by rw[AS,if_pos h]
theorem AQ {n:Nat}(h:¬n<10):AS n=AS (n / 10)++[UInt8.ofNat (48+n%10)]:=by rw[AS,if_neg h]
def dg (n:Int):X6:=AS n.toNat
end Go.Am
