/- A part of the proof of a statement of this seat: the machine on which the program is read, and what it computes; for every input. -/
import Derived.Test.YtkmaeondbkpajaaGreatDoorG03
set_option linter.all false
namespace Go.Am
open Go
variable [ZZ]
set_option maxRecDepth 100000
set_option maxHeartbeats 8000000
def Dn:RC:=(sQ (sO [om 52 4,ZP 53 1 1,ZS 54 53,om 55 3,Y0 56 1 54 55,ZS 57 56,YS 58 57,YQ 59 3 52 58] (cS 59 (.exit 2))) (sQ (.block 3 (sQ (.Sf 13 [ZP 62 1 1,ZS 63 62,om 64 3,Y0 65 1 63 64,ZS 66 65,om 67 4,Y0 68 1 66 67,ZS 69 68,ZP 70 1 1,ZS 71 70,YS 72 71,MC 73 3 72 1,o 74 (.call 65 [(.t 69),(vI 0),(.t 73)])]) (cT 74 (sO [Zz 2 10] .ret)))) (oP [om 60 4,Yz 61 3 60 1,om 4 61])))
def Iu:RC:=(sQ (sO [om 23 3,ZP 24 1 1,ZS 25 24,YS 26 25,YQ 27 3 23 26] (cS 27 (.exit 0))) (sQ (.block 1 (sQ (sQ (.Sf 22 [ZP 30 1 1,ZS 31 30,om 32 3,Y0 33 1 31 32,ZS 34 33,YS 35 34,ZP 36 0 1,ZS 37 36,MB 38 3 1 37,NY 39 3 35 38,om 40 39,Vv 41 40 2 1,Xk 42 40 41,X8 43 40 3,oF 44 40 (.Ff 1 (.t 42) (.t 43)),Xk 45 40 44,MA 46 40 45,Vv 47 40 0 1,Xk 48 40 47,oF 49 40 (.bin .shl 3 true (vI 1) (.t 48)),vn 50 40 3 46 49,Yj 51 40 50]) (cT 51 (sO [Zz 2 2] .ret))) (sO [Zz 4 0] (.block 2 (.loop Dn))))) (oP [om 28 3,Yz 29 3 28 1,om 3 29])))
def r50:RC:=(sO [Yy 1 46 0,Zz 2 0] (sQ (sO [ZP 5 0 1,ZS 6 5,KB 7 65 6 1 4] (cT 7 (sO [Zz 2 3] .ret))) (sQ (sO [ZP 8 1 1,ZS 9 8,YS 10 9,U4 11 3 10 0] (cT 11 (sO [Zz 2 12] .ret))) (sQ (sO [ZP 12 1 1,ZS 13 12,YS 14 13,Ut 15 3 14 256] (cT 15 (sO [Zz 2 5] .ret))) (sQ (sO [ZP 16 2 1,ZS 17 16,YS 18 17,ZP 19 1 1,ZS 20 19,YS 21 20,NY 22 3 18 21] (cT 22 (sO [Zz 2 2] .ret))) (sQ (sO [Zz 3 0] (.block 0 (.loop Iu))) (sO [Zz 2 0] .ret)))))))
theorem k50:Zb 17=some ([.tmp 2],r50):=by kernel_rfl
def Dm:RC:=(sO [YQ 20 3 19 18] (sQ (cS 20 (.exit 0)) (sQ (.block 1 (sO [om 21 19,Y0 22 1 17 19,ZS 23 22,om 9 21,om 10 23] (sQ (sO [ZP 24 2 2,ZS 25 24,om 26 7,Y0 27 1 25 26,ZS 28 27,om 29 10,Y0 30 1 28 29,ZS 31 30] (cT 31 (oP [om 32 8,om 33 9,Qn 34 3 1 1 0 0 1 33,VE 35 3 1 8 32 34,om 8 35]))) (oP [ZP 36 1 2,ZS 37 36,om 38 7,Y0 39 1 37 38,ZS 40 39,om 41 10,Y0 42 1 40 41,ZS 43 42,om 7 43])))) (oP [Yz 44 3 19 1,om 19 44]))))
def r57:RC:=(sO [Yy 2 42 0,WS 4,Zz 5 0] (sQ (sO [Zh 11 3 2,om 12 1,YI 13 71 11 12,om 6 13] (sO [om 14 6,Vh 15 26 14 0] (cT 15 (sO [om 16 6,WS 4,om 5 16] .ret)))) (sO [Zz 7 0] (sO [WS 8] (sQ (sO [om 17 1,YS 18 17,Zz 19 0] (.block 0 (.loop Dm))) (sO [om 45 8,om 4 45,Zz 5 0] .ret))))))
theorem k57:Zb 19=some ([.tmp 4,.tmp 5],r57):=by kernel_rfl
def yv:RC:=(sO [YQ 39 3 38 37] (sQ (cS 39 (.exit 0)) (sQ (.block 1 (sO [om 40 38,Y0 41 1 36 38,ZS 42 41,om 4 40,om 5 42] (sQ (.Sf 19 [om 43 5,YS 44 43,ZP 45 0 1,ZS 46 45,MB 47 3 1 46,NY 48 3 44 47,om 49 48,Vv 50 49 2 1,Xk 51 49 50,X8 52 49 4,oF 53 49 (.Ff 1 (.t 51) (.t 52)),Xk 54 49 53,MA 55 49 54,Vv 56 49 0 1,Xk 57 49 56,oF 58 49 (.bin .shl 3 true (vI 1) (.t 57)),vn 59 49 3 55 58,Yj 60 49 59,om 6 60]) (sO [om 61 5,o 62 (.aE 154 [] [(.t 1)]),YI 63 134 61 62,om 7 63] (sO [om 64 6,Wj 65 85 64 2,om 66 7,Wj 67 85 66 10,o 68 (.SE 26 1 2 [(iI 0),(iI 0)] [(0,1,(.t 65)),(1,1,(.t 67))]),YO 69 93 68,om 8 69] (sO [om 70 8,Vh 71 26 70 0] (cT 71 (sO [om 72 8,om 2 72] .ret)))))))) (oP [Yz 73 3 38 1,om 38 73]))))
def r58:RC:=(sO [Yy 1 42 0,Zz 2 0] (sQ (sQ (.Sf 24 [ZP 9 0 1,ZS 10 9,KB 11 111 10 1 4,ZP 12 1 1,ZS 13 12,YS 14 13,U4 15 3 14 0,Wj 16 85 15 12,ZP 17 1 1,ZS 18 17,YS 19 18,Ut 20 3 19 256,Wj 21 85 20 5,ZP 22 2 1,ZS 23 22,YS 24 23,ZP 25 1 1,ZS 26 25,YS 27 26,NY 28 3 24 27,Wj 29 85 28 2,⟨some 30,none,some 21,false,.SE 26 1 4 [(iI 0),(iI 0),(iI 0),(iI 0)] [(0,1,(.t 11)),(1,1,(.t 16)),(2,1,(.t 21)),(3,1,(.t 29))]⟩,YO 31 93 30,om 3 31]) (sO [om 32 3,Vh 33 26 32 0] (cT 33 (sO [om 34 3,om 2 34] .ret)))) (sQ (sO [ZP 35 1 1,ZS 36 35,YS 37 36,Zz 38 0] (.block 0 (.loop yv))) (sO [Zz 2 0] .ret))))
theorem k58:Zb 94=some ([.tmp 2],r58):=by kernel_rfl
def yr:RC:=(sO [YQ 19 3 18 17] (sQ (cS 19 (.exit 0)) (sQ (.block 1 (sO [Y0 20 1 16 18,ZS 21 20,om 9 21] (oP [ZP 22 1 2,ZS 23 22,om 24 7,Y0 25 1 23 24,ZS 26 25,om 27 9,Y0 28 1 26 27,ZS 29 28,om 7 29]))) (oP [Yz 30 3 18 1,om 18 30]))))
def r62:RC:=(sO [Yy 2 42 0,Zz 4 0,Zz 5 0] (sQ (sO [Zh 10 3 2,om 11 1,YI 12 71 10 11,om 6 12] (sO [om 13 6,Vh 14 26 13 0] (cT 14 (sO [om 15 6,Zz 4 0,om 5 15] .ret)))) (sO [Zz 7 0] (sQ (sO [om 16 1,YS 17 16,Zz 18 0] (.block 0 (.loop yr))) (sO [om 31 7,om 4 31,Zz 5 0] .ret)))))
theorem k62:Zb 20=some ([.tmp 4,.tmp 5],r62):=by kernel_rfl
def aaA:RC:=(sO [Yy 2 42 0,Zz 4 0] (sQ (sO [Zh 6 3 2,YO 7 94 6,om 5 7] (sO [om 8 5,Vh 9 26 8 0] (cT 9 (sO [om 10 5,om 4 10] .ret)))) (sO [ZP 11 0 2,ZS 12 11,om 13 1,YI 14 66 12 13,om 4 14] .ret)))
theorem agQ:Zb 71=some ([.tmp 4],aaA):=by kernel_rfl
def ady:RC:=(sO [XW 3] (sO [om 4 0,o 5 (.bin .lss 3 true (.t 4) (vI 0)),om 6 5,X8 7 6 0,Vv 8 6 1 1,Xk 9 6 8,MA 10 6 9,uX 11 6 3 7 10,Yj 12 6 11,om 3 12] .ret))
theorem agK:Zb 154=some ([.tmp 3],ady):=by kernel_rfl
def ad3:RC:=(sO [WS 2] (sQ (sO [om 3 0,o 4 (.bin .eql 72 true (.t 3) (.v .ZM))] (cT 4 (sO [WS 2] .ret))) (sO [o 5 (.SE 4 1 0 [] []),om 6 0,VE 7 4 1 1 5 6,om 2 7] .ret)))
theorem agY:Zb 131=some ([.tmp 2],ad3):=by kernel_rfl
def aeE:RC:=(sO [WS 2] (sQ (sO [om 3 0,o 4 (.bin .eql 48 true (.t 3) (.v .ZM))] (cT 4 (sO [WS 2] .ret))) (sO [o 5 (.SE 3 1 0 [] []),om 6 0,VE 7 3 1 8 5 6,om 2 7] .ret)))
theorem ahA:Zb 170=some ([.tmp 2],aeE):=by kernel_rfl
def gK:RC:=(sO [XW 4] (sO [om 9 0,Yi 10 9,ZP 11 2 10,ZS 12 11,om 13 1,Y0 14 1 12 13,ZS 15 14,om 5 15] (sQ (.Sf 24 [om 16 0,Yi 17 16,ZP 18 1 17,ZS 19 18,om 20 1,Y0 21 1 19 20,ZS 22 21,om 23 0,Yi 24 23,ZP 25 3 24,ZS 26 25,om 27 5,Y0 28 1 26 27,ZS 29 28,om 30 0,Yi 31 30,ZP 32 5 31,ZS 33 32,om 34 5,Y0 35 1 33 34,ZS 36 35,EZ 37 3 29 36,om 6 22,om 7 37]) (sQ (sO [om 38 6,om 39 7,YQ 40 3 38 39] (cT 40 (sO [XW 4] .ret))) (sO [om 41 0,Yi 42 41,ZP 43 0 42,ZS 44 43,om 45 7,Y0 46 1 44 45,ZS 47 46,om 8 47] (sQ (.Sf 16 [om 48 0,Yi 49 48,ZP 50 0 49,ZS 51 50,om 52 6,om 53 0,Yi 54 53,ZP 55 0 54,ZS 56 55,om 57 7,om 58 8,om 59 1,Y0 60 1 51 52,⟨none,none,none,true,.st 1 (.t 60) (.t 58)⟩,Y0 61 1 56 57,⟨none,none,none,true,.st 1 (.t 61) (.t 59)⟩]) (sQ (.Sf 16 [om 62 0,Yi 63 62,ZP 64 1 63,ZS 65 64,om 66 8,om 67 0,Yi 68 67,ZP 69 1 68,ZS 70 69,om 71 1,om 72 6,om 73 7,Y0 74 1 65 66,⟨none,none,none,true,.st 1 (.t 74) (.t 72)⟩,Y0 75 1 70 71,⟨none,none,none,true,.st 1 (.t 75) (.t 73)⟩]) (sO [om 76 0,Yi 77 76,ZP 78 5 77,ZS 79 78,om 80 5,Y0 81 1 79 80,ZS 82 81,Yz 83 3 82 1,Y0 84 1 79 80,Yw 1 84 83] (sO [om 85 0,Yi 86 85,ZP 87 5 86,ZS 88 87,om 89 5,Y0 90 1 88 89,ZS 91 90,U4 92 3 91 1,om 4 92] .ret)))))))))
theorem agz:Zb 171=some ([.tmp 4],gK):=by kernel_rfl
end Go.Am
namespace Go.Am
open Go
variable [ZZ]
set_option maxRecDepth 100000
def r94:RC:=(sO [XW 6] (sO [om 7 0,om 8 1,YQ 9 3 7 8,om 10 9,X8 11 10 0,X8 12 10 2,oF 13 10 (.bin .gtr 3 false (.t 11) (.t 12)),Yj 14 10 13,om 6 14] .ret))
theorem k94:Zb 65=some ([.tmp 6],r94):=by kernel_rfl
def r26:RC:=(sO [Zz 2 0] (sQ (sO [om 3 0,KB 4 65 3 1 16] (cT 4 (sO [Zz 2 3] .ret))) (sO [Zz 2 0] .ret)))
theorem k26:Zb 73=some ([.tmp 2],r26):=by kernel_rfl
def r95:RC:=(sO [o 2 (.al [bF,bF,bF,bF,bF,bF] 186),XW 3] (sQ (sO [om 4 0] (.block 0 (sQ (sO [Ig 6 9 4 104 105 103 104,om 5 6] (cS 5 (sO [Pu 7 9 4 108 111 119,om 5 7] (cS 5 (sO [Ig 8 9 4 114 105 115 101,om 5 8] (cS 5 (oP [Ig 9 9 4 102 97 108 108,om 5 9]))))))) (cO 5 (sO [o 10 (.N_ [bF,bF,bF,bF,bF,bF] [(0,1,vT),(1,1,vF),(2,1,vF),(3,1,vF),(4,1,vF),(5,1,vF)]),Yw 6 2 10,Tt 3] .ret) (sQ (sO [o 12 (.bin .eql 9 true (.t 4) (.v (.str [112,97,116,116,101,114,110]))),om 11 12] (cS 11 (oP [Bi 13 9 4 101 110 116 101 114,om 11 13]))) (cO 11 (sO [o 14 (.N_ [bF,bF,bF,bF,bF,bF] [(0,1,vF),(1,1,vF),(2,1,vF),(3,1,vF),(4,1,vT),(5,1,vF)]),Yw 6 2 14,Tt 3] .ret) (sQ (sO [Bi 16 9 4 112 117 108 115 101,om 15 16] (cS 15 (oP [Pu 17 9 4 103 97 112,om 15 17]))) (cO 15 (sO [o 18 (.N_ [bF,bF,bF,bF,bF,bF] [(0,1,vT),(1,1,vF),(2,1,vT),(3,1,vT),(4,1,vF),(5,1,vF)]),Yw 6 2 18,Tt 3] .ret) (sO [Ig 20 9 4 105 100 108 101,om 19 20] (cO 19 (sO [o 21 (.N_ [bF,bF,bF,bF,bF,bF] [(0,1,vT),(1,1,vF),(2,1,vT),(3,1,vF),(4,1,vF),(5,1,vF)]),Yw 6 2 21,Tt 3] .ret) (sO [Bi 23 9 4 115 101 116 117 112,om 22 23] (cO 22 (sO [o 24 (.N_ [bF,bF,bF,bF,bF,bF] [(0,1,vT),(1,1,vT),(2,1,vT),(3,1,vF),(4,1,vF),(5,1,vF)]),Yw 6 2 24,Tt 3] .ret) (sO [Ig 26 9 4 114 117 110 116,om 25 26] (cO 25 (sO [o 27 (.N_ [bF,bF,bF,bF,bF,bF] [(0,1,vT),(1,1,vT),(2,1,vF),(3,1,vF),(4,1,vF),(5,1,vF)]),Yw 6 2 27,Tt 3] .ret) (sQ (sO [Pu 29 9 4 110 111 116,om 28 29] (cS 28 (sO [Pu 30 9 4 97 108 108,om 28 30] (cS 28 (oP [Pu 31 9 4 97 110 121,om 28 31]))))) (cT 28 (sO [o 32 (.N_ [bF,bF,bF,bF,bF,bF] [(0,1,vF),(1,1,vF),(2,1,vF),(3,1,vF),(4,1,vF),(5,1,vT)]),Yw 6 2 32,Tt 3] .ret))))))))))))))))) (sO [o 33 (.N_ [bF,bF,bF,bF,bF,bF] []),Yw 6 2 33,XW 3] .ret)))
theorem k95:Zb 114=some ([.cell 2 186,.tmp 3],r95):=by kernel_rfl
def xV:RC:=(sQ (sO [om 10 5,om 11 0,Mi 12 11,YQ 13 3 10 12] (cS 13 (.exit 0))) (sQ (.block 1 (sO [om 16 0,om 17 5,o 18 (.pX (.t 16) (.t 17)),o 19 (.bin .neq 5 true (.t 18) (.v (.int .u8 48))),om 20 19,VP 21 20 0,VP 22 20 5,oT 23 20 (.pX (.t 21) (.t 22)),oT 24 20 (.bin .neq 5 true (.t 23) (.v (.int .u8 49))),X4 25 20 24,om 26 25,VP 27 26 0,VP 28 26 5,oT 29 26 (.pX (.t 27) (.t 28)),oT 30 26 (.bin .neq 5 true (.t 29) (.v (.int .u8 120))),X4 31 26 30] (cT 31 (sO [Tt 4] .ret)))) (oP [om 14 5,Yz 15 3 14 1,om 5 15])))
def r96:RC:=(sO [XW 4] (sQ (sO [om 6 0,Mi 7 6,om 8 1,NY 9 3 7 8] (cT 9 (sO [Tt 4] .ret))) (sQ (sO [Zz 5 0] (.block 0 (.loop xV))) (sO [XW 4] .ret))))
theorem k96:Zb 144=some ([.tmp 4],r96):=by kernel_rfl
def yg:RC:=(sQ (sO [om 167 9,ZP 168 6 4,ZS 169 168,YS 170 169,YQ 171 3 167 170] (cS 171 (.exit 0))) (sQ (.block 1 (sO [om 174 0,ZP 175 6 4,ZS 176 175,om 177 9,Y0 178 7 176 177,Zh 179 7 178,om 180 2,Yz 181 3 180 1,Mh 182 74 174 179 181,om 10 182] (sO [om 183 10,Vh 184 3 183 0] (cT 184 (sO [om 185 10,om 6 185] .ret))))) (oP [om 172 9,Yz 173 3 172 1,om 9 173])))
def r27:RC:=(sO [Yy 4 106 1,Zz 6 0] (sQ (sO [om 11 2,Ut 12 3 11 4] (cT 12 (sO [Zz 6 5] .ret))) (sO [ZP 14 0 4,ZS 15 14,YO 16 114 15,om 13 16,Yd 17 13 0,Yd 18 13 1,o 7 (.al [bF,bF,bF,bF,bF,bF] 186),Yw 6 7 17,om 8 18] (sQ (sO [om 19 8,VO 20 19] (cT 20 (sO [Zz 6 13] .ret))) (sQ (sO [Kx 21 6 1 7 0,ZS 22 21,VO 23 22,om 24 23,Yq 25 24 1 4,Yp 26 24 25,Rl 27 24 3 26 0,X4 28 24 27,om 29 28,Ie 30 29 6 1 7 1,Xk 31 29 30,Uj 32 29 31,X8 33 29 32,Yq 34 33 2 4,Yp 35 33 34,Rl 36 33 3 35 0,Rk 37 29 33 36,Yj 38 29 37,om 39 38,Ie 40 39 6 1 7 2,Xk 41 39 40,Uj 42 39 41,X8 43 39 42,Yq 44 43 3 4,Yp 45 43 44,Rl 46 43 3 45 0,Rk 47 39 43 46,Yj 48 39 47,om 49 48,Ie 50 49 6 1 7 3,Xk 51 49 50,Uj 52 49 51,X8 53 49 52,Yq 54 53 4 4,Yp 55 53 54,Rl 56 53 3 55 0,Rk 57 49 53 56,Yj 58 49 57,om 59 58,Ie 60 59 6 1 7 4,Xk 61 59 60,Uj 62 59 61,X8 63 59 62,Yq 64 63 5 4,Yp 65 63 64,oT 66 63 (.bin .neq 9 true (.t 65) (.v (.str []))),Rk 67 59 63 66,Yj 68 59 67,om 69 68,Ie 70 69 6 1 7 5,Xk 71 69 70,Uj 72 69 71,X8 73 69 72,Yq 74 73 6 4,Yp 75 73 74,oT 76 73 (.TK (.t 75)),oT 77 73 (.bin .gtr 3 true (.t 76) (vI 0)),Rk 78 69 73 77,Yj 79 69 78] (cT 79 (sO [Zz 6 2] .ret))) (sQ (sO [Kx 80 6 1 7 0,ZS 81 80,om 82 81,Yq 83 82 1 4,Yp 84 82 83,VP 85 82 0,oT 86 82 (.bin .sub 3 true (.t 85) (vI 1)),oT 87 82 (.call 65 [(.t 84),(vI 0),(.t 86)]),X4 88 82 87,om 89 88,Ie 90 89 6 1 7 1,Xk 91 89 90,X8 92 89 91,Yq 93 92 2 4,Yp 94 92 93,VP 95 92 0,oT 96 92 (.bin .sub 3 true (.t 95) (vI 1)),oT 97 92 (.call 65 [(.t 94),(vI 0),(.t 96)]),Rk 98 89 92 97,Yj 99 89 98] (cT 99 (sO [Zz 6 3] .ret))) (sQ (sO [Kx 100 6 1 7 1,ZS 101 100,om 102 101,Yq 103 102 1 4,Yp 104 102 103,Yq 105 102 2 4,Yp 106 102 105,oT 107 102 (.bin .eql 3 false (.t 104) (.t 106)),X4 108 102 107] (cT 108 (sO [Zz 6 9] .ret))) (sQ (sO [Kx 109 6 1 7 2,ZS 110 109,om 111 110,Yq 112 111 3 4,Yp 113 111 112,uY 114 111 65 113 1 255,X4 115 111 114,om 116 115,Ie 117 116 6 1 7 3,Xk 118 116 117,X8 119 116 118,Yq 120 119 4 4,Yp 121 119 120,uY 122 119 65 121 1 255,Rk 123 116 119 122,Yj 124 116 123] (cT 124 (sO [Zz 6 3] .ret))) (sQ (sO [Kx 125 6 1 7 3,ZS 126 125,om 127 126,Yq 128 127 3 4,Yp 129 127 128,Yq 130 127 4 4,Yp 131 127 130,oT 132 127 (.bin .gtr 3 false (.t 129) (.t 131)),X4 133 127 132] (cT 133 (sO [Zz 6 11] .ret))) (sQ (sO [Kx 134 6 1 7 4,ZS 135 134,om 136 135,Yq 137 136 5 4,Yp 138 136 137,VP 139 136 0,Mg 140 136 144 138 139,X4 141 136 140] (cT 141 (sO [Zz 6 1] .ret))) (sQ (sO [ZP 142 0 4,ZS 143 142,Pu 144 9 143 110 111 116,om 145 144,Yq 146 145 6 4,Yp 147 145 146,oT 148 145 (.TK (.t 147)),Rl 149 145 3 148 1,X4 150 145 149] (cT 150 (sO [Zz 6 2] .ret))) (sQ (sO [Kx 151 6 1 7 5,ZS 152 151,om 153 152,Yq 154 153 6 4,Yp 155 153 154,oT 156 153 (.TK (.t 155)),oT 157 153 (.bin .eql 3 true (.t 156) (vI 0)),X4 158 153 157] (cT 158 (sO [Zz 6 12] .ret))) (sQ (sO [Kx 159 6 1 7 5,ZS 160 159,om 161 160,Yq 162 161 6 4,Yp 163 161 162,oT 164 161 (.TK (.t 163)),oT 165 161 (.bin .gtr 3 true (.t 164) (vI 8)),X4 166 161 165] (cT 166 (sO [Zz 6 5] .ret))) (sQ (sO [Zz 9 0] (.block 0 (.loop yg))) (sO [Zz 6 0] .ret)))))))))))))))
theorem k27:Zb 74=some ([.tmp 6],r27):=by kernel_rfl
def yF:RC:=(sQ (sO [om 21 4,ZP 22 1 1,ZS 23 22,YS 24 23,YQ 25 3 21 24] (cS 25 (.exit 0))) (sQ (.block 1 (sO [ZP 28 1 1,ZS 29 28,om 30 4,Y0 31 9 29 30,Zh 32 9 31,E1 5 0 0 0 0 0 0 109,Yw 9 5 32] (sQ (sO [ZP 33 0 1,ZS 34 33,ZP 35 0 5,Zh 36 7 35,o 37 (.call 74 [(.t 34),(.t 36),(vI 1)]),om 6 37] (sO [om 38 6,Vh 39 3 38 0] (cT 39 (sO [om 40 6,om 2 40] .ret)))) (sO [ZP 41 7 5,ZS 42 41,KB 43 65 42 1 64,om 44 43,Vv 45 44 8 5,Xk 46 44 45,oF 47 44 (.call 65 [(.t 46),(vI 0),(vI 255)]),Yj 48 44 47,om 49 48,X8 50 49 4,oF 51 49 (.bin .eql 3 true (.t 50) (vI 0)),X8 52 49 51,Yq 53 52 8 5,Yp 54 52 53,Rl 55 52 3 54 0,Rk 56 49 52 55,Yj 57 49 56] (cT 57 (sO [Zz 2 3] .ret)))))) (oP [om 26 4,Yz 27 3 26 1,om 4 27])))
def r34:RC:=(sO [Yy 1 31 0,Zz 2 0] (sQ (sO [ZP 7 0 1,ZS 8 7,YO 9 73 8,om 3 9] (sO [om 10 3,Vh 11 3 10 0] (cT 11 (sO [om 12 3,om 2 12] .ret)))) (sQ (sO [ZP 13 1 1,ZS 14 13,YS 15 14,U4 16 3 15 0] (cT 16 (sO [Zz 2 12] .ret))) (sQ (sO [ZP 17 1 1,ZS 18 17,YS 19 18,Ut 20 3 19 8] (cT 20 (sO [Zz 2 5] .ret))) (sQ (sO [Zz 4 0] (.block 0 (.loop yF))) (sO [Zz 2 0] .ret))))))
theorem k34:Zb 23=some ([.tmp 2],r34):=by kernel_rfl
def ac':RC:=(sO [Zz 4 0] (sQ (sO [om 5 0] (cT 5 (sO [om 6 1,om 4 6] .ret))) (sO [Zz 4 0] .ret)))
theorem agq:Zb 85=some ([.tmp 4],ac'):=by kernel_rfl
def ada:RC:=(sO [Zz 6 0] (sO [om 7 0,om 8 1,YQ 9 3 7 8,om 10 9,X8 11 10 0,X8 12 10 2,oF 13 10 (.bin .gtr 3 false (.t 11) (.t 12)),Yj 14 10 13,Wj 15 85 14 3,om 6 15] .ret))
theorem agr:Zb 111=some ([.tmp 6],ada):=by kernel_rfl
def r88:RC:=(sO [Zz 2 0] (sO [om 3 0,KB 4 111 3 1 16,om 2 4] .ret))
theorem k88:Zb 96=some ([.tmp 2],r88):=by kernel_rfl
def yl:RC:=(sO [YQ 8 3 7 6] (sQ (cS 8 (.exit 0)) (sQ (.block 1 (sO [Y0 9 1 5 7,ZS 10 9,om 4 10] (sO [om 11 4,Vh 12 26 11 0] (cT 12 (sO [om 13 4,om 2 13] .ret))))) (oP [Yz 14 3 7 1,om 7 14]))))
def r89:RC:=(sO [Zz 2 0] (sQ (sO [om 5 0,YS 6 5,Zz 7 0] (.block 0 (.loop yl))) (sO [Zz 2 0] .ret)))
theorem k89:Zb 93=some ([.tmp 2],r89):=by kernel_rfl
def acq:RC:=(sO [Yy 2 220 0,Yy 3 78 1,XW 4] (sO [ZP 5 0 2,ZS 6 5,VO 7 6,om 8 7,Yq 9 8 1 3,Yp 10 8 9,Rl 11 8 3 10 0,X4 12 8 11,om 13 12,Vv 14 13 1 2,Xk 15 13 14,Uj 16 13 15,X8 17 13 16,Yq 18 17 2 3,Yp 19 17 18,Rl 20 17 3 19 0,Rk 21 13 17 20,Yj 22 13 21,om 23 22,Vv 24 23 2 2,Xk 25 23 24,Uj 26 23 25,X8 27 23 26,Yq 28 27 3 3,Yp 29 27 28,Rl 30 27 3 29 0,Rk 31 23 27 30,Yj 32 23 31,om 33 32,Vv 34 33 3 2,Xk 35 33 34,Uj 36 33 35,X8 37 33 36,Yq 38 37 4 3,Yp 39 37 38,Rl 40 37 3 39 0,Rk 41 33 37 40,Yj 42 33 41,om 43 42,Vv 44 43 4 2,Xk 45 43 44,Uj 46 43 45,X8 47 43 46,Yq 48 47 5 3,Yp 49 47 48,oT 50 47 (.bin .neq 9 true (.t 49) (.v (.str []))),Rk 51 43 47 50,Yj 52 43 51,om 53 52,Vv 54 53 5 2,Xk 55 53 54,Uj 56 53 55,X8 57 53 56,Yq 58 57 6 3,Yp 59 57 58,oT 60 57 (.TK (.t 59)),oT 61 57 (.bin .gtr 3 true (.t 60) (vI 0)),Rk 62 53 57 61,Yj 63 53 62,om 4 63] .ret))
theorem afZ:Zb 155=some ([.tmp 4],acq):=by kernel_rfl
def acp:RC:=(sO [Zz 4 0] (sO [om 5 1,Mi 6 5,om 7 0,NY 8 3 6 7,om 9 8,X8 10 9 1,oF 11 9 (.call 208 [(.t 10),(.v (.str [48,49,120]))]),oF 12 9 (.bin .neq 9 true (.t 11) (.v (.str []))),Yj 13 9 12,Wj 14 85 13 1,om 4 14] .ret))
theorem afW:Zb 156=some ([.tmp 4],acp):=by kernel_rfl
def DG:RC:=(sO [YQ 144 3 143 142] (sQ (cS 144 (.exit 0)) (sQ (.block 1 (sO [Y0 145 7 141 143,Zh 146 7 145,Qk 12 0 0 0 0 78,Yw 7 12 146] (sO [om 147 10,U4 148 26 147 0] (cT 148 (oP [om 149 0,Zh 150 7 12,om 151 2,Yz 152 3 151 1,Mh 153 97 149 150 152,om 10 153]))))) (oP [Yz 154 3 143 1,om 143 154]))))
def r90:RC:=(sO [Yy 4 78 1,Zz 6 0] (sQ (.Sf 10 [Ps 14 136,ZP 15 0 4,ZS 16 15,o 17 (.raw (.lookup 215 (.tmp 14) (.tmp 16) true)),om 13 17,Yd 18 13 0,Yd 19 13 1,⟨some 7,none,some 7,false,.al [bF,bF,bF,bF,bF,bF,.Wt,.Wt,.Wt] 220⟩,⟨none,none,none,true,.st 9 (.t 7) (.t 18)⟩,om 8 19]) (sQ (sO [om 20 2,Ut 21 3 20 4,Wj 22 85 21 5,om 23 8,VO 24 23,Wj 25 85 24 13,o 26 (.SE 26 1 2 [(iI 0),(iI 0)] [(0,1,(.t 22)),(1,1,(.t 25))]),YO 27 93 26,om 9 27] (sO [om 28 9,Vh 29 26 28 0] (cT 29 (sO [om 30 9,om 6 30] .ret)))) (sQ (.Sf 73 [Zh 31 9 7,Zh 32 7 4,YI 33 155 31 32,Wj 34 85 33 2,ZP 35 0 7,ZS 36 35,om 37 36,Yq 38 37 1 4,Yp 39 37 38,oT 40 37 (.bin .lss 3 true (.t 39) (vI 0)),VP 41 37 40,Vv 42 41 1 4,Xk 43 41 42,X8 44 41 0,uX 45 41 3 43 44,oT 46 37 (.pick (.t 41) vT (.t 45)),X4 47 37 46,Wj 48 85 47 3,ZP 49 1 7,ZS 50 49,om 51 50,Yq 52 51 2 4,Yp 53 51 52,oT 54 51 (.bin .lss 3 true (.t 53) (vI 0)),VP 55 51 54,Vv 56 55 2 4,Xk 57 55 56,X8 58 55 0,uX 59 55 3 57 58,oT 60 51 (.pick (.t 55) vT (.t 59)),X4 61 51 60,Wj 62 85 61 3,ZP 63 1 7,ZS 64 63,om 65 64,Yq 66 65 1 4,Yp 67 65 66,Yq 68 65 2 4,Yp 69 65 68,oT 70 65 (.bin .eql 3 false (.t 67) (.t 69)),X4 71 65 70,Wj 72 85 71 9,ZP 73 2 7,ZS 74 73,om 75 74,Yq 76 75 3 4,Yp 77 75 76,uY 78 75 111 77 1 255,Rl 79 75 26 78 0,X4 80 75 79,Wj 81 85 80 3,ZP 82 3 7,ZS 83 82,om 84 83,Yq 85 84 4 4,Yp 86 84 85,uY 87 84 111 86 1 255,Rl 88 84 26 87 0,X4 89 84 88,Wj 90 85 89 3,ZP 91 3 7,ZS 92 91,om 93 92,Yq 94 93 3 4,Yp 95 93 94,Yq 96 93 4 4,Yp 97 93 96,oT 98 93 (.bin .gtr 3 false (.t 95) (.t 97)),X4 99 93 98,Wj 100 85 99 11,⟨some 101,none,some 70,false,.SE 26 1 7 [(iI 0),(iI 0),(iI 0),(iI 0),(iI 0),(iI 0),(iI 0)] [(0,1,(.t 34)),(1,1,(.t 48)),(2,1,(.t 62)),(3,1,(.t 72)),(4,1,(.t 81)),(5,1,(.t 90)),(6,1,(.t 100))]⟩,YO 102 93 101,om 10 102]) (sQ (sO [ZP 103 4 7,ZS 104 103] (cT 104 (oP [om 105 10,om 106 0,ZP 107 5 4,ZS 108 107,YI 109 156 106 108,o 110 (.SE 26 1 2 [(iI 0),(iI 0)] [(0,1,(.t 105)),(1,1,(.t 109))]),YO 111 93 110,om 10 111]))) (sQ (sO [om 112 10,Vh 113 26 112 0,om 114 113,Vv 115 114 5 7,Xk 116 114 115,Uj 117 114 116,Yj 118 114 117] (cT 118 (sO [om 119 10,om 6 119] .ret))) (sQ (sO [ZP 120 0 4,ZS 121 120,Pu 122 9 121 110 111 116] (cO 122 (oP [ZP 123 6 4,ZS 124 123,YS 125 124,Vh 126 3 125 1,Wj 127 85 126 2,om 10 127]) (.Sf 13 [ZP 128 6 4,ZS 129 128,YS 130 129,U4 131 3 130 0,Wj 132 85 131 12,ZP 133 6 4,ZS 134 133,YS 135 134,Ut 136 3 135 8,Wj 137 85 136 5,⟨some 138,none,some 10,false,.SE 26 1 2 [(iI 0),(iI 0)] [(0,1,(.t 132)),(1,1,(.t 137))]⟩,YO 139 93 138,om 10 139]))) (sQ (sO [ZP 140 6 4,ZS 141 140,YS 142 141,Zz 143 0] (.block 0 (.loop DG))) (sO [om 155 10,om 6 155] .ret)))))))))
theorem k90:Zb 97=some ([.tmp 6],r90):=by kernel_rfl
def xU:RC:=(sO [YQ 29 3 28 27] (sQ (cS 29 (.exit 0)) (sQ (.block 1 (sO [om 30 28,Y0 31 9 26 28,Zh 32 9 31,E1 5 0 0 0 0 0 0 113,om 4 30,Yw 9 5 32] (sQ (.Sf 22 [ZP 33 0 1,ZS 34 33,ZP 35 0 5,Zh 36 7 35,o 37 (.call 97 [(.t 34),(.t 36),(vI 1)]),ZP 38 7 5,ZS 39 38,KB 40 111 39 1 64,ZP 41 8 5,ZS 42 41,KB 43 111 42 0 255,om 44 4,U4 45 3 44 0,om 46 45,Yq 47 46 8 5,Yp 48 46 47,Rl 49 46 3 48 0,X4 50 46 49,Wj 51 85 50 3,⟨some 52,none,some 19,false,.SE 26 1 4 [(iI 0),(iI 0),(iI 0),(iI 0)] [(0,1,(.t 37)),(1,1,(.t 40)),(2,1,(.t 43)),(3,1,(.t 51))]⟩,YO 53 93 52,om 6 53]) (sO [om 54 6,Vh 55 26 54 0] (cT 55 (sO [om 56 6,om 2 56] .ret)))))) (oP [Yz 57 3 28 1,om 28 57]))))
def r64:RC:=(sO [Yy 1 25 0,Zz 2 0] (sQ (sQ (.Sf 16 [ZP 7 0 1,ZS 8 7,YO 9 96 8,ZP 10 1 1,ZS 11 10,YS 12 11,U4 13 3 12 0,Wj 14 85 13 12,ZP 15 1 1,ZS 16 15,YS 17 16,Ut 18 3 17 8,Wj 19 85 18 5,⟨some 20,none,some 13,false,.SE 26 1 3 [(iI 0),(iI 0),(iI 0)] [(0,1,(.t 9)),(1,1,(.t 14)),(2,1,(.t 19))]⟩,YO 21 93 20,om 3 21]) (sO [om 22 3,Vh 23 26 22 0] (cT 23 (sO [om 24 3,om 2 24] .ret)))) (sQ (sO [ZP 25 1 1,ZS 26 25,YS 27 26,Zz 28 0] (.block 0 (.loop xU))) (sO [Zz 2 0] .ret))))
theorem k64:Zb 47=some ([.tmp 2],r64):=by kernel_rfl
def xT:RC:=(sQ (sO [om 26 5,ZP 27 6 2,ZS 28 27,YS 29 28,YQ 30 3 26 29] (cS 30 (.exit 0))) (sQ (.block 1 (sO [ZP 33 6 2,ZS 34 33,om 35 5,Y0 36 7 34 35,Zh 37 7 36,om 38 1,Yz 39 3 38 1,YI 40 142 37 39,VO 41 40] (cT 41 (sO [XW 4] .ret)))) (oP [om 31 5,Yz 32 3 31 1,om 5 32])))
def r86:RC:=(sO [Yy 2 106 0,XW 4] (sQ (sO [om 6 1,Ut 7 3 6 6,om 8 7,Vv 9 8 0 2,Xk 10 8 9,oF 11 8 (.xS (.t 10)),Bh 12 8 3 11 20,Yj 13 8 12,om 14 13,Vv 15 14 5 2,Xk 16 14 15,oF 17 14 (.xS (.t 16)),Bh 18 14 3 17 40,Yj 19 14 18,om 20 19,Vv 21 20 6 2,Xk 22 20 21,MA 23 20 22,Bh 24 20 3 23 10,Yj 25 20 24] (cT 25 (sO [XW 4] .ret))) (sQ (sO [Zz 5 0] (.block 0 (.loop xT))) (sO [Tt 4] .ret))))
theorem k86:Zb 142=some ([.tmp 4],r86):=by kernel_rfl
def xR:RC:=(sQ (sO [om 5 4,ZP 6 6 1,ZS 7 6,YS 8 7,YQ 9 3 5 8] (cS 9 (.exit 0))) (sQ (.block 1 (oP [om 12 3,ZP 13 6 1,ZS 14 13,om 15 4,Y0 16 7 14 15,Zh 17 7 16,YO 18 143 17,EZ 19 3 12 18,om 3 19])) (oP [om 10 4,Yz 11 3 10 1,om 4 11])))
def r87:RC:=(sO [Yy 1 106 0,Zz 2 0] (sO [Zz 3 1] (sQ (sO [Zz 4 0] (.block 0 (.loop xR))) (sO [om 20 3,om 2 20] .ret))))
theorem k87:Zb 143=some ([.tmp 2],r87):=by kernel_rfl
def r21:RC:=(sO [Yy 2 106 0,XW 4] (sO [Zh 5 7 2,Wj 6 142 5 1,om 7 6,Pr 8 7 7 2,oT 9 7 (.call 143 [(.t 8)]),VP 10 7 1,uW 11 7 3 9 10,X4 12 7 11,om 4 12] .ret))
theorem k21:Zb 72=some ([.tmp 4],r21):=by kernel_rfl
def yi:RC:=(sQ (sO [om 10 5,ZP 11 1 2,ZS 12 11,YS 13 12,YQ 14 3 10 13] (cS 14 (.exit 0))) (sQ (.block 1 (sO [ZP 17 1 2,ZS 18 17,om 19 5,Y0 20 9 18 19,ZP 21 0 20,Zh 22 7 21,om 23 1,YI 24 72 22 23,VO 25 24] (cT 25 (sO [XW 4] .ret)))) (oP [om 15 5,Yz 16 3 15 1,om 5 16])))
def r31:RC:=(sO [Yy 2 31 0,XW 4] (sQ (sO [ZP 6 1 2,ZS 7 6,YS 8 7,Ut 9 3 8 10] (cT 9 (sO [XW 4] .ret))) (sQ (sO [Zz 5 0] (.block 0 (.loop yi))) (sO [Tt 4] .ret))))
theorem k31:Zb 22=some ([.tmp 4],r31):=by kernel_rfl
end Go.Am
namespace Go.Am
open Go Go.Proofs
variable [ZZ]
set_option maxRecDepth 100000
theorem acg (a:AV)(s:St):Vb U 25 a s=P7 2 a s:=OP U dP dO a s
theorem ach (a:AV)(s:St):Vb U 78 a s=P7 7 a s:=OP U IZ IY a s
theorem aci (a:AV)(s:St):Vb U 42 a s=P7 3 a s:=OP U dN dM a s
theorem bP (a:AV)(s:St):Vb U 128 a s=P7 3 a s:=OP U pK pJ a s
theorem pI:YB U 186=some true:=by kernel_rfl
theorem pH:size U 186=some 6:=by kernel_rfl
theorem bO (a:AV)(s:St):Vb U 186 a s=P7 6 a s:=OP U pI pH a s
theorem pG:YB U 133=some true:=by kernel_rfl
theorem pF:size U 133=some 3:=by kernel_rfl
theorem bN (a:AV)(s:St):Vb U 133 a s=P7 3 a s:=OP U pG pF a s
theorem Ce (x:Option AV)(s:St):Uk false x s=some (undef,s):=(fun h=>h) rfl
theorem Cd (X:Cx)(x:Option AV)(f:FuncId)(args:List AV)(s:St):FO X false x f args s=some (undef,s):=(fun h=>h) rfl
def St.upto (s:St)(k:Nat):St:={ s with next:=k }
theorem ZH (s:St)(k j:Nat):(s.upto k).get j=s.get j:=(fun h=>h) rfl
theorem ZV (s:St)(k:Nat):(s.upto k).next=k:=(fun h=>h) rfl
theorem Cc {X:Cx}{β:Type}(fin:Fl->β)(ks:List K)(e:Env)(s:St)(n:Nat)(l:List RO):go X fin ks (.Sf n l) e s=bif WA s.next s l then Gp X fin ks s.next l e (s.upto (s.next+n)) else stuck X fin ks:=pE X fin ks e s n l
theorem vW {n:Nat}(h:4<=n):U.Na n=none:=by
 rw[M_];unfold dL pD
 match n,h with
 |n+4,_=>rfl
def Fr (s:St):Prop:=∀j,s.next<=j->s.get j=none
theorem Fr.at {s:St}(h:Fr s)(k:Nat):s.get (s.next+k)=none:=h _ (by omega)
theorem Fr.own:Fr (Yl U):=fun j hj=>by
 rw[D0];rw[IX,IW] at hj;exact vW (by omega)
theorem Fr.new {s:St}(h:Fr s)(x:Vr):Fr (s.new x):=fun j hj=>by
 rw[Z'] at hj;rw[ZY,if_neg (by omega)];exact h j (by omega)
theorem Fr.put {s:St}(h:Fr s){k:Nat}(hk:k<s.next)(x:Vr):Fr (s.put k x):=fun j hj=>by
 rw[Z_] at hj;rw[Z0,if_neg (by omega)];exact h j (by omega)
theorem Fr.upto {s:St}(h:Fr s){k:Nat}(hk:s.next<=k):Fr (s.upto k):=fun j hj=>by
 rw[ZV] at hj;rw[ZH];exact h j (by omega)
attribute [go_sem ↓ high] Cc
attribute [go_sem ↓] ZH ZV
attribute [go_sem] vW Option.isNone_none
attribute [go_sem ↓] Ce Cd
attribute [go_sem] acg ach aci bP pI pH bO pG pF bN
end Go.Am
namespace Go.Am
open Go
inductive Kd where
 |high|low|Ja|fall|pattern|enter|Vj|gap|idle|setup|Um|Lv|tq|I_|other
 deriving DecidableEq
def Zy (k:X6):Kd :=
 br (k==[104,105,103,104]) .high <|
 br (k==[108,111,119]) .low <|
 br (k==[114,105,115,101]) .Ja <|
 br (k==[102,97,108,108]) .fall <|
 br (k==[112,97,116,116,101,114,110]) .pattern <|
 br (k==[101,110,116,101,114]) .enter <|
 br (k==[112,117,108,115,101]) .Vj <|
 br (k==[103,97,112]) .gap <|
 br (k==[105,100,108,101]) .idle <|
 br (k==[115,101,116,117,112]) .setup <|
 br (k==[114,117,110,116]) .Um <|
 br (k==[110,111,116]) .Lv <|
 br (k==[97,108,108]) .tq <|
 br (k==[97,110,121]) .I_ <|
 .other
structure Uses where
 a:Bool
 b:Bool
 mi:Bool
 ma:Bool
 pat:Bool
 kids:Bool
def YL:Kd->Uses
 |.high|.low|.Ja|.fall=>⟨true,false,false,false,false,false⟩
 |.pattern|.enter=>⟨false,false,false,false,true,false⟩
 |.Vj|.gap=>⟨true,false,true,true,false,false⟩
 |.idle=>⟨true,false,true,false,false,false⟩
 |.setup=>⟨true,true,true,false,false,false⟩
 |.Um=>⟨true,true,false,false,false,false⟩
 |.Lv|.tq|.I_=>⟨false,false,false,false,false,true⟩
 |.other=>⟨false,false,false,false,false,false⟩
def Kd.known:Kd->Bool
 |.other=>false
 |_=>true
def iR (k:X6)(d:Kd):Prop:=Zy k=d/\(k==[104,105,103,104])=decide (d=.high)/\(k==[108,111,119])=decide (d=.low)/\(k==[114,105,115,101])=decide (d=.Ja)/\(k==[102,97,108,108])=decide (d=.fall)/\(k==[112,97,116,116,101,114,110])=decide (d=.pattern)/\(k==[101,110,116,101,114])=decide (d=.enter)/\(k==[112,117,108,115,101])=decide (d=.Vj)/\(k==[103,97,112])=decide (d=.gap)/\(k==[105,100,108,101])=decide (d=.idle)/\(k==[115,101,116,117,112])=decide (d=.setup)/\(k==[114,117,110,116])=decide (d=.Um)/\(k==[110,111,116])=decide (d=.Lv)/\(k==[97,108,108])=decide (d=.tq)/\(k==[97,110,121])=decide (d=.I_)
theorem RP (k:X6):iR k (Zy k):=by
 by_cases e0:k=[104,105,103,104]
 ·subst e0;exact⟨rfl,rfl,rfl,rfl,rfl,rfl,rfl,rfl,rfl,rfl,rfl,rfl,rfl,rfl,rfl⟩
 by_cases e1:k=[108,111,119]
 ·subst e1;exact⟨rfl,rfl,rfl,rfl,rfl,rfl,rfl,rfl,rfl,rfl,rfl,rfl,rfl,rfl,rfl⟩
 by_cases e2:k=[114,105,115,101]
 ·subst e2;exact⟨rfl,rfl,rfl,rfl,rfl,rfl,rfl,rfl,rfl,rfl,rfl,rfl,rfl,rfl,rfl⟩
 by_cases e3:k=[102,97,108,108]
 ·subst e3;exact⟨rfl,rfl,rfl,rfl,rfl,rfl,rfl,rfl,rfl,rfl,rfl,rfl,rfl,rfl,rfl⟩
 by_cases e4:k=[112,97,116,116,101,114,110]
 ·subst e4;exact⟨rfl,rfl,rfl,rfl,rfl,rfl,rfl,rfl,rfl,rfl,rfl,rfl,rfl,rfl,rfl⟩
 by_cases e5:k=[101,110,116,101,114]
 ·subst e5;exact⟨rfl,rfl,rfl,rfl,rfl,rfl,rfl,rfl,rfl,rfl,rfl,rfl,rfl,rfl,rfl⟩
 by_cases e6:k=[112,117,108,115,101]
 ·subst e6;exact⟨rfl,rfl,rfl,rfl,rfl,rfl,rfl,rfl,rfl,rfl,rfl,rfl,rfl,rfl,rfl⟩
 by_cases e7:k=[103,97,112]
 ·subst e7;exact⟨rfl,rfl,rfl,rfl,rfl,rfl,rfl,rfl,rfl,rfl,rfl,rfl,rfl,rfl,rfl⟩
 by_cases e8:k=[105,100,108,101]
 ·subst e8;exact⟨rfl,rfl,rfl,rfl,rfl,rfl,rfl,rfl,rfl,rfl,rfl,rfl,rfl,rfl,rfl⟩
 by_cases e9:k=[115,101,116,117,112]
 ·subst e9;exact⟨rfl,rfl,rfl,rfl,rfl,rfl,rfl,rfl,rfl,rfl,rfl,rfl,rfl,rfl,rfl⟩
 by_cases e10:k=[114,117,110,116]
 ·subst e10;exact⟨rfl,rfl,rfl,rfl,rfl,rfl,rfl,rfl,rfl,rfl,rfl,rfl,rfl,rfl,rfl⟩
 by_cases e11:k=[110,111,116]
 ·subst e11;exact⟨rfl,rfl,rfl,rfl,rfl,rfl,rfl,rfl,rfl,rfl,rfl,rfl,rfl,rfl,rfl⟩
 by_cases e12:k=[97,108,108]
 ·subst e12;exact⟨rfl,rfl,rfl,rfl,rfl,rfl,rfl,rfl,rfl,rfl,rfl,rfl,rfl,rfl,rfl⟩
 by_cases e13:k=[97,110,121]
 ·subst e13;exact⟨rfl,rfl,rfl,rfl,rfl,rfl,rfl,rfl,rfl,rfl,rfl,rfl,rfl,rfl,rfl⟩
 have f0:(k==[104,105,103,104])=false:=beq_eq_false_iff_ne.2 e0;have f1:(k==[108,111,119])=false:=beq_eq_false_iff_ne.2 e1;have f2:(k==[114,105,115,101])=false:=beq_eq_false_iff_ne.2 e2;have f3:(k==[102,97,108,108])=false:=beq_eq_false_iff_ne.2 e3;have f4:(k==[112,97,116,116,101,114,110])=false:=beq_eq_false_iff_ne.2 e4;have f5:(k==[101,110,116,101,114])=false:=beq_eq_false_iff_ne.2 e5;have f6:(k==[112,117,108,115,101])=false:=beq_eq_false_iff_ne.2 e6;have f7:(k==[103,97,112])=false:=beq_eq_false_iff_ne.2 e7;have f8:(k==[105,100,108,101])=false:=beq_eq_false_iff_ne.2 e8;have f9:(k==[115,101,116,117,112])=false:=beq_eq_false_iff_ne.2 e9;have f10:(k==[114,117,110,116])=false:=beq_eq_false_iff_ne.2 e10;have f11:(k==[110,111,116])=false:=beq_eq_false_iff_ne.2 e11;have f12:(k==[97,108,108])=false:=beq_eq_false_iff_ne.2 e12;have f13:(k==[97,110,121])=false:=beq_eq_false_iff_ne.2 e13;have hk:Zy k=.other:=by simp only[Zy,f0,f1,f2,f3,f4,f5,f6,f7,f8,f9,f10,f11,f12,f13,YU]
 rw[hk];exact⟨hk,f0,f1,f2,f3,f4,f5,f6,f7,f8,f9,f10,f11,f12,f13⟩
def outside (n a b:Int):Bool:=decide (n<a)||decide (n>b)
def NO (s:X6)(lines:Int):Bool:=(s.length:Int) != lines||s.any fun c=>c != 48&&c != 49&&c != 120
mutual
def NK (lines:Int):ZX->Int->Int
 |.mk kind a b mi ma pat nl kids,depth =>
  let u:=YL (Zy kind)
  let len:Int:=kids.length
  br (decide (depth>4)) 5 <|
  br (!(Zy kind).known) 13 <|
  br (!u.a&&a != 0||!u.b&&b != 0||!u.mi&&mi != 0||!u.ma&&ma != 0||!u.pat&&!pat==[]||!u.kids&&decide (len>0)) 2 <|
  br (u.a&&outside a 0 (IntKind.i64.wrap (lines-1))||u.b&&outside b 0 (IntKind.i64.wrap (lines-1))) 3 <|
  br (u.b&&a==b) 9 <|
  br (u.mi&&outside mi 1 255||u.ma&&outside ma 1 255) 3 <|
  br (u.ma&&decide (mi>ma)) 11 <|
  br (u.pat&&NO pat lines) 1 <|
  br (kind==[110,111,116]&&len != 1) 2 <|
  br (u.kids&&len==0) 12 <|
  br (u.kids&&decide (len>8)) 5 <|
  QI lines kids (IntKind.i64.wrap (depth+1))
def QI (lines:Int):List ZX->Int->Int
 |[],_=>0
 |c::l,depth=>br (NK lines c depth != 0) (NK lines c depth) (QI lines l depth)
end
def Yh:List Int->Int
 |[]=>0
 |e::l=>br (e != 0) e (Yh l)
def within (n a b:Int):Int:=br (decide (n<a)||decide (n>b)) 3 0
def M7 (lines:Int)(pat:X6):Int:=br (NO pat lines) 1 0
mutual
def dH (lines:Int):ZX->Int->Int
 |.mk kind a b mi ma pat nl kids,depth =>
  let u:=YL (Zy kind)
  let len:Int:=kids.length
  let e0:=Yh [br (decide (depth>4)) 5 0,br (!(Zy kind).known) 13 0]
  let e1:=Yh [br (!u.a&&a != 0||!u.b&&b != 0||!u.mi&&mi != 0||!u.ma&&ma != 0||!u.pat&&!pat==[]||!u.kids&&decide (len>0)) 2 0,
   br (u.a&&(decide (a<0)||decide (a>=lines))) 3 0,br (u.b&&(decide (b<0)||decide (b>=lines))) 3 0,br (u.b&&a==b) 9 0,
   br (u.mi&&within mi 1 255 != 0) 3 0,br (u.ma&&within ma 1 255 != 0) 3 0,br (u.ma&&decide (mi>ma)) 11 0]
  let e2:=br u.pat (Yh [e1,M7 lines pat]) e1
  let e3:=br (kind==[110,111,116]) (br (len != 1) 2 0) (Yh [br (len==0) 12 0,br (decide (len>8)) 5 0])
  br (e0 != 0) e0 <| br (e2 != 0||!u.kids) e2 <| NM lines kids (IntKind.i64.wrap (depth+1)) e3
def NM (lines:Int):List ZX->Int->Int->Int
 |[],_,e=>e
 |c::l,depth,e=>NM lines l depth (br (e==0) (dH lines c depth) e)
end
theorem Hz (lines depth:Int):∀(l:List ZX) (e:Int),e≠0->NM lines l depth e=e
 |[],e,h=>by simp[NM]
 |c::l,e,h=>by
  have:(e==0)=false:=by simp[h]
  rw[NM,this,YU,Hz lines depth l e h]
theorem rO:Yh []=0:=rfl
theorem xB {p:Bool}{e x:Int}{l:List Int}(h:(e != 0)=true):Yh (br p e x::l)=br p e (Yh (x::l)):=by
 cases p
 ·rfl
 ·rw[Xt,Xt,Yh,h,Xt]
theorem xA (l:List Int):Yh (0::l)=Yh l:=rfl
theorem gk (F:Int->Int)(hF:∀e,e≠0->F e=e){p:Bool}{e x:Int}(h:(e != 0)=true):F (br p e x)=br p e (F x):=by
 cases p
 ·rfl
 ·rw[Xt,Xt];exact hF _ (by simpa using h)
theorem gj {p:Bool}{e:Int}{x y:Int}(h:(e != 0)=true):br (br p e x != 0) (br p e x) y=br p e (br (x != 0) x y):=by
 cases p
 ·rfl
 ·rw[Xt,Xt,h,Xt]
theorem adZ {β:Type}(p q:Bool)(x y:β):br (p||q) x y=br p x (br q x y):=by cases p <;> cases q <;> rfl
theorem Ug {β:Type}{p:Bool}{x y y':β}(h:p=false->y=y'):br p x y=br p x y':=by
 cases p
 ·rw[h rfl]
 ·rfl
theorem AE (k:X6):(k==[110,111,116])=decide (Zy k=.Lv):=by
 obtain⟨h0,h1,h2,h3,h4,h5,h6,h7,h8,h9,h10,h11,h12,h13,h14⟩:=RP k;exact h12
mutual
theorem cZ (lines:Int)(hl:1<=lines)(D3:lines<=16):∀(c:ZX) (depth:Int),dH lines c depth=NK lines c depth
 |.mk kind a b mi ma pat nl kids,depth=>by
  have ih:=nk lines hl D3 kids (IntKind.i64.wrap (depth+1));have hw:IntKind.i64.wrap (lines-1)=lines-1:=wrap_i64 (by omega) (by omega);have ho:∀x:Int,outside x 0 (lines-1)=(decide (x<0)||decide (x>=lines)):=fun x=>by
   have:(x>lines-1)=(x>=lines):=by apply propext;omega
   simp only[outside,this]
  rw[dH,NK];simp only[hw,ho,AE,<-ih];have hF:=Hz lines (IntKind.i64.wrap (depth+1)) kids;have hF0:decide ((kids.length:Int)>0)=false->0=NM lines kids (IntKind.i64.wrap (depth+1)) 0:=fun h=>by
   have:kids=[]:=by
    cases kids with
    |nil=>rfl
    |cons c l=>simp at h
   rw[this,NM]
  generalize NM lines kids (IntKind.i64.wrap (depth+1))=F at hF hF0;generalize (decide (a<0)||decide (a>=lines))=oa;generalize (decide (b<0)||decide (b>=lines))=ob;have zi:outside mi 1 255=(within mi 1 255 != 0):=by rw[within,outside];cases decide (mi<1)||decide (mi>255) <;> rfl
  have py:outside ma 1 255=(within ma 1 255 != 0):=by rw[within,outside];cases decide (ma<1)||decide (ma>255) <;> rfl
  rw[zi,py];generalize hK:Zy kind=K
  cases K <;> simp (decide:=true) only[YL,Kd.known,ajT,ajY,ajF,ajZ,ajU,Bool.or_false,Bool.true_or,Bool.or_true,YU,Xt,xB,xA,ajz,ajP,rO,gj,gk F hF,bne_self_eq_false,adZ,M7,decide_true,decide_false,reduceCtorEq]
  all_goals repeat' (refine Ug fun _=>?_)
  all_goals first|rfl|(apply hF0;assumption)|skip
  rename_i hlen;have hlen:(kids.length:Int)=1:=by simpa using hlen
  rw[hlen];rfl
theorem nk (lines:Int)(hl:1<=lines)(D3:lines<=16):∀(l:List ZX) (depth:Int),NM lines l depth 0=QI lines l depth
 |[],_=>by simp[NM,QI]
 |c::l,depth=>by
  have ih:=nk lines hl D3 l depth;rw[NM,QI,cZ lines hl D3 c depth];simp only[BEq.rfl,Xt]
  cases h:NK lines c depth != 0
  ·have:NK lines c depth=0:=by simpa using h
   rw[YU,this,ih]
  ·rw[Xt,Hz]
   simpa using h
end
end Go.Am
