/- A part of the proof. -/
import Derived.Test.YtkmaeondbkpajaaGreatDoorE04
set_option linter.all false
set_option maxHeartbeats 8000000
set_option maxRecDepth 100000
namespace Go.Am
open Go
variable [Z8]
def As:RC:=(sQ (sO [om 52 4,ZO 53 1 1,ZX 54 53,om 55 3,Zq 56 1 54 55,ZX 57 56,Za 58 57,Y_ 59 3 52 58] (cS 59 (.exit 2))) (sQ (.block 3 (sQ (.Uu 13 [ZO 62 1 1,ZX 63 62,om 64 3,Zq 65 1 63 64,ZX 66 65,om 67 4,Zq 68 1 66 67,ZX 69 68,ZO 70 1 1,ZX 71 70,Za 72 71,Wy 73 3 72 1,o 74 (.call 65 [(.t 69),(vI 0),(.t 73)])]) (cT 74 (sO [ZA 2 10] .ret)))) (oP [om 60 4,YM 61 3 60 1,om 4 61])))
def FJ:RC:=(sQ (sO [om 23 3,ZO 24 1 1,ZX 25 24,Za 26 25,Y_ 27 3 23 26] (cS 27 (.exit 0))) (sQ (.block 1 (sQ (sQ (.Uu 22 [ZO 30 1 1,ZX 31 30,om 32 3,Zq 33 1 31 32,ZX 34 33,Za 35 34,ZO 36 0 1,ZX 37 36,Oc 38 3 1 37,S5 39 3 35 38,om 40 39,Xv 41 40 2 1,Yq 42 40 41,XI 43 40 3,oF 44 40 (.FI 1 (.t 42) (.t 43)),Yq 45 40 44,Tv 46 40 45,Xv 47 40 0 1,Yq 48 40 47,oF 49 40 (.bin .shl 3 true (vI 1) (.t 48)),F9 50 40 3 46 49,YO 51 40 50]) (cT 51 (sO [ZA 2 2] .ret))) (sO [ZA 4 0] (.block 2 (.loop As))))) (oP [om 28 3,YM 29 3 28 1,om 3 29])))
def r50:RC:=(sO [YL 1 46 0,ZA 2 0] (sQ (sO [ZO 5 0 1,ZX 6 5,FH 7 65 6 1 4] (cT 7 (sO [ZA 2 3] .ret))) (sQ (sO [ZO 8 1 1,ZX 9 8,Za 10 9,Wq 11 3 10 0] (cT 11 (sO [ZA 2 12] .ret))) (sQ (sO [ZO 12 1 1,ZX 13 12,Za 14 13,Wx 15 3 14 256] (cT 15 (sO [ZA 2 5] .ret))) (sQ (sO [ZO 16 2 1,ZX 17 16,Za 18 17,ZO 19 1 1,ZX 20 19,Za 21 20,S5 22 3 18 21] (cT 22 (sO [ZA 2 2] .ret))) (sQ (sO [ZA 3 0] (.block 0 (.loop FJ))) (sO [ZA 2 0] .ret)))))))
def k50:Zm 17=some ([.tmp 2],r50):=It
def tw:RC:=(sO [Y_ 39 3 38 37] (sQ (cS 39 (.exit 0)) (sQ (.block 1 (sO [om 40 38,Zq 41 1 36 38,ZX 42 41,om 4 40,om 5 42] (sQ (.Uu 19 [om 43 5,Za 44 43,ZO 45 0 1,ZX 46 45,Oc 47 3 1 46,S5 48 3 44 47,om 49 48,Xv 50 49 2 1,Yq 51 49 50,XI 52 49 4,oF 53 49 (.FI 1 (.t 51) (.t 52)),Yq 54 49 53,Tv 55 49 54,Xv 56 49 0 1,Yq 57 49 56,oF 58 49 (.bin .shl 3 true (vI 1) (.t 57)),F9 59 49 3 55 58,YO 60 49 59,om 6 60]) (sO [om 61 5,o 62 (.mkf 154 [] [(.t 1)]),YU 63 134 61 62,om 7 63] (sO [om 64 6,Xl 65 85 64 2,om 66 7,Xl 67 85 66 10,yg 68 26 1 2 0 0 0 1 65 1 1 67,Zk 69 93 68,om 8 69] (sO [om 70 8,Vp 71 26 70 0] (cT 71 (sO [om 72 8,om 2 72] .ret)))))))) (oP [YM 73 3 38 1,om 38 73]))))
def r58:RC:=(sO [YL 1 42 0,ZA 2 0] (sQ (sQ (.Uu 24 [ZO 9 0 1,ZX 10 9,FH 11 111 10 1 4,ZO 12 1 1,ZX 13 12,Za 14 13,Wq 15 3 14 0,Xl 16 85 15 12,ZO 17 1 1,ZX 18 17,Za 19 18,Wx 20 3 19 256,Xl 21 85 20 5,ZO 22 2 1,ZX 23 22,Za 24 23,ZO 25 1 1,ZX 26 25,Za 27 26,S5 28 3 24 27,Xl 29 85 28 2,⟨some 30,none,some 21,false,.Uc 26 1 4 [(iI 0),(iI 0),(iI 0),(iI 0)] [(0,1,(.t 11)),(1,1,(.t 16)),(2,1,(.t 21)),(3,1,(.t 29))]⟩,Zk 31 93 30,om 3 31]) (sO [om 32 3,Vp 33 26 32 0] (cT 33 (sO [om 34 3,om 2 34] .ret)))) (sQ (sO [ZO 35 1 1,ZX 36 35,Za 37 36,ZA 38 0] (.block 0 (.loop tw))) (sO [ZA 2 0] .ret))))
def k58:Zm 94=some ([.tmp 2],r58):=It
def Ar:RC:=(sQ (sO [om 31 5,ZO 32 1 2,ZX 33 32,Za 34 33,Y_ 35 3 31 34] (cS 35 (.exit 0))) (sQ (.block 1 (sQ (.Uu 12 [ZO 38 1 2,ZX 39 38,om 40 5,Zq 41 1 39 40,ZX 42 41,ZO 43 1 3,ZX 44 43,om 45 5,Zq 46 1 44 45,ZX 47 46,YU 48 92 42 47,WU 49 48]) (cT 49 (sO [Zf 4] .ret)))) (oP [om 36 5,YM 37 3 36 1,om 5 37])))
def Aq:RC:=(sQ (sO [om 70 7,ZO 71 2 2,ZX 72 71,om 73 6,Zq 74 1 72 73,ZX 75 74,Za 76 75,Y_ 77 3 70 76] (cS 77 (.exit 4))) (sQ (.block 5 (sQ (.Uu 17 [ZO 80 2 2,ZX 81 80,om 82 6,Zq 83 1 81 82,ZX 84 83,om 85 7,Zq 86 1 84 85,ZX 87 86,ZO 88 2 3,ZX 89 88,om 90 6,Zq 91 1 89 90,ZX 92 91,om 93 7,Zq 94 1 92 93,ZX 95 94,S5 96 4 87 95]) (cT 96 (sO [Zf 4] .ret)))) (oP [om 78 7,YM 79 3 78 1,om 7 79])))
def tu:RC:=(sQ (sO [om 50 6,ZO 51 2 2,ZX 52 51,Za 53 52,Y_ 54 3 50 53] (cS 54 (.exit 2))) (sQ (.block 3 (sQ (sQ (.Uu 13 [ZO 57 2 2,ZX 58 57,om 59 6,Zq 60 1 58 59,ZX 61 60,Za 62 61,ZO 63 2 3,ZX 64 63,om 65 6,Zq 66 1 64 65,ZX 67 66,Za 68 67,S5 69 3 62 68]) (cT 69 (sO [Zf 4] .ret))) (sO [ZA 7 0] (.block 4 (.loop Aq))))) (oP [om 55 6,YM 56 3 55 1,om 6 56])))
def r60:RC:=(sO [YL 2 46 0,YL 3 46 1,Zf 4] (sQ (sO [ZO 8 0 2,ZX 9 8,ZO 10 0 3,ZX 11 10,S5 12 3 9 11,om 13 12,Xv 14 13 1 2,Yq 15 13 14,Tv 16 13 15,Xv 17 13 1 3,Yq 18 13 17,Tv 19 13 18,F9 20 13 3 16 19,YO 21 13 20,om 22 21,Xv 23 22 2 2,Yq 24 22 23,Tv 25 22 24,Xv 26 22 2 3,Yq 27 22 26,Tv 28 22 27,F9 29 22 3 25 28,YO 30 22 29] (cT 30 (sO [Zf 4] .ret))) (sQ (sO [ZA 5 0] (.block 0 (.loop Ar))) (sQ (sO [ZA 6 0] (.block 2 (.loop tu))) (sO [Uz 4] .ret)))))
def k60:Zm 29=some ([.tmp 4],r60):=It
def aim:RC:=(sO [Zf 3] (sO [om 4 0,L5 5 3 4 0,om 6 5,XI 7 6 0,Xv 8 6 1 1,Yq 9 6 8,Tv 10 6 9,HT 11 6 3 7 10,YO 12 6 11,om 3 12] .ret))
def amG:Zm 154=some ([.tmp 3],aim):=It
def aiS:RC:=(sO [XF 2] (sQ (sO [om 3 0,o 4 (.bin .eql 72 true (.t 3) (.v .ZQ))] (cT 4 (sO [XF 2] .ret))) (sO [o 5 (.Uc 4 1 0 [] []),om 6 0,VN 7 4 1 1 5 6,om 2 7] .ret)))
def amZ:Zm 131=some ([.tmp 2],aiS):=It
def ajC:RC:=(sO [XF 2] (sQ (sO [om 3 0,o 4 (.bin .eql 48 true (.t 3) (.v .ZQ))] (cT 4 (sO [XF 2] .ret))) (sO [o 5 (.Uc 3 1 0 [] []),om 6 0,VN 7 3 1 8 5 6,om 2 7] .ret)))
def an3:Zm 170=some ([.tmp 2],ajC):=It
def aa_:RC:=(sO [Zf 4] (sO [om 9 0,X5 10 9,ZO 11 2 10,ZX 12 11,om 13 1,Zq 14 1 12 13,ZX 15 14,om 5 15] (sQ (.Uu 24 [om 16 0,X5 17 16,ZO 18 1 17,ZX 19 18,om 20 1,Zq 21 1 19 20,ZX 22 21,om 23 0,X5 24 23,ZO 25 3 24,ZX 26 25,om 27 5,Zq 28 1 26 27,ZX 29 28,om 30 0,X5 31 30,ZO 32 5 31,ZX 33 32,om 34 5,Zq 35 1 33 34,ZX 36 35,UT 37 3 29 36,om 6 22,om 7 37]) (sQ (sO [om 38 6,om 39 7,Y_ 40 3 38 39] (cT 40 (sO [Zf 4] .ret))) (sO [om 41 0,X5 42 41,ZO 43 0 42,ZX 44 43,om 45 7,Zq 46 1 44 45,ZX 47 46,om 8 47] (sQ (.Uu 16 [om 48 0,X5 49 48,ZO 50 0 49,ZX 51 50,om 52 6,om 53 0,X5 54 53,ZO 55 0 54,ZX 56 55,om 57 7,om 58 8,om 59 1,Zq 60 1 51 52,⟨none,none,none,true,.st 1 (.t 60) (.t 58)⟩,Zq 61 1 56 57,⟨none,none,none,true,.st 1 (.t 61) (.t 59)⟩]) (sQ (.Uu 16 [om 62 0,X5 63 62,ZO 64 1 63,ZX 65 64,om 66 8,om 67 0,X5 68 67,ZO 69 1 68,ZX 70 69,om 71 1,om 72 6,om 73 7,Zq 74 1 65 66,⟨none,none,none,true,.st 1 (.t 74) (.t 72)⟩,Zq 75 1 70 71,⟨none,none,none,true,.st 1 (.t 75) (.t 73)⟩]) (sO [om 76 0,X5 77 76,ZO 78 5 77,ZX 79 78,om 80 5,Zq 81 1 79 80,ZX 82 81,YM 83 3 82 1,Zq 84 1 79 80,YC 1 84 83] (sO [om 85 0,X5 86 85,ZO 87 5 86,ZX 88 87,om 89 5,Zq 90 1 88 89,ZX 91 90,Wq 92 3 91 1,om 4 92] .ret)))))))))
def al8:Zm 171=some ([.tmp 4],aa_):=It
def r94:RC:=(sO [Zf 6] (sO [om 7 0,om 8 1,Y_ 9 3 7 8,om 10 9,XI 11 10 0,XI 12 10 2,oF 13 10 (.bin .gtr 3 false (.t 11) (.t 12)),YO 14 10 13,om 6 14] .ret))
def k94:Zm 65=some ([.tmp 6],r94):=It
def r26:RC:=(sO [ZA 2 0] (sQ (sO [om 3 0,FH 4 65 3 1 16] (cT 4 (sO [ZA 2 3] .ret))) (sO [ZA 2 0] .ret)))
def k26:Zm 73=some ([.tmp 2],r26):=It
def r95:RC:=(sO [o 2 (.al [bF,bF,bF,bF,bF,bF] 186),Zf 3] (sQ (sO [om 4 0] (.block 0 (sQ (sO [Fw 6 9 4 104 105 103 104,om 5 6] (cS 5 (sO [NG 7 9 4 108 111 119,om 5 7] (cS 5 (sO [Fw 8 9 4 114 105 115 101,om 5 8] (cS 5 (oP [Fw 9 9 4 102 97 108 108,om 5 9]))))))) (cO 5 (sO [o 10 (.RR [bF,bF,bF,bF,bF,bF] [(0,1,vT),(1,1,vF),(2,1,vF),(3,1,vF),(4,1,vF),(5,1,vF)]),YC 6 2 10,Uz 3] .ret) (sQ (sO [o 12 (.bin .eql 9 true (.t 4) (.v (.str [112,97,116,116,101,114,110]))),om 11 12] (cS 11 (oP [xF 13 9 4 101 110 116 101 114,om 11 13]))) (cO 11 (sO [o 14 (.RR [bF,bF,bF,bF,bF,bF] [(0,1,vF),(1,1,vF),(2,1,vF),(3,1,vF),(4,1,vT),(5,1,vF)]),YC 6 2 14,Uz 3] .ret) (sQ (sO [xF 16 9 4 112 117 108 115 101,om 15 16] (cS 15 (oP [NG 17 9 4 103 97 112,om 15 17]))) (cO 15 (sO [o 18 (.RR [bF,bF,bF,bF,bF,bF] [(0,1,vT),(1,1,vF),(2,1,vT),(3,1,vT),(4,1,vF),(5,1,vF)]),YC 6 2 18,Uz 3] .ret) (sO [Fw 20 9 4 105 100 108 101,om 19 20] (cO 19 (sO [o 21 (.RR [bF,bF,bF,bF,bF,bF] [(0,1,vT),(1,1,vF),(2,1,vT),(3,1,vF),(4,1,vF),(5,1,vF)]),YC 6 2 21,Uz 3] .ret) (sO [xF 23 9 4 115 101 116 117 112,om 22 23] (cO 22 (sO [o 24 (.RR [bF,bF,bF,bF,bF,bF] [(0,1,vT),(1,1,vT),(2,1,vT),(3,1,vF),(4,1,vF),(5,1,vF)]),YC 6 2 24,Uz 3] .ret) (sO [Fw 26 9 4 114 117 110 116,om 25 26] (cO 25 (sO [o 27 (.RR [bF,bF,bF,bF,bF,bF] [(0,1,vT),(1,1,vT),(2,1,vF),(3,1,vF),(4,1,vF),(5,1,vF)]),YC 6 2 27,Uz 3] .ret) (sQ (sO [NG 29 9 4 110 111 116,om 28 29] (cS 28 (sO [NG 30 9 4 97 108 108,om 28 30] (cS 28 (oP [NG 31 9 4 97 110 121,om 28 31]))))) (cT 28 (sO [o 32 (.RR [bF,bF,bF,bF,bF,bF] [(0,1,vF),(1,1,vF),(2,1,vF),(3,1,vF),(4,1,vF),(5,1,vT)]),YC 6 2 32,Uz 3] .ret))))))))))))))))) (sO [o 33 (.RR [bF,bF,bF,bF,bF,bF] []),YC 6 2 33,Zf 3] .ret)))
def k95:Zm 114=some ([.cell 2 186,.tmp 3],r95):=It
def sV:RC:=(sQ (sO [om 10 5,om 11 0,Kc 12 11,Y_ 13 3 10 12] (cS 13 (.exit 0))) (sQ (.block 1 (sO [om 16 0,om 17 5,o 18 (.iS (.t 16) (.t 17)),o 19 (.bin .neq 5 true (.t 18) (.v (.int .u8 48))),om 20 19,YV 21 20 0,YV 22 20 5,oT 23 20 (.iS (.t 21) (.t 22)),oT 24 20 (.bin .neq 5 true (.t 23) (.v (.int .u8 49))),YP 25 20 24,om 26 25,YV 27 26 0,YV 28 26 5,oT 29 26 (.iS (.t 27) (.t 28)),oT 30 26 (.bin .neq 5 true (.t 29) (.v (.int .u8 120))),YP 31 26 30] (cT 31 (sO [Uz 4] .ret)))) (oP [om 14 5,YM 15 3 14 1,om 5 15])))
def r96:RC:=(sO [Zf 4] (sQ (sO [om 6 0,Kc 7 6,om 8 1,S5 9 3 7 8] (cT 9 (sO [Uz 4] .ret))) (sQ (sO [ZA 5 0] (.block 0 (.loop sV))) (sO [Zf 4] .ret))))
def k96:Zm 144=some ([.tmp 4],r96):=It
def tb:RC:=(sQ (sO [om 167 9,ZO 168 6 4,ZX 169 168,Za 170 169,Y_ 171 3 167 170] (cS 171 (.exit 0))) (sQ (.block 1 (sO [om 174 0,ZO 175 6 4,ZX 176 175,om 177 9,Zq 178 7 176 177,Zw 179 7 178,om 180 2,YM 181 3 180 1,Og 182 74 174 179 181,om 10 182] (sO [om 183 10,Vp 184 3 183 0] (cT 184 (sO [om 185 10,om 6 185] .ret))))) (oP [om 172 9,YM 173 3 172 1,om 9 173])))
def r27:RC:=(sO [YL 4 106 1,ZA 6 0] (sQ (sO [om 11 2,Wx 12 3 11 4] (cT 12 (sO [ZA 6 5] .ret))) (sO [ZO 14 0 4,ZX 15 14,Zk 16 114 15,om 13 16,YN 17 13 0,YN 18 13 1,o 7 (.al [bF,bF,bF,bF,bF,bF] 186),YC 6 7 17,om 8 18] (sQ (sO [om 19 8,WU 20 19] (cT 20 (sO [ZA 6 13] .ret))) (sQ (sO [T6 21 6 1 7 0,ZX 22 21,WU 23 22,om 24 23,Yl 25 24 1 4,YQ 26 24 25,PQ 27 24 3 26 0,YP 28 24 27,om 29 28,PO 30 29 6 1 7 1,Yq 31 29 30,US 32 29 31,XI 33 29 32,Yl 34 33 2 4,YQ 35 33 34,PQ 36 33 3 35 0,PL 37 29 33 36,YO 38 29 37,om 39 38,PO 40 39 6 1 7 2,Yq 41 39 40,US 42 39 41,XI 43 39 42,Yl 44 43 3 4,YQ 45 43 44,PQ 46 43 3 45 0,PL 47 39 43 46,YO 48 39 47,om 49 48,PO 50 49 6 1 7 3,Yq 51 49 50,US 52 49 51,XI 53 49 52,Yl 54 53 4 4,YQ 55 53 54,PQ 56 53 3 55 0,PL 57 49 53 56,YO 58 49 57,om 59 58,PO 60 59 6 1 7 4,Yq 61 59 60,US 62 59 61,XI 63 59 62,Yl 64 63 5 4,YQ 65 63 64,oT 66 63 (.bin .neq 9 true (.t 65) (.v (.str []))),PL 67 59 63 66,YO 68 59 67,om 69 68,PO 70 69 6 1 7 5,Yq 71 69 70,US 72 69 71,XI 73 69 72,Yl 74 73 6 4,YQ 75 73 74,Md 76 73 75,oT 77 73 (.bin .gtr 3 true (.t 76) (vI 0)),PL 78 69 73 77,YO 79 69 78] (cT 79 (sO [ZA 6 2] .ret))) (sQ (sO [T6 80 6 1 7 0,ZX 81 80,om 82 81,Yl 83 82 1 4,YQ 84 82 83,YV 85 82 0,KS 86 82 3 85 1,oT 87 82 (.call 65 [(.t 84),(vI 0),(.t 86)]),YP 88 82 87,om 89 88,PO 90 89 6 1 7 1,Yq 91 89 90,XI 92 89 91,Yl 93 92 2 4,YQ 94 92 93,YV 95 92 0,KS 96 92 3 95 1,oT 97 92 (.call 65 [(.t 94),(vI 0),(.t 96)]),PL 98 89 92 97,YO 99 89 98] (cT 99 (sO [ZA 6 3] .ret))) (sQ (sO [T6 100 6 1 7 1,ZX 101 100,om 102 101,Yl 103 102 1 4,YQ 104 102 103,Yl 105 102 2 4,YQ 106 102 105,KU 107 102 3 104 106,YP 108 102 107] (cT 108 (sO [ZA 6 9] .ret))) (sQ (sO [T6 109 6 1 7 2,ZX 110 109,om 111 110,Yl 112 111 3 4,YQ 113 111 112,pg 114 111 65 113 1 255,YP 115 111 114,om 116 115,PO 117 116 6 1 7 3,Yq 118 116 117,XI 119 116 118,Yl 120 119 4 4,YQ 121 119 120,pg 122 119 65 121 1 255,PL 123 116 119 122,YO 124 116 123] (cT 124 (sO [ZA 6 3] .ret))) (sQ (sO [T6 125 6 1 7 3,ZX 126 125,om 127 126,Yl 128 127 3 4,YQ 129 127 128,Yl 130 127 4 4,YQ 131 127 130,oT 132 127 (.bin .gtr 3 false (.t 129) (.t 131)),YP 133 127 132] (cT 133 (sO [ZA 6 11] .ret))) (sQ (sO [T6 134 6 1 7 4,ZX 135 134,om 136 135,Yl 137 136 5 4,YQ 138 136 137,YV 139 136 0,Tt 140 136 144 138 139,YP 141 136 140] (cT 141 (sO [ZA 6 1] .ret))) (sQ (sO [ZO 142 0 4,ZX 143 142,NG 144 9 143 110 111 116,om 145 144,Yl 146 145 6 4,YQ 147 145 146,Md 148 145 147,PQ 149 145 3 148 1,YP 150 145 149] (cT 150 (sO [ZA 6 2] .ret))) (sQ (sO [T6 151 6 1 7 5,ZX 152 151,om 153 152,Yl 154 153 6 4,YQ 155 153 154,Md 156 153 155,KV 157 153 3 156 0,YP 158 153 157] (cT 158 (sO [ZA 6 12] .ret))) (sQ (sO [T6 159 6 1 7 5,ZX 160 159,om 161 160,Yl 162 161 6 4,YQ 163 161 162,Md 164 161 163,oT 165 161 (.bin .gtr 3 true (.t 164) (vI 8)),YP 166 161 165] (cT 166 (sO [ZA 6 5] .ret))) (sQ (sO [ZA 9 0] (.block 0 (.loop tb))) (sO [ZA 6 0] .ret)))))))))))))))
def k27:Zm 74=some ([.tmp 6],r27):=It
def tH:RC:=(sQ (sO [om 21 4,ZO 22 1 1,ZX 23 22,Za 24 23,Y_ 25 3 21 24] (cS 25 (.exit 0))) (sQ (.block 1 (sO [ZO 28 1 1,ZX 29 28,om 30 4,Zq 31 9 29 30,Zw 32 9 31,xE 5 0 0 0 0 0 0 109,YC 9 5 32] (sQ (sO [ZO 33 0 1,ZX 34 33,ZO 35 0 5,Zw 36 7 35,o 37 (.call 74 [(.t 34),(.t 36),(vI 1)]),om 6 37] (sO [om 38 6,Vp 39 3 38 0] (cT 39 (sO [om 40 6,om 2 40] .ret)))) (sO [ZO 41 7 5,ZX 42 41,FH 43 65 42 1 64,om 44 43,Xv 45 44 8 5,Yq 46 44 45,oF 47 44 (.call 65 [(.t 46),(vI 0),(vI 255)]),YO 48 44 47,om 49 48,XI 50 49 4,yO 51 49 3 50 0,XI 52 49 51,Yl 53 52 8 5,YQ 54 52 53,PQ 55 52 3 54 0,PL 56 49 52 55,YO 57 49 56] (cT 57 (sO [ZA 2 3] .ret)))))) (oP [om 26 4,YM 27 3 26 1,om 4 27])))
def r34:RC:=(sO [YL 1 31 0,ZA 2 0] (sQ (sO [ZO 7 0 1,ZX 8 7,Zk 9 73 8,om 3 9] (sO [om 10 3,Vp 11 3 10 0] (cT 11 (sO [om 12 3,om 2 12] .ret)))) (sQ (sO [ZO 13 1 1,ZX 14 13,Za 15 14,Wq 16 3 15 0] (cT 16 (sO [ZA 2 12] .ret))) (sQ (sO [ZO 17 1 1,ZX 18 17,Za 19 18,Wx 20 3 19 8] (cT 20 (sO [ZA 2 5] .ret))) (sQ (sO [ZA 4 0] (.block 0 (.loop tH))) (sO [ZA 2 0] .ret))))))
def k34:Zm 23=some ([.tmp 2],r34):=It
def ahE:RC:=(sO [ZA 4 0] (sQ (sO [om 5 0] (cT 5 (sO [om 6 1,om 4 6] .ret))) (sO [ZA 4 0] .ret)))
def alU:Zm 85=some ([.tmp 4],ahE):=It
def ahF:RC:=(sO [ZA 6 0] (sO [om 7 0,om 8 1,Y_ 9 3 7 8,om 10 9,XI 11 10 0,XI 12 10 2,oF 13 10 (.bin .gtr 3 false (.t 11) (.t 12)),YO 14 10 13,Xl 15 85 14 3,om 6 15] .ret))
def alV:Zm 111=some ([.tmp 6],ahF):=It
def r88:RC:=(sO [ZA 2 0] (sO [om 3 0,FH 4 111 3 1 16,om 2 4] .ret))
def k88:Zm 96=some ([.tmp 2],r88):=It
def ti:RC:=(sO [Y_ 8 3 7 6] (sQ (cS 8 (.exit 0)) (sQ (.block 1 (sO [Zq 9 1 5 7,ZX 10 9,om 4 10] (sO [om 11 4,Vp 12 26 11 0] (cT 12 (sO [om 13 4,om 2 13] .ret))))) (oP [YM 14 3 7 1,om 7 14]))))
def r89:RC:=(sO [ZA 2 0] (sQ (sO [om 5 0,Za 6 5,ZA 7 0] (.block 0 (.loop ti))) (sO [ZA 2 0] .ret)))
def k89:Zm 93=some ([.tmp 2],r89):=It
def agP:RC:=(sO [YL 2 220 0,YL 3 78 1,Zf 4] (sO [ZO 5 0 2,ZX 6 5,WU 7 6,om 8 7,Yl 9 8 1 3,YQ 10 8 9,PQ 11 8 3 10 0,YP 12 8 11,om 13 12,Xv 14 13 1 2,Yq 15 13 14,US 16 13 15,XI 17 13 16,Yl 18 17 2 3,YQ 19 17 18,PQ 20 17 3 19 0,PL 21 13 17 20,YO 22 13 21,om 23 22,Xv 24 23 2 2,Yq 25 23 24,US 26 23 25,XI 27 23 26,Yl 28 27 3 3,YQ 29 27 28,PQ 30 27 3 29 0,PL 31 23 27 30,YO 32 23 31,om 33 32,Xv 34 33 3 2,Yq 35 33 34,US 36 33 35,XI 37 33 36,Yl 38 37 4 3,YQ 39 37 38,PQ 40 37 3 39 0,PL 41 33 37 40,YO 42 33 41,om 43 42,Xv 44 43 4 2,Yq 45 43 44,US 46 43 45,XI 47 43 46,Yl 48 47 5 3,YQ 49 47 48,oT 50 47 (.bin .neq 9 true (.t 49) (.v (.str []))),PL 51 43 47 50,YO 52 43 51,om 53 52,Xv 54 53 5 2,Yq 55 53 54,US 56 53 55,XI 57 53 56,Yl 58 57 6 3,YQ 59 57 58,Md 60 57 59,oT 61 57 (.bin .gtr 3 true (.t 60) (vI 0)),PL 62 53 57 61,YO 63 53 62,om 4 63] .ret))
def ak9:Zm 155=some ([.tmp 4],agP):=It
def agO:RC:=(sO [ZA 4 0] (sO [om 5 1,Kc 6 5,om 7 0,S5 8 3 6 7,om 9 8,XI 10 9 1,oF 11 9 (.call 208 [(.t 10),(.v (.str [48,49,120]))]),oF 12 9 (.bin .neq 9 true (.t 11) (.v (.str []))),YO 13 9 12,Xl 14 85 13 1,om 4 14] .ret))
def ak6:Zm 156=some ([.tmp 4],agO):=It
def AL:RC:=(sO [Y_ 144 3 143 142] (sQ (cS 144 (.exit 0)) (sQ (.block 1 (sO [Zq 145 7 141 143,Zw 146 7 145,NF 12 0 0 0 0 78,YC 7 12 146] (sO [om 147 10,Wq 148 26 147 0] (cT 148 (oP [om 149 0,Zw 150 7 12,om 151 2,YM 152 3 151 1,Og 153 97 149 150 152,om 10 153]))))) (oP [YM 154 3 143 1,om 143 154]))))
def r90:RC:=(sO [YL 4 78 1,ZA 6 0] (sQ (.Uu 10 [Od 14 136,ZO 15 0 4,ZX 16 15,o 17 (.raw (.lookup 215 (.tmp 14) (.tmp 16) true)),om 13 17,YN 18 13 0,YN 19 13 1,⟨some 7,none,some 7,false,.al [bF,bF,bF,bF,bF,bF,.VC,.VC,.VC] 220⟩,⟨none,none,none,true,.st 9 (.t 7) (.t 18)⟩,om 8 19]) (sQ (sO [om 20 2,Wx 21 3 20 4,Xl 22 85 21 5,om 23 8,WU 24 23,Xl 25 85 24 13,yg 26 26 1 2 0 0 0 1 22 1 1 25,Zk 27 93 26,om 9 27] (sO [om 28 9,Vp 29 26 28 0] (cT 29 (sO [om 30 9,om 6 30] .ret)))) (sQ (.Uu 73 [Zw 31 9 7,Zw 32 7 4,YU 33 155 31 32,Xl 34 85 33 2,ZO 35 0 7,ZX 36 35,om 37 36,Yl 38 37 1 4,YQ 39 37 38,xD 40 37 3 39 0,YV 41 37 40,Xv 42 41 1 4,Yq 43 41 42,XI 44 41 0,HT 45 41 3 43 44,oT 46 37 (.pick (.t 41) vT (.t 45)),YP 47 37 46,Xl 48 85 47 3,ZO 49 1 7,ZX 50 49,om 51 50,Yl 52 51 2 4,YQ 53 51 52,xD 54 51 3 53 0,YV 55 51 54,Xv 56 55 2 4,Yq 57 55 56,XI 58 55 0,HT 59 55 3 57 58,oT 60 51 (.pick (.t 55) vT (.t 59)),YP 61 51 60,Xl 62 85 61 3,ZO 63 1 7,ZX 64 63,om 65 64,Yl 66 65 1 4,YQ 67 65 66,Yl 68 65 2 4,YQ 69 65 68,KU 70 65 3 67 69,YP 71 65 70,Xl 72 85 71 9,ZO 73 2 7,ZX 74 73,om 75 74,Yl 76 75 3 4,YQ 77 75 76,pg 78 75 111 77 1 255,PQ 79 75 26 78 0,YP 80 75 79,Xl 81 85 80 3,ZO 82 3 7,ZX 83 82,om 84 83,Yl 85 84 4 4,YQ 86 84 85,pg 87 84 111 86 1 255,PQ 88 84 26 87 0,YP 89 84 88,Xl 90 85 89 3,ZO 91 3 7,ZX 92 91,om 93 92,Yl 94 93 3 4,YQ 95 93 94,Yl 96 93 4 4,YQ 97 93 96,oT 98 93 (.bin .gtr 3 false (.t 95) (.t 97)),YP 99 93 98,Xl 100 85 99 11,⟨some 101,none,some 70,false,.Uc 26 1 7 [(iI 0),(iI 0),(iI 0),(iI 0),(iI 0),(iI 0),(iI 0)] [(0,1,(.t 34)),(1,1,(.t 48)),(2,1,(.t 62)),(3,1,(.t 72)),(4,1,(.t 81)),(5,1,(.t 90)),(6,1,(.t 100))]⟩,Zk 102 93 101,om 10 102]) (sQ (sO [ZO 103 4 7,ZX 104 103] (cT 104 (oP [om 105 10,om 106 0,ZO 107 5 4,ZX 108 107,YU 109 156 106 108,yg 110 26 1 2 0 0 0 1 105 1 1 109,Zk 111 93 110,om 10 111]))) (sQ (sO [om 112 10,Vp 113 26 112 0,om 114 113,Xv 115 114 5 7,Yq 116 114 115,US 117 114 116,YO 118 114 117] (cT 118 (sO [om 119 10,om 6 119] .ret))) (sQ (sO [ZO 120 0 4,ZX 121 120,NG 122 9 121 110 111 116] (cO 122 (oP [ZO 123 6 4,ZX 124 123,Za 125 124,Vp 126 3 125 1,Xl 127 85 126 2,om 10 127]) (.Uu 13 [ZO 128 6 4,ZX 129 128,Za 130 129,Wq 131 3 130 0,Xl 132 85 131 12,ZO 133 6 4,ZX 134 133,Za 135 134,Wx 136 3 135 8,Xl 137 85 136 5,⟨some 138,none,some 10,false,.Uc 26 1 2 [(iI 0),(iI 0)] [(0,1,(.t 132)),(1,1,(.t 137))]⟩,Zk 139 93 138,om 10 139]))) (sQ (sO [ZO 140 6 4,ZX 141 140,Za 142 141,ZA 143 0] (.block 0 (.loop AL))) (sO [om 155 10,om 6 155] .ret)))))))))
def k90:Zm 97=some ([.tmp 6],r90):=It
def sU:RC:=(sO [Y_ 29 3 28 27] (sQ (cS 29 (.exit 0)) (sQ (.block 1 (sO [om 30 28,Zq 31 9 26 28,Zw 32 9 31,xE 5 0 0 0 0 0 0 113,om 4 30,YC 9 5 32] (sQ (.Uu 22 [ZO 33 0 1,ZX 34 33,ZO 35 0 5,Zw 36 7 35,o 37 (.call 97 [(.t 34),(.t 36),(vI 1)]),ZO 38 7 5,ZX 39 38,FH 40 111 39 1 64,ZO 41 8 5,ZX 42 41,FH 43 111 42 0 255,om 44 4,Wq 45 3 44 0,om 46 45,Yl 47 46 8 5,YQ 48 46 47,PQ 49 46 3 48 0,YP 50 46 49,Xl 51 85 50 3,⟨some 52,none,some 19,false,.Uc 26 1 4 [(iI 0),(iI 0),(iI 0),(iI 0)] [(0,1,(.t 37)),(1,1,(.t 40)),(2,1,(.t 43)),(3,1,(.t 51))]⟩,Zk 53 93 52,om 6 53]) (sO [om 54 6,Vp 55 26 54 0] (cT 55 (sO [om 56 6,om 2 56] .ret)))))) (oP [YM 57 3 28 1,om 28 57]))))
def r64:RC:=(sO [YL 1 25 0,ZA 2 0] (sQ (sQ (.Uu 16 [ZO 7 0 1,ZX 8 7,Zk 9 96 8,ZO 10 1 1,ZX 11 10,Za 12 11,Wq 13 3 12 0,Xl 14 85 13 12,ZO 15 1 1,ZX 16 15,Za 17 16,Wx 18 3 17 8,Xl 19 85 18 5,⟨some 20,none,some 13,false,.Uc 26 1 3 [(iI 0),(iI 0),(iI 0)] [(0,1,(.t 9)),(1,1,(.t 14)),(2,1,(.t 19))]⟩,Zk 21 93 20,om 3 21]) (sO [om 22 3,Vp 23 26 22 0] (cT 23 (sO [om 24 3,om 2 24] .ret)))) (sQ (sO [ZO 25 1 1,ZX 26 25,Za 27 26,ZA 28 0] (.block 0 (.loop sU))) (sO [ZA 2 0] .ret))))
def k64:Zm 47=some ([.tmp 2],r64):=It
def sT:RC:=(sQ (sO [om 26 5,ZO 27 6 2,ZX 28 27,Za 29 28,Y_ 30 3 26 29] (cS 30 (.exit 0))) (sQ (.block 1 (sO [ZO 33 6 2,ZX 34 33,om 35 5,Zq 36 7 34 35,Zw 37 7 36,om 38 1,YM 39 3 38 1,YU 40 142 37 39,WU 41 40] (cT 41 (sO [Zf 4] .ret)))) (oP [om 31 5,YM 32 3 31 1,om 5 32])))
def r86:RC:=(sO [YL 2 106 0,Zf 4] (sQ (sO [om 6 1,Wx 7 3 6 6,om 8 7,Xv 9 8 0 2,Yq 10 8 9,oF 11 8 (.sS (.t 10)),Ih 12 8 3 11 20,YO 13 8 12,om 14 13,Xv 15 14 5 2,Yq 16 14 15,oF 17 14 (.sS (.t 16)),Ih 18 14 3 17 40,YO 19 14 18,om 20 19,Xv 21 20 6 2,Yq 22 20 21,Tv 23 20 22,Ih 24 20 3 23 10,YO 25 20 24] (cT 25 (sO [Zf 4] .ret))) (sQ (sO [ZA 5 0] (.block 0 (.loop sT))) (sO [Uz 4] .ret))))
def k86:Zm 142=some ([.tmp 4],r86):=It
def sR:RC:=(sQ (sO [om 5 4,ZO 6 6 1,ZX 7 6,Za 8 7,Y_ 9 3 5 8] (cS 9 (.exit 0))) (sQ (.block 1 (oP [om 12 3,ZO 13 6 1,ZX 14 13,om 15 4,Zq 16 7 14 15,Zw 17 7 16,Zk 18 143 17,UT 19 3 12 18,om 3 19])) (oP [om 10 4,YM 11 3 10 1,om 4 11])))
def r87:RC:=(sO [YL 1 106 0,ZA 2 0] (sO [ZA 3 1] (sQ (sO [ZA 4 0] (.block 0 (.loop sR))) (sO [om 20 3,om 2 20] .ret))))
def k87:Zm 143=some ([.tmp 2],r87):=It
def r21:RC:=(sO [YL 2 106 0,Zf 4] (sO [Zw 5 7 2,Xl 6 142 5 1,om 7 6,Wg 8 7 7 2,oT 9 7 (.call 143 [(.t 8)]),YV 10 7 1,oT 11 7 (.bin .leq 3 false (.t 9) (.t 10)),YP 12 7 11,om 4 12] .ret))
def k21:Zm 72=some ([.tmp 4],r21):=It
def tg:RC:=(sQ (sO [om 10 5,ZO 11 1 2,ZX 12 11,Za 13 12,Y_ 14 3 10 13] (cS 14 (.exit 0))) (sQ (.block 1 (sO [ZO 17 1 2,ZX 18 17,om 19 5,Zq 20 9 18 19,ZO 21 0 20,Zw 22 7 21,om 23 1,YU 24 72 22 23,WU 25 24] (cT 25 (sO [Zf 4] .ret)))) (oP [om 15 5,YM 16 3 15 1,om 5 16])))
def r31:RC:=(sO [YL 2 31 0,Zf 4] (sQ (sO [ZO 6 1 2,ZX 7 6,Za 8 7,Wx 9 3 8 10] (cT 9 (sO [Zf 4] .ret))) (sQ (sO [ZA 5 0] (.block 0 (.loop tg))) (sO [Uz 4] .ret))))
def k31:Zm 22=some ([.tmp 4],r31):=It
def sP:RC:=(sQ (sO [om 18 4,ZO 19 6 1,ZX 20 19,Za 21 20,Y_ 22 3 18 21] (cS 22 (.exit 0))) (sQ (.block 1 (.Uu 12 [ZO 25 6 3,ZX 26 25,ZO 27 6 1,ZX 28 27,om 29 4,Zq 30 7 28 29,Zw 31 7 30,Zk 32 82 31,⟨some 33,none,some 8,false,.Uc 78 7 1 [(.str []),(iI 0),(iI 0),(iI 0),(iI 0),(.str []),.ZQ] [(0,7,(.t 32))]⟩,⟨some 34,none,none,true,.app 78 7 88 (.t 26) (.t 33)⟩,ZO 35 6 3,⟨none,none,none,true,.st 1 (.t 35) (.t 34)⟩])) (oP [om 23 4,YM 24 3 23 1,om 4 24])))
def r24:RC:=(sO [YL 1 106 0,NF 2 0 0 0 0 78] (sO [ZO 5 0 1,ZX 6 5,ZO 7 1 1,ZX 8 7,ZO 9 2 1,ZX 10 9,ZO 11 3 1,ZX 12 11,ZO 13 4 1,ZX 14 13,ZO 15 5 1,ZX 16 15,o 17 (.RR [(.str []),(iI 0),(iI 0),(iI 0),(iI 0),(.str []),.ZQ] [(0,1,(.t 6)),(1,1,(.t 8)),(2,1,(.t 10)),(3,1,(.t 12)),(4,1,(.t 14)),(5,1,(.t 16))]),NF 3 0 0 0 0 78,YC 7 3 17] (sQ (sO [ZA 4 0] (.block 0 (.loop sP))) (sO [Zw 36 7 3,YC 7 2 36] .ret))))
def k24:Zm 82=some ([.cell 2 78],r24):=It
def sW:RC:=(sQ (sO [om 8 4,ZO 9 1 1,ZX 10 9,Za 11 10,Y_ 12 3 8 11] (cS 12 (.exit 0))) (sQ (.block 1 (.Uu 26 [ZO 15 1 3,ZX 16 15,ZO 17 1 1,ZX 18 17,om 19 4,Zq 20 9 18 19,ZO 21 0 20,Zw 22 7 21,Zk 23 82 22,ZO 24 1 1,ZX 25 24,om 26 4,Zq 27 9 25 26,ZO 28 7 27,ZX 29 28,ZO 30 1 1,ZX 31 30,om 32 4,Zq 33 9 31 32,ZO 34 8 33,ZX 35 34,o 36 (.RR [(.str []),(iI 0),(iI 0),(iI 0),(iI 0),(.str []),.ZQ,(iI 0),(iI 0)] [(0,7,(.t 23)),(7,1,(.t 29)),(8,1,(.t 35))]),⟨some 37,none,some 22,false,.Uc 113 9 1 [(.str []),(iI 0),(iI 0),(iI 0),(iI 0),(.str []),.ZQ,(iI 0),(iI 0)] [(0,9,(.t 36))]⟩,⟨some 38,none,none,true,.app 113 9 104 (.t 16) (.t 37)⟩,ZO 39 1 3,⟨none,none,none,true,.st 1 (.t 39) (.t 38)⟩])) (oP [om 13 4,YM 14 3 13 1,om 4 14])))
def r33:RC:=(sO [YL 1 31 0,Cc 2 0 25] (sO [ZO 5 0 1,ZX 6 5,o 7 (.RR [(iI 0),.ZQ] [(0,1,(.t 6))]),Cc 3 0 25,YC 2 3 7] (sQ (sO [ZA 4 0] (.block 0 (.loop sW))) (sO [Zw 40 2 3,YC 2 2 40] .ret))))
def k33:Zm 25=some ([.cell 2 25],r33):=It
end Go.Am
namespace Go.Am
open Go Go.Proofs
variable [Z8]
variable {s:St}{k:Nat}
def agG (a:AV)(s:St):UA U 25 a s=Mx 2 a s:=Pj U acW acX a s
def agH (a:AV)(s:St):UA U 78 a s=Mx 7 a s:=Pj U Gh Gg a s
def agI (a:AV)(s:St):UA U 42 a s=Mx 3 a s:=Pj U acY acZ a s
def adJ (a:AV)(s:St):UA U 55 a s=Mx 2 a s:=Pj U iD iC a s
def adK (a:AV)(s:St):UA U 128 a s=Mx 3 a s:=Pj U iB iA a s
def iz:Ys U 186=some true:=It
def iw:size U 186=some 6:=It
def adL (a:AV)(s:St):UA U 186 a s=Mx 6 a s:=Pj U iz iw a s
def iu:Ys U 133=some true:=It
def iq:size U 133=some 3:=It
def adM (a:AV)(s:St):UA U 133 a s=Mx 3 a s:=Pj U iu iq a s
def zb (x:Option AV)(s:St):Tx false x s=some (undef,s):=(λh=>h) rfl
def za (X:Cx)(x:Option AV)(f:FuncId)(args:List AV)(s:St):QX X false x f args s=some (undef,s):=(λh=>h) rfl
def tX (X:Cx)(x:Option AV)(f:FuncId)(args:List AV)(s:St):QX X true x f args s=Yx X x f args s:=(λh=>h) rfl
def St.upto (s:St)(k:Nat):St:={ s with next:=k }
def ZR (s:St)(k j:Nat):(s.upto k).get j=s.get j:=(λh=>h) rfl
def Z6 (s:St)(k:Nat):(s.upto k).next=k:=(λh=>h) rfl
def O0 {p:Prop}(h:p:=by first|omega|(simp only[Z',Z_,Z6]<;>omega)):p:=h
def y_ {X:Cx}{β:Type}(fin:Fl->β)(ks:List K)(e:Env)(s:St)(n:Nat)(l:List RO):go X fin ks (.Uu n l) e s=bif VO s.next s l then DK X fin ks s.next l e (s.upto (s.next+n)) else stuck X fin ks:=il X fin ks e s n l
def qy {n:Nat}(h:4<=n):U.K0 n=none:=by
 rw[KZ];unfold gbU ik
 match n,h with
 |n+4,_=>rfl
def Fr (s:St):Prop:=∀j,s.next<=j->s.get j=none
def Fr.at (h:Fr s)(k:Nat):s.get (s.next+k)=none:=h _ J
def Fr.own:Fr (Ym U):=λj hj=>by
 rw[Ba];rw[Gf,Ge] at hj;exact qy J
def Fr.new (h:Fr s)(x:Uf):Fr (s.new x):=λj hj=>by
 rw[Z'] at hj;rw[Z5,O3 J];exact h j J
def Fr.put (h:Fr s)(hk:k<s.next)(x:Uf):Fr (s.put k x):=λj hj=>by
 rw[Z_] at hj;rw[Z7,O3 J];exact h j J
def Fr.upto (h:Fr s)(hk:s.next<=k):Fr (s.upto k):=λj hj=>by
 rw[Z6] at hj;rw[ZR];exact h j J
attribute [go_sem ↓ high] y_
attribute [go_sem ↓] ZR Z6
attribute [go_sem] qy Option.isNone_none
attribute [go_sem ↓] zb za tX
attribute [go_sem] agG agH agI adJ adK iz iw adL iu iq adM
end Go.Am
namespace Go.Am
open Go
inductive Kd where
 |high|low|Gj|fall|pattern|enter|UB|gap|idle|setup|TC|Jl|nu|Gi|other
 deriving DecidableEq
def Zs (k:XJ):Kd :=
 br (k==[104,105,103,104]) .high <|
 br (k==[108,111,119]) .low <|
 br (k==[114,105,115,101]) .Gj <|
 br (k==[102,97,108,108]) .fall <|
 br (k==[112,97,116,116,101,114,110]) .pattern <|
 br (k==[101,110,116,101,114]) .enter <|
 br (k==[112,117,108,115,101]) .UB <|
 br (k==[103,97,112]) .gap <|
 br (k==[105,100,108,101]) .idle <|
 br (k==[115,101,116,117,112]) .setup <|
 br (k==[114,117,110,116]) .TC <|
 br (k==[110,111,116]) .Jl <|
 br (k==[97,108,108]) .nu <|
 br (k==[97,110,121]) .Gi <|
 .other
structure Uses where
 a:Bool
 b:Bool
 mi:Bool
 ma:Bool
 pat:Bool
 kids:Bool
def Yt:Kd->Uses
 |.high|.low|.Gj|.fall=>⟨true,false,false,false,false,false⟩
 |.pattern|.enter=>⟨false,false,false,false,true,false⟩
 |.UB|.gap=>⟨true,false,true,true,false,false⟩
 |.idle=>⟨true,false,true,false,false,false⟩
 |.setup=>⟨true,true,true,false,false,false⟩
 |.TC=>⟨true,true,false,false,false,false⟩
 |.Jl|.nu|.Gi=>⟨false,false,false,false,false,true⟩
 |.other=>⟨false,false,false,false,false,false⟩
def Kd.known:Kd->Bool
 |.other=>false
 |_=>true
def aat (k:XJ)(d:Kd):Prop:=Zs k=d/\(k==[104,105,103,104])=decide (d=.high)/\(k==[108,111,119])=decide (d=.low)/\(k==[114,105,115,101])=decide (d=.Gj)/\(k==[102,97,108,108])=decide (d=.fall)/\(k==[112,97,116,116,101,114,110])=decide (d=.pattern)/\(k==[101,110,116,101,114])=decide (d=.enter)/\(k==[112,117,108,115,101])=decide (d=.UB)/\(k==[103,97,112])=decide (d=.gap)/\(k==[105,100,108,101])=decide (d=.idle)/\(k==[115,101,116,117,112])=decide (d=.setup)/\(k==[114,117,110,116])=decide (d=.TC)/\(k==[110,111,116])=decide (d=.Jl)/\(k==[97,108,108])=decide (d=.nu)/\(k==[97,110,121])=decide (d=.Gi)
def Qn (k:XJ):aat k (Zs k):=by
 by_cases e0:k=[104,105,103,104]
 ·subst e0;exact⟨rfl,rfl,rfl,rfl,rfl,rfl,rfl,rfl,rfl,rfl,rfl,rfl,rfl,rfl,rfl⟩
 by_cases e1:k=[108,111,119]
 ·subst e1;exact⟨rfl,rfl,rfl,rfl,rfl,rfl,rfl,rfl,rfl,rfl,rfl,rfl,rfl,rfl,rfl⟩
 by_cases e2:k=[114,105,115,101]
 ·subst e2;exact⟨rfl,rfl,rfl,rfl,rfl,rfl,rfl,rfl,rfl,rfl,rfl,rfl,rfl,rfl,rfl⟩
 by_cases e3:k=[102,97,108,108]
 ·subst e3;exact⟨rfl,rfl,rfl,rfl,rfl,rfl,rfl,rfl,rfl,rfl,rfl,rfl,rfl,rfl,rfl⟩
 by_cases e4:k=[112,97,116,116,101,114,110]
 ·subst e4;exact⟨rfl,rfl,rfl,rfl,rfl,rfl,rfl,rfl,rfl,rfl,rfl,rfl,rfl,rfl,rfl⟩
 by_cases e5:k=[101,110,116,101,114]
 ·subst e5;exact⟨rfl,rfl,rfl,rfl,rfl,rfl,rfl,rfl,rfl,rfl,rfl,rfl,rfl,rfl,rfl⟩
 by_cases e6:k=[112,117,108,115,101]
 ·subst e6;exact⟨rfl,rfl,rfl,rfl,rfl,rfl,rfl,rfl,rfl,rfl,rfl,rfl,rfl,rfl,rfl⟩
 by_cases e7:k=[103,97,112]
 ·subst e7;exact⟨rfl,rfl,rfl,rfl,rfl,rfl,rfl,rfl,rfl,rfl,rfl,rfl,rfl,rfl,rfl⟩
 by_cases e8:k=[105,100,108,101]
 ·subst e8;exact⟨rfl,rfl,rfl,rfl,rfl,rfl,rfl,rfl,rfl,rfl,rfl,rfl,rfl,rfl,rfl⟩
 by_cases e9:k=[115,101,116,117,112]
 ·subst e9;exact⟨rfl,rfl,rfl,rfl,rfl,rfl,rfl,rfl,rfl,rfl,rfl,rfl,rfl,rfl,rfl⟩
 by_cases e10:k=[114,117,110,116]
 ·subst e10;exact⟨rfl,rfl,rfl,rfl,rfl,rfl,rfl,rfl,rfl,rfl,rfl,rfl,rfl,rfl,rfl⟩
 by_cases e11:k=[110,111,116]
 ·subst e11;exact⟨rfl,rfl,rfl,rfl,rfl,rfl,rfl,rfl,rfl,rfl,rfl,rfl,rfl,rfl,rfl⟩
 by_cases e12:k=[97,108,108]
 ·subst e12;exact⟨rfl,rfl,rfl,rfl,rfl,rfl,rfl,rfl,rfl,rfl,rfl,rfl,rfl,rfl,rfl⟩
 by_cases e13:k=[97,110,121]
 ·subst e13;exact⟨rfl,rfl,rfl,rfl,rfl,rfl,rfl,rfl,rfl,rfl,rfl,rfl,rfl,rfl,rfl⟩
 have f0:(k==[104,105,103,104])=false:=beq_eq_false_iff_ne.2 e0;have f1:(k==[108,111,119])=false:=beq_eq_false_iff_ne.2 e1;have f2:(k==[114,105,115,101])=false:=beq_eq_false_iff_ne.2 e2;have f3:(k==[102,97,108,108])=false:=beq_eq_false_iff_ne.2 e3;have f4:(k==[112,97,116,116,101,114,110])=false:=beq_eq_false_iff_ne.2 e4;have f5:(k==[101,110,116,101,114])=false:=beq_eq_false_iff_ne.2 e5;have f6:(k==[112,117,108,115,101])=false:=beq_eq_false_iff_ne.2 e6;have f7:(k==[103,97,112])=false:=beq_eq_false_iff_ne.2 e7;have f8:(k==[105,100,108,101])=false:=beq_eq_false_iff_ne.2 e8;have f9:(k==[115,101,116,117,112])=false:=beq_eq_false_iff_ne.2 e9;have f10:(k==[114,117,110,116])=false:=beq_eq_false_iff_ne.2 e10;have f11:(k==[110,111,116])=false:=beq_eq_false_iff_ne.2 e11;have f12:(k==[97,108,108])=false:=beq_eq_false_iff_ne.2 e12;have f13:(k==[97,110,121])=false:=beq_eq_false_iff_ne.2 e13;have hk:Zs k=.other:=by simp only[Zs,f0,f1,f2,f3,f4,f5,f6,f7,f8,f9,f10,f11,f12,f13,Zp]
 rw[hk];exact⟨hk,f0,f1,f2,f3,f4,f5,f6,f7,f8,f9,f10,f11,f12,f13⟩
def outside (n a b:Int):Bool:=decide (n<a)||decide (n>b)
def LS (s:XJ)(lines:Int):Bool:=(s.length:Int) != lines||s.any λc=>c != 48&&c != 49&&c != 120
mutual
def LK (lines:Int):Z0->Int->Int
 |.mk kind a b mi ma pat nl kids,depth =>
  let u:=Yt (Zs kind)
  let len:Int:=kids.length
  br (decide (depth>4)) 5 <|
  br (!(Zs kind).known) 13 <|
  br (!u.a&&a != 0||!u.b&&b != 0||!u.mi&&mi != 0||!u.ma&&ma != 0||!u.pat&&!pat==[]||!u.kids&&decide (len>0)) 2 <|
  br (u.a&&outside a 0 (IntKind.i64.wrap (lines-1))||u.b&&outside b 0 (IntKind.i64.wrap (lines-1))) 3 <|
  br (u.b&&a==b) 9 <|
  br (u.mi&&outside mi 1 255||u.ma&&outside ma 1 255) 3 <|
  br (u.ma&&decide (mi>ma)) 11 <|
  br (u.pat&&LS pat lines) 1 <|
  br (kind==[110,111,116]&&len != 1) 2 <|
  br (u.kids&&len==0) 12 <|
  br (u.kids&&decide (len>8)) 5 <|
  O4 lines kids (IntKind.i64.wrap (depth+1))
def O4 (lines:Int):List Z0->Int->Int
 |[],_=>0
 |c::l,depth=>br (LK lines c depth != 0) (LK lines c depth) (O4 lines l depth)
end
def YD:List Int->Int
 |[]=>0
 |e::l=>br (e != 0) e (YD l)
def within (n a b:Int):Int:=br (decide (n<a)||decide (n>b)) 3 0
def KX (lines:Int)(pat:XJ):Int:=br (LS pat lines) 1 0
mutual
def ckP (lines:Int):Z0->Int->Int
 |.mk kind a b mi ma pat nl kids,depth =>
  let u:=Yt (Zs kind)
  let len:Int:=kids.length
  let e0:=YD [br (decide (depth>4)) 5 0,br (!(Zs kind).known) 13 0]
  let e1:=YD [br (!u.a&&a != 0||!u.b&&b != 0||!u.mi&&mi != 0||!u.ma&&ma != 0||!u.pat&&!pat==[]||!u.kids&&decide (len>0)) 2 0,
   br (u.a&&(decide (a<0)||decide (a>=lines))) 3 0,br (u.b&&(decide (b<0)||decide (b>=lines))) 3 0,br (u.b&&a==b) 9 0,
   br (u.mi&&within mi 1 255 != 0) 3 0,br (u.ma&&within ma 1 255 != 0) 3 0,br (u.ma&&decide (mi>ma)) 11 0]
  let e2:=br u.pat (YD [e1,KX lines pat]) e1
  let e3:=br (kind==[110,111,116]) (br (len != 1) 2 0) (YD [br (len==0) 12 0,br (decide (len>8)) 5 0])
  br (e0 != 0) e0 <| br (e2 != 0||!u.kids) e2 <| LM lines kids (IntKind.i64.wrap (depth+1)) e3
def LM (lines:Int):List Z0->Int->Int->Int
 |[],_,e=>e
 |c::l,depth,e=>LM lines l depth (br (e==0) (ckP lines c depth) e)
end
def EK (lines depth:Int):∀(l:List Z0) (e:Int),e≠0->LM lines l depth e=e
 |[],e,h=>by simp[LM]
 |c::l,e,h=>by
  have:(e==0)=false:=by simp[h]
  rw[LM,this,Zp,EK lines depth l e h]
def ly:YD []=0:=rfl
def si {p:Bool}{e x:Int}{l:List Int}(h:(e != 0)=true):YD (br p e x::l)=br p e (YD (x::l)):=by
 cases p
 ·rfl
 ·rw[Yd,Yd,YD,h,Yd]
def se (l:List Int):YD (0::l)=YD l:=rfl
def abp (F:Int->Int)(hF:∀e,e≠0->F e=e){p:Bool}{e x:Int}(h:(e != 0)=true):F (br p e x)=br p e (F x):=by
 cases p
 ·rfl
 ·rw[Yd,Yd];exact hF _ (by simpa using h)
def abq {p:Bool}{e:Int}{x y:Int}(h:(e != 0)=true):br (br p e x != 0) (br p e x) y=br p e (br (x != 0) x y):=by
 cases p
 ·rfl
 ·rw[Yd,Yd,h,Yd]
def aiO {β:Type}(p q:Bool)(x y:β):br (p||q) x y=br p x (br q x y):=by cases p <;> cases q <;> rfl
def TA {β:Type}{p:Bool}{x y y':β}(h:p=false->y=y'):br p x y=br p x y':=by
 cases p
 ·rw[h rfl]
 ·rfl
def wO (k:XJ):(k==[110,111,116])=decide (Zs k=.Jl):=by
 obtain⟨h0,h1,h2,h3,h4,h5,h6,h7,h8,h9,h10,h11,h12,h13,h14⟩:=Qn k;exact h12
mutual
def adj (lines:Int)(hl:1<=lines)(DY:lines<=16):∀(c:Z0) (depth:Int),ckP lines c depth=LK lines c depth
 |.mk kind a b mi ma pat nl kids,depth=>by
  have ih:=eg lines hl DY kids (IntKind.i64.wrap (depth+1));have hw:IntKind.i64.wrap (lines-1)=lines-1:=wrap_i64 J J;have ho:∀x:Int,outside x 0 (lines-1)=(decide (x<0)||decide (x>=lines)):=λx=>by
   have:(x>lines-1)=(x>=lines):=by apply propext;omega
   simp only[outside,this]
  rw[ckP,LK];simp only[hw,ho,wO,<-ih];have hF:=EK lines (IntKind.i64.wrap (depth+1)) kids;have hF0:decide ((kids.length:Int)>0)=false->0=LM lines kids (IntKind.i64.wrap (depth+1)) 0:=λh=>by
   have:kids=[]:=by
    cases kids with
    |nil=>rfl
    |cons c l=>simp at h
   rw[this,LM]
  generalize LM lines kids (IntKind.i64.wrap (depth+1))=F at hF hF0;generalize (decide (a<0)||decide (a>=lines))=oa;generalize (decide (b<0)||decide (b>=lines))=ob;have uD:outside mi 1 255=(within mi 1 255 != 0):=by rw[within,outside];cases decide (mi<1)||decide (mi>255) <;> rfl
  have Jx:outside ma 1 255=(within ma 1 255 != 0):=by rw[within,outside];cases decide (ma<1)||decide (ma>255) <;> rfl
  rw[uD,Jx];generalize hK:Zs kind=K
  cases K <;> simp (decide:=true) only[Yt,Kd.known,aqB,aqF,aqr,aqK,aqE,Bool.or_false,Bool.true_or,Bool.or_true,Zp,Yd,si,se,aqk,aqQ,ly,abq,abp F hF,bne_self_eq_false,aiO,KX,decide_true,decide_false,reduceCtorEq]
  all_goals repeat' (refine TA λ_=>?_)
  all_goals first|rfl|(apply hF0;assumption)|skip
  rename_i hlen;have hlen:(kids.length:Int)=1:=by simpa using hlen
  rw[hlen];rfl
def eg (lines:Int)(hl:1<=lines)(DY:lines<=16):∀(l:List Z0) (depth:Int),LM lines l depth 0=O4 lines l depth
 |[],_=>by simp[LM,O4]
 |c::l,depth=>by
  have ih:=eg lines hl DY l depth;rw[LM,O4,adj lines hl DY c depth];simp only[BEq.rfl,Yd]
  cases h:LK lines c depth != 0
  ·have:LK lines c depth=0:=by simpa using h
   rw[Zp,this,ih]
  ·rw[Yd,EK]
   simpa using h
end
end Go.Am
