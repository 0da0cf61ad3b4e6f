/- A part of the proof. -/
import Derived.Test.YtkmaeondbkpajaaGreatDoorE06
set_option linter.all false
set_option maxHeartbeats 8000000
set_option maxRecDepth 100000
namespace Go.Am
open Go
variable [Z8]
def aeo:RC:=(sO [YL 1 42 0,RQ 2 0 42,ZA 3 0] (sQ (sO [ZO 4 1 1,ZX 5 4,Za 6 5,Wx 7 3 6 256] (cT 7 (sO [o 8 (.RR [(iI 0),.ZQ,.ZQ] []),YC 3 2 8,ZA 3 5] .ret))) (sO [Zw 9 3 1,YC 3 2 9,ZA 3 0] .ret)))
def ahD:Zm 62=some ([.cell 2 42,.tmp 3],aeo):=It
def MB:RC:=(sO [Y_ 38 3 37 36] (sQ (cS 38 (.exit 2)) (sQ (.block 3 (sO [om 39 37,om 15 39] (sQ (sO [om 40 2,Zw 41 2 14,om 42 15,o 43 (.Rg (.t 40) [(.t 41),(.t 42)]),WU 44 43] (cT 44 (sO [om 45 13,om 46 15,PE 47 3 1 1 0 0 1 46,om 11 45,om 12 47] (.exit 0)))) (sQ (.Uu 21 [ZO 48 1 3,ZX 49 48,T6 50 2 1 14 0,ZX 51 50,Zq 52 1 49 51,ZX 53 52,om 54 15,Zq 55 1 53 54,ZX 56 55,ZO 57 1 4,ZX 58 57,T6 59 2 1 14 1,ZX 60 59,Zq 61 1 58 60,ZX 62 61,om 63 15,Zq 64 1 62 63,ZX 65 64,o 66 (.RR [(iI 0),(iI 0)] [(0,1,(.t 56)),(1,1,(.t 65))]),⟨some 16,none,some 19,false,.al [(iI 0),(iI 0)] 164⟩,⟨none,none,none,true,.st 2 (.t 16) (.t 66)⟩]) (sO [om 67 8,Zw 68 2 16,BX 69 229 67 68,WU 70 69] (cT 70 (sO [om 71 8,Zw 72 2 16,eJ 229 71 72] (oP [om 73 9,Zw 74 2 16,CX 75 164 2 1 0 0 0 2 74,VN 76 164 2 16 73 75,om 77 10,om 78 13,om 79 15,o 80 (.RR [(iI 0),(iI 0)] [(0,1,(.t 78)),(1,1,(.t 79))]),CX 81 231 2 1 0 0 0 2 80,VN 82 231 2 16 77 81,om 9 76,om 10 82])))))))) (oP [YM 83 3 37 1,om 37 83]))))
def GC:RC:=(sQ (sO [om 24 13,om 25 9,Za 26 25,Y_ 27 3 24 26] (cS 27 (.exit 0))) (sQ (.block 1 (sO [om 30 9,om 31 13,Zq 32 2 30 31,Zw 33 2 32,Ga 14 0 0 164,YC 2 14 33] (sO [ZO 34 0 3,ZX 35 34,Oc 36 3 1 35,ZA 37 0] (.block 2 (.loop MB))))) (oP [om 28 13,YM 29 3 28 1,om 13 29])))
def Kl:RC:=(sQ (sO [om 84 11,Wx 85 3 84 0] (cS 85 (.exit 4))) (sQ (.block 5 (oP [om 91 12,om 92 10,om 93 11,Zq 94 2 92 93,ZO 95 1 94,ZX 96 95,PE 97 3 1 1 0 0 1 96,VN 98 3 1 8 91 97,om 12 98])) (oP [om 86 10,om 87 11,Zq 88 2 86 87,ZO 89 0 88,ZX 90 89,om 11 90])))
def aey:RC:=(sO [YL 3 42 0,YL 4 42 1,XF 6,XF 7] (sO [BY 17 229,o 18 (.RR [(iI 0),(iI 0)] []),oS (.raw (.insert 229 (.tmp 17) (.tmp 18) (.const (.bool true)))),om 19 17,om 8 19] (sO [o 20 (.RR [(iI 0),(iI 0)] []),CX 21 164 2 1 0 0 0 2 20,o 22 (.RR [(iI 0),(iI 0)] [(0,1,(vI (-1))),(1,1,(vI 0))]),CX 23 231 2 1 0 0 0 2 22,om 9 21,om 10 23] (sO [o 11 (.Qq (vI (-1)))] (sO [XF 12] (sQ .skip (sQ (sO [ZA 13 0] (.block 0 (.loop GC))) (sQ (.block 4 (.loop Kl)) (sO [om 99 12,Zk 100 149 99] (sO [om 101 9,om 102 12,om 6 101,om 7 102] .ret))))))))))
def al3:Zm 86=some ([.tmp 6,.tmp 7],aey):=It
def ajA:RC:=(sO [YL 2 42 0,YL 3 42 1,ZA 4 0] (sQ (.Uu 13 [Zw 5 3 2,Zk 6 94 5,Zw 7 3 3,Zk 8 94 7,ZO 9 0 2,ZX 10 9,ZO 11 0 3,ZX 12 11,S5 13 3 10 12,Xl 14 85 13 2,⟨some 15,none,some 10,false,.Uc 26 1 3 [(iI 0),(iI 0),(iI 0)] [(0,1,(.t 6)),(1,1,(.t 8)),(2,1,(.t 14))]⟩,Zk 16 93 15,om 4 16]) .ret))
def anW:Zm 83=some ([.tmp 4],ajA):=It
def GV:RC:=(sQ (sO [om 7 2,om 8 3,Y_ 9 3 7 8] (cS 9 (.exit 0))) (sQ (.block 1 (.Uu 16 [om 14 0,om 15 2,om 16 0,om 17 3,om 18 0,om 19 3,Zq 20 1 18 19,ZX 21 20,om 22 0,om 23 2,Zq 24 1 22 23,ZX 25 24,Zq 26 1 14 15,⟨none,none,none,true,.st 1 (.t 26) (.t 21)⟩,Zq 27 1 16 17,⟨none,none,none,true,.st 1 (.t 27) (.t 25)⟩])) (oP [om 10 2,YM 11 3 10 1,om 12 3,Wy 13 3 12 1,om 2 11,om 3 13])))
def fL:RC:=(sO [om 4 0,Za 5 4,Wy 6 3 5 1,ZA 2 0,om 3 6] (.block 0 (.loop GV)))
def ahv:Zm 149=some ([],fL):=It
end Go.Am
