/- A part of the proof of a statement of this seat: the machine on which the program is read, and what it computes; for every input. -/
import Derived.Test.YtkmaeondbkpajaaGreatDoorN04
import Derived.Test.YtkmaeondbkpajaaGreatDoorN06
set_option linter.all false
namespace Go.Am
open Go
variable [Z3]
set_option maxRecDepth 100000
set_option maxHeartbeats 8000000
def Qj:RC:=(sO [VF 38 3 37 36] (sQ (cS 38 (.exit 2)) (sQ (.block 3 (sO [om 39 37,om 15 39] (sQ (sO [om 40 2,Xr 41 2 14,om 42 15,o 43 (.VW (.t 40) [(.t 41),(.t 42)]),Mj 44 43] (cT 44 (sO [om 45 13,om 46 15,Kl 47 3 1 1 0 0 1 46,om 11 45,om 12 47] (.exit 0)))) (sQ (.Wq 21 [YR 48 1 3,Ze 49 48,Mi 50 2 1 14 0,Ze 51 50,YS 52 1 49 51,Ze 53 52,om 54 15,YS 55 1 53 54,Ze 56 55,YR 57 1 4,Ze 58 57,Mi 59 2 1 14 1,Ze 60 59,YS 61 1 58 60,Ze 62 61,om 63 15,YS 64 1 62 63,Ze 65 64,o 66 (.JE [(iI 0),(iI 0)] [(0,1,(.t 56)),(1,1,(.t 65))]),⟨some 16,none,some 19,false,.al [(iI 0),(iI 0)] 164⟩,⟨none,none,none,true,.st 2 (.t 16) (.t 66)⟩]) (sO [om 67 8,Xr 68 2 16,af4 69 229 67 68,Mj 70 69] (cT 70 (sO [om 71 8,Xr 72 2 16,af6 229 71 72] (oP [om 73 9,Xr 74 2 16,xk 75 164 2 1 0 0 0 2 74,Pg 76 164 2 16 73 75,om 77 10,om 78 13,om 79 15,o 80 (.JE [(iI 0),(iI 0)] [(0,1,(.t 78)),(1,1,(.t 79))]),xk 81 231 2 1 0 0 0 2 80,Pg 82 231 2 16 77 81,om 9 76,om 10 82])))))))) (oP [Vw 83 3 37 1,om 37 83]))))
def Li:RC:=(sQ (sO [om 24 13,om 25 9,Wj 26 25,VF 27 3 24 26] (cS 27 (.exit 0))) (sQ (.block 1 (sO [om 30 9,om 31 13,YS 32 2 30 31,Xr 33 2 32,E' 14 0 0 164,U5 2 14 33] (sO [YR 34 0 3,Ze 35 34,AT 36 3 1 35,WZ 37 0] (.block 2 (.loop Qj))))) (oP [om 28 13,Vw 29 3 28 1,om 13 29])))
def OF:RC:=(sQ (sO [om 84 11,Oc 85 3 84 0] (cS 85 (.exit 4))) (sQ (.block 5 (oP [om 91 12,om 92 10,om 93 11,YS 94 2 92 93,YR 95 1 94,Ze 96 95,Kl 97 3 1 1 0 0 1 96,Pg 98 3 1 8 91 97,om 12 98])) (oP [om 86 10,om 87 11,YS 88 2 86 87,YR 89 0 88,Ze 90 89,om 11 90])))
def kD:RC:=(sO [TW 3 42 0,TW 4 42 1,Ra 6,Ra 7] (sO [vL 17 229,o 18 (.JE [(iI 0),(iI 0)] []),oS (.raw (.insert 229 (.tmp 17) (.tmp 18) (.const (.bool true)))),om 19 17,om 8 19] (sO [o 20 (.JE [(iI 0),(iI 0)] []),xk 21 164 2 1 0 0 0 2 20,o 22 (.JE [(iI 0),(iI 0)] [(0,1,(vI (-1))),(1,1,(vI 0))]),xk 23 231 2 1 0 0 0 2 22,om 9 21,om 10 23] (sO [o 11 (.Z1 (vI (-1)))] (sO [Ra 12] (sQ .skip (sQ (sO [WZ 13 0] (.block 0 (.loop Li))) (sQ (.block 4 (.loop OF)) (sO [om 99 12,Vf 100 149 99] (sO [om 101 9,om 102 12,om 6 101,om 7 102] .ret))))))))))
theorem ab0:YQ 86=some ([.tmp 6,.tmp 7],kD):=by kernel_rfl
def aaj:RC:=(sO [TW 2 42 0,TW 3 42 1,WZ 4 0] (sQ (.Wq 13 [Xr 5 3 2,Vf 6 94 5,Xr 7 3 3,Vf 8 94 7,YR 9 0 2,Ze 10 9,YR 11 0 3,Ze 12 11,Ml 13 3 10 12,Oi 14 85 13 2,⟨some 15,none,some 10,false,.VC 26 1 3 [(iI 0),(iI 0),(iI 0)] [(0,1,(.t 6)),(1,1,(.t 8)),(2,1,(.t 14))]⟩,Vf 16 93 15,om 4 16]) .ret))
theorem adj:YQ 83=some ([.tmp 4],aaj):=by kernel_rfl
def Ly:RC:=(sQ (sO [om 7 2,om 8 3,VF 9 3 7 8] (cS 9 (.exit 0))) (sQ (.block 1 (.Wq 16 [om 14 0,om 15 2,om 16 0,om 17 3,om 18 0,om 19 3,YS 20 1 18 19,Ze 21 20,om 22 0,om 23 2,YS 24 1 22 23,Ze 25 24,YS 26 1 14 15,⟨none,none,none,true,.st 1 (.t 26) (.t 21)⟩,YS 27 1 16 17,⟨none,none,none,true,.st 1 (.t 27) (.t 25)⟩])) (oP [om 10 2,Vw 11 3 10 1,om 12 3,Vz 13 3 12 1,om 2 11,om 3 13])))
def wN:RC:=(sO [om 4 0,Wj 5 4,Vz 6 3 5 1,WZ 2 0,om 3 6] (.block 0 (.loop Ly)))
theorem dG:YQ 149=some ([],wN):=by kernel_rfl
end Go.Am
