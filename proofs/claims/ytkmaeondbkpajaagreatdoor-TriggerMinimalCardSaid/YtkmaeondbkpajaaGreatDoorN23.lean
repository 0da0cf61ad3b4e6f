/- A part of the proof of a statement of this seat: the machine on which the program is read, and what it computes; for every input. -/
import Derived.Test.YtkmaeondbkpajaaGreatDoorN19
import Derived.Test.YtkmaeondbkpajaaGreatDoorN22
set_option linter.all false
namespace Go.Am
open Go
variable [Z3]
set_option maxRecDepth 100000
set_option maxHeartbeats 8000000
noncomputable def Ks:RC:=(oP [Mi 37 2 1 10 0,Ze 38 37,K' 39 3 38 0,om 40 39,E_ 41 40 2 1 10 0,Tk 42 40 41,P5 43 40 1 3,Tk 44 40 43,PZ 45 40 44,AU 46 40 3 42 45,Tj 47 40 46,om 48 47,E_ 49 48 2 1 10 1,Tk 50 48 49,oF 51 48 (.bin .lss 3 true (.t 50) (vI 0)),Tj 52 48 51,om 53 52,E_ 54 53 2 1 10 1,Tk 55 53 54,P5 56 53 1 4,Tk 57 53 56,PZ 58 53 57,AU 59 53 3 55 58,Tj 60 53 59,om 11 60])
noncomputable def BT:RC:=(sQ (.Wq 19 [om 61 11,Oi 62 85 61 10,om 63 9,Oc 64 3 63 0,om 65 64,VY 66 65 2,VY 67 65 9,ae_ 68 65 3 67 1,oT 69 65 (.raw (.call { callee:=.builtin .max,args:=#[(.const (.int .i64 0)),(.tmp 68)],argTypes:=#[3,3] })),RY 70 65 2 66 69,RZ 71 65 2 70,RZ 72 65 2 10,Iq 73 65 91 71 72,oT 74 65 (.bin .geq 3 true (.t 73) (vI 0)),TV 75 65 74,Oi 76 85 75 11,⟨some 77,none,some 16,false,.VC 26 1 2 [(iI 0),(iI 0)] [(0,1,(.t 62)),(1,1,(.t 76))]⟩,Vf 78 93 77,om 12 78]) (sO [om 79 12,Oa 80 26 79 0] (cT 80 (sO [om 81 12,om 6 81] .ret))))
noncomputable def AQ:RC:=(sO [om 85 2,Wj 86 85,Oc 87 3 86 0,om 88 87,VY 89 88 2,oT 90 88 (.XV 2 (.t 89) (vI 0)),RZ 91 88 2 90,oT 92 88 (.JE [(iI 0),(iI 0)] []),oT 93 88 (.bin .eql 55 false (.t 91) (.t 92)),TV 94 88 93,om 13 94] (sQ (sO [om 95 2,Wj 96 95,WZ 97 0] (.block 2 (.loop Nj))) (sO [om 154 13,Mj 155 154,Oi 156 85 155 21,om 6 156] .ret)))
theorem jT:r70=(sO [TW 3 42 0,TW 4 42 1,WZ 6 0] (sQ (sO [Xr 17 3 3,Xr 18 3 4,RL 19 83 17 18,om 20 2,Wj 21 20,Oc 22 3 21 65536,Oi 23 85 22 5,o 24 (.VC 26 1 2 [(iI 0),(iI 0)] [(0,1,(.t 19)),(1,1,(.t 23))]),Vf 25 93 24,om 7 25] (sO [om 26 7,Oa 27 26 26 0] (cT 27 (sO [om 28 7,om 6 28] .ret)))) (sO [vL 29 171,om 8 29] (sQ (sO [om 30 2,Wj 31 30,WZ 32 0] (.block 0 (.loop GU))) AQ)))):=rfl
theorem zl:GU=(sO [VF 33 3 32 31] (sQ (cS 33 (.exit 0)) (sQ (.block 1 (sO [om 34 32,YS 35 2 30 32,Xr 36 2 35,E' 10 0 0 55,om 9 34,U5 2 10 36] (sQ Ks (sQ BT (oP [om 82 8,Xr 83 2 10,af6 171 82 83]))))) (oP [Vw 84 3 32 1,om 32 84])))):=rfl
end Go.Am
