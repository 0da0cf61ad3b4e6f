/- A part of the proof. -/
import Derived.Test.YtkmaeondbkpajaaGreatDoorE26
set_option linter.all false
set_option maxHeartbeats 8000000
set_option maxRecDepth 100000
namespace Go.Am
open Go
variable [Z8]
noncomputable def Fh:RC:=(oP [T6 37 2 1 10 0,ZX 38 37,L5 39 3 38 0,om 40 39,PO 41 40 2 1 10 0,Yq 42 40 41,Xv 43 40 1 3,Yq 44 40 43,Tv 45 40 44,HT 46 40 3 42 45,YO 47 40 46,om 48 47,PO 49 48 2 1 10 1,Yq 50 48 49,oF 51 48 (.bin .lss 3 true (.t 50) (vI 0)),YO 52 48 51,om 53 52,PO 54 53 2 1 10 1,Yq 55 53 54,Xv 56 53 1 4,Yq 57 53 56,Tv 58 53 57,HT 59 53 3 55 58,YO 60 53 59,om 11 60])
noncomputable def qG:RC:=(sQ (.Uu 19 [om 61 11,Xl 62 85 61 10,om 63 9,Wx 64 3 63 0,om 65 64,YV 66 65 2,YV 67 65 9,KS 68 65 3 67 1,oT 69 65 (.raw (.call { callee:=.builtin .max,args:=#[(.const (.int .i64 0)),(.tmp 68)],argTypes:=#[3,3] })),Tw 70 65 2 66 69,Wg 71 65 2 70,Wg 72 65 2 10,Tt 73 65 91 71 72,oT 74 65 (.bin .geq 3 true (.t 73) (vI 0)),YP 75 65 74,Xl 76 85 75 11,⟨some 77,none,some 16,false,.Uc 26 1 2 [(iI 0),(iI 0)] [(0,1,(.t 62)),(1,1,(.t 76))]⟩,Zk 78 93 77,om 12 78]) (sO [om 79 12,Vp 80 26 79 0] (cT 80 (sO [om 81 12,om 6 81] .ret))))
noncomputable def oJ:RC:=(sO [om 85 2,Za 86 85,Wx 87 3 86 0,om 88 87,YV 89 88 2,oT 90 88 (.FI 2 (.t 89) (vI 0)),Wg 91 88 2 90,oT 92 88 (.RR [(iI 0),(iI 0)] []),KU 93 88 55 91 92,YP 94 88 93,om 13 94] (sQ (sO [om 95 2,Za 96 95,ZA 97 0] (.block 2 (.loop IV))) (sO [om 154 13,WU 155 154,Xl 156 85 155 21,om 6 156] .ret)))
def aeY:r70=(sO [YL 3 42 0,YL 4 42 1,ZA 6 0] (sQ (sO [Zw 17 3 3,Zw 18 3 4,YU 19 83 17 18,om 20 2,Za 21 20,Wx 22 3 21 65536,Xl 23 85 22 5,yg 24 26 1 2 0 0 0 1 19 1 1 23,Zk 25 93 24,om 7 25] (sO [om 26 7,Vp 27 26 26 0] (cT 27 (sO [om 28 7,om 6 28] .ret)))) (sO [BY 29 171,om 8 29] (sQ (sO [om 30 2,Za 31 30,ZA 32 0] (.block 0 (.loop zV))) oJ)))):=rfl
def lq:zV=(sO [Y_ 33 3 32 31] (sQ (cS 33 (.exit 0)) (sQ (.block 1 (sO [om 34 32,Zq 35 2 30 32,Zw 36 2 35,Ga 10 0 0 55,om 9 34,YC 2 10 36] (sQ Fh (sQ qG (oP [om 82 8,Zw 83 2 10,eJ 171 82 83]))))) (oP [YM 84 3 32 1,om 32 84])))):=rfl
end Go.Am
