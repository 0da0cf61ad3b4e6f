/- A part of the proof of a statement of this seat: the machine on which the program is read, and what it computes; for every input. -/
import Derived.Test.YtkmaeondbkpajaaGreatDoorN04
import Derived.Test.YtkmaeondbkpajaaGreatDoorN27
import Derived.Test.YtkmaeondbkpajaaGreatDoorN28
import Derived.Test.YtkmaeondbkpajaaGreatDoorN29
import Derived.Test.YtkmaeondbkpajaaGreatDoorN30
set_option linter.all false
namespace Go.Am
open Go
variable [Z3]
set_option maxRecDepth 100000
set_option maxHeartbeats 4000000
def r16:RC:=(sO [UE 0] (sO [o 36 (.JE [(.str []),(iI 0),(iI 0),(iI 0),(iI 0),(.str []),.ZR] [(0,1,(.v (.str [114,105,115,101])))]),Vf 37 37 36,o 38 (.JE [(.str []),(iI 0),(iI 0),(iI 0),(iI 0),(.str []),.ZR] [(0,1,(.v (.str [104,105,103,104])))]),Vf 39 37 38,o 1 (.al [(iI 0),.ZR] 25),o 2 (.al [(iI 0),.ZR] 25),U5 2 1 37,U5 2 2 39] (sO [Xr 41 2 1,o 42 (.VC 3 1 5 [(iI 0),(iI 0),(iI 0),(iI 0),(iI 0)] [(0,1,(vI 0)),(1,1,(vI 1)),(2,1,(vI 1)),(3,1,(vI 0)),(4,1,(vI 1))]),RL 43 18 41 42,om 40 43,U1 44 40 0,U1 45 40 1,om 3 44,om 4 45] (sO [Xr 47 2 1,Vf 48 16 47,om 46 48,U1 49 46 0,U1 50 46 1,Ob 5 0 42,U5 3 5 49,om 6 50] (sO [Xr 52 2 2,Vf 53 16 52,om 51 53,U1 54 51 0,U1 55 51 1,Ob 7 0 42,U5 3 7 54,om 8 55] (sO [Xr 57 2 1,Vf 58 38 57,om 56 58,U1 59 56 0,U1 60 56 1,om 9 59,om 10 60] (sO [o 61 (.VC 3 1 2 [(iI 0),(iI 0)] [(0,1,(vI 1)),(1,1,(vI 0))]),o 62 (.VC 3 1 2 [(iI 0),(iI 0)] [(0,1,(vI 1)),(1,1,(vI 0))]),o 63 (.VC 48 1 2 [.ZR,.ZR] [(0,1,(.t 61)),(1,1,(.t 62))]),o 64 (.VC 4 1 2 [bF,bF] [(0,1,vF),(1,1,vF)]),o 65 (.VC 4 1 2 [bF,bF] [(0,1,vF),(1,1,vT)]),o 66 (.VC 72 1 2 [.ZR,.ZR] [(0,1,(.t 64)),(1,1,(.t 65))]),o 67 (.JE [(iI 0),.ZR,.ZR] [(0,1,(vI 1)),(1,1,(.t 63)),(2,1,(.t 66))]),Ob 11 0 46,U5 3 11 67] (sQ (sO [om 68 4,om 69 6,UD 70 26 68 69,om 71 8,UD 72 26 70 71,om 73 10,UD 74 26 72 73,Oa 75 26 74 0,om 76 75,Mh 77 76 3,oF 78 76 (.VC 3 1 2 [(iI 0),(iI 0)] [(0,1,(vI 1)),(1,1,(vI 4))]),oF 79 76 (.call 32 [(.t 77),(.t 78)]),oF 80 76 (.un .not (.t 79)),Tj 81 76 80,om 82 81,I5 83 82 3 5,I5 84 82 3 11,oF 85 82 (.call 29 [(.t 83),(.t 84)]),oF 86 82 (.un .not (.t 85)),Tj 87 82 86,om 88 87,Mh 89 88 9,af1 90 88 3 89 3,Tj 91 88 90] (cT 91 (sO [UE 0] .ret))) (sO [o 93 (.JE [(.str []),(iI 0),(iI 0),(iI 0),(iI 0),(.str []),.ZR] [(0,1,(.v (.str [112,117,108,115,101]))),(3,1,(vI 2)),(4,1,(vI 2))]),o 94 (.VC 3 1 6 [(iI 0),(iI 0),(iI 0),(iI 0),(iI 0),(iI 0)] [(0,1,(vI 0)),(1,1,(vI 1)),(2,1,(vI 1)),(3,1,(vI 0)),(4,1,(vI 1)),(5,1,(vI 0))]),o 95 (.call 39 [(vI 1),(.t 93),(.t 94)]),om 92 95,U1 96 92 0,U1 97 92 1,om 12 96,om 13 97] (sO [o 99 (.JE [(.str []),(iI 0),(iI 0),(iI 0),(iI 0),(.str []),.ZR] [(0,1,(.v (.str [114,117,110,116]))),(2,1,(vI 1))]),o 100 (.VC 3 1 4 [(iI 0),(iI 0),(iI 0),(iI 0)] [(0,1,(vI 0)),(1,1,(vI 1)),(2,1,(vI 1)),(3,1,(vI 0))]),o 101 (.call 39 [(vI 2),(.t 99),(.t 100)]),om 98 101,U1 102 98 0,U1 103 98 1,om 14 102,om 15 103] (sO [o 105 (.call 9 [(.v (.str [108,105,110,101,115,32,50,59,32,114,105,115,101,32,48,59,32,114,105,115,101,32,49,32,119,105,116,104,105,110,32,50,59]))]),om 104 105,U1 106 104 0,U1 107 104 1,U1 108 104 2,o 16 (.al [(iI 0),.ZR] 25),U5 2 16 106,om 17 107,om 18 108] (sO [Xr 110 2 16,o 111 (.VC 3 1 4 [(iI 0),(iI 0),(iI 0),(iI 0)] [(0,1,(vI 0)),(1,1,(vI 1)),(2,1,(vI 1)),(3,1,(vI 3))]),RL 112 18 110 111,om 109 112,U1 113 109 0,U1 114 109 1,om 19 113,om 20 114] (sO [Xr 116 2 16,o 117 (.VC 3 1 5 [(iI 0),(iI 0),(iI 0),(iI 0),(iI 0)] [(0,1,(vI 0)),(1,1,(vI 1)),(2,1,(vI 1)),(3,1,(vI 1)),(4,1,(vI 3))]),RL 118 18 116 117,om 115 118,U1 119 115 0,U1 120 115 1,om 21 119,om 22 120] (sO [Xr 122 3 5,Xr 123 3 7,RL 124 27 122 123,om 121 124,U1 125 121 0,U1 126 121 1,om 23 125,om 24 126] (sO [Xr 128 3 5,Vf 129 40 128,om 127 129,U1 130 127 0,U1 131 127 1,om 25 130,om 26 131] (sO [Xr 133 3 5,Vf 134 41 133,om 132 134,U1 135 132 0,U1 136 132 1,om 27 135,om 28 136] (sO [Xr 138 3 5,Xr 139 3 7,RL 140 42 138 139,om 137 140,U1 141 137 0,U1 142 137 1,Ob 29 0 42,U5 3 29 141,om 30 142] (sO [Xr 144 3 5,Xr 145 3 7,RL 146 43 144 145,om 143 146,U1 147 143 0,U1 148 143 1,Ob 31 0 42,U5 3 31 147,om 32 148] (sO [o 150 (.call 9 [(.v (.str [108,105,110,101,115,32,49,59,32,114,105,122,101,32,48,59]))]),om 149 150,U1 151 149 0,U1 152 149 1,U1 153 149 2,o 33 (.al [(iI 0),.ZR] 25),U5 2 33 151,om 34 152,om 35 153] (sO [om 154 13,om 155 15,UD 156 26 154 155,om 157 18,UD 158 26 156 157,om 159 20,UD 160 26 158 159,om 161 22,UD 162 26 160 161,om 163 24,UD 164 26 162 163,om 165 26,UD 166 26 164 165,om 167 28,UD 168 26 166 167,om 169 30,UD 170 26 168 169,om 171 32,UD 172 26 170 171,Mg 173 26 172 0,om 174 173,VY 175 174 35,BW 176 174 26 175 25,TV 177 174 176,om 178 177,VY 179 178 34,BW 180 178 3 179 9,TV 181 178 180,om 182 181,VY 183 182 17,BW 184 182 3 183 0,TV 185 182 184,om 186 185,VY 187 186 12,oT 188 186 (.VC 4 1 6 [bF,bF,bF,bF,bF,bF] [(0,1,vF),(1,1,vF),(2,1,vF),(3,1,vT),(4,1,vF),(5,1,vF)]),Iq 189 186 44 187 188,TV 190 186 189,om 191 190,VY 192 191 14,oT 193 191 (.VC 4 1 4 [bF,bF,bF,bF] [(0,1,vF),(1,1,vF),(2,1,vF),(3,1,vT)]),Iq 194 191 44 192 193,TV 195 191 194,om 196 195,VY 197 196 19,oT 198 196 (.VC 3 1 1 [(iI 0)] [(0,1,(vI 3))]),Iq 199 196 32 197 198,TV 200 196 199,om 201 200,VY 202 201 21,oT 203 201 (.Zf (.t 202)),BW 204 201 3 203 0,TV 205 201 204,om 206 205,VY 207 206 23,oT 208 206 (.VC 3 1 1 [(iI 0)] [(0,1,(vI 1))]),Iq 209 206 32 207 208,TV 210 206 209,om 211 210,VY 212 211 25,oT 213 211 (.VC 3 1 2 [(iI 0),(iI 0)] [(0,1,(vI 0)),(1,1,(vI 1))]),Iq 214 211 32 212 213,TV 215 211 214,om 216 215,VY 217 216 27,BW 218 216 3 217 2,TV 219 216 218,om 220 219,RZ 221 220 3 29,RZ 222 220 3 11,Iq 223 220 29 221 222,TV 224 220 223,om 225 224,RZ 226 225 3 31,RZ 227 225 3 7,Iq 228 225 29 226 227,TV 229 225 228,om 0 229] .ret))))))))))))))))))))
theorem k16:YQ 8=some ([.tmp 0],r16):=by kernel_rfl
def ab7:=Wn (by kernel_rfl) (by kernel_rfl) (Zo U aw0)
def ab8:=Wn (by kernel_rfl) (by kernel_rfl) (Zo U aw1)
def ab9 (s:St):=Yk U s (Zo U aw2)
def ab_:=Wn (by kernel_rfl) (by kernel_rfl) (Zo U aw3)
def ab':=Wn (by kernel_rfl) (by kernel_rfl) (Zo U aw4)
def aca:=Wn (by kernel_rfl) (by kernel_rfl) (Zo U aw5)
def acb (s:St):=Yk U s (Zo U aw6)
def acd (s:St):=Yk U s (Zo U aw7)
def ace (s:St):=Yk U s (Zo U aw8)
def acf (s:St):=Yk U s (Zo U aw9)
def cB:=Wn (by kernel_rfl) (by kernel_rfl) (Zo U acg)
def cA (s:St):=Yk U s (Zo U ach)
def cz (s:St):=Yk U s (Zo U aci)
def cy:=Wn (by kernel_rfl) (by kernel_rfl) (Zo U acj)
def cx:=Wn (by kernel_rfl) (by kernel_rfl) (Zo U ack)
def ct:=Wn (by kernel_rfl) (by kernel_rfl) (Zo U acm)
def cr:=Wn (by kernel_rfl) (by kernel_rfl) (Zo U abp)
def cq:=Wn (by kernel_rfl) (by kernel_rfl) (Zo U abq)
def cp:=Wn (by kernel_rfl) (by kernel_rfl) (Zo U abr)
def ck (s:St):=Yk U s (Zo U abt)
def b_ (s:St):=Yk U s (Zo U abu)
def bZ (s:St):=Yk U s (Zo U abv)
def bY (s:St):=Yk U s (Zo U abw)
def bW (s:St):=Yk U s (Zo U abx)
def bV:=Wn (by kernel_rfl) (by kernel_rfl) (Zo U aby)
theorem z23 {args:List AV}{s:St}(h:ZK args=false):YX U (Zv U 39 args) 39 args s=UC U 39 (Zg (YG U s 40) args) s:=Jv (by kernel_rfl) s h
theorem z29 {args:List AV}{s:St}(h:ZK args=false):YX U (Zv U 44 args) 44 args s=UC U 44 (Zg (YG U s 40) args) s:=Jv (by kernel_rfl) s h
theorem z32 {args:List AV}{s:St}(h:ZK args=false):YX U (Zv U 18 args) 18 args s=UC U 18 (Zg (YG U s 40) args) s:=Jv (by kernel_rfl) s h
theorem z56 {args:List AV}{s:St}(h:ZK args=false):YX U (Zv U 32 args) 32 args s=UC U 32 (Zg (YG U s 40) args) s:=Jv (by kernel_rfl) s h
theorem z60 {args:List AV}{s:St}(h:ZK args=false):YX U (Zv U 29 args) 29 args s=UC U 29 (Zg (YG U s 40) args) s:=Jv (by kernel_rfl) s h
theorem acn {p:Bool}{args:List AV}{s:St}(h:ZK args=false):S1 U p (Zv U 39 args) 39 args s=Mn p (UC U 39 (Zg (YG U s 40) args) s) s:=Ff (by kernel_rfl) s h
theorem aco {p:Bool}{args:List AV}{s:St}(h:ZK args=false):S1 U p (Zv U 44 args) 44 args s=Mn p (UC U 44 (Zg (YG U s 40) args) s) s:=Ff (by kernel_rfl) s h
theorem acp {p:Bool}{args:List AV}{s:St}(h:ZK args=false):S1 U p (Zv U 18 args) 18 args s=Mn p (UC U 18 (Zg (YG U s 40) args) s) s:=Ff (by kernel_rfl) s h
theorem acq {p:Bool}{args:List AV}{s:St}(h:ZK args=false):S1 U p (Zv U 32 args) 32 args s=Mn p (UC U 32 (Zg (YG U s 40) args) s) s:=Ff (by kernel_rfl) s h
theorem acr {p:Bool}{args:List AV}{s:St}(h:ZK args=false):S1 U p (Zv U 29 args) 29 args s=Mn p (UC U 29 (Zg (YG U s 40) args) s) s:=Ff (by kernel_rfl) s h
theorem wrap_zero:IntKind.i64.wrap 0=0:=rfl
theorem vU:Zv U 8 []=some bT:=by
 refine Za k16 (by kernel_rfl) rfl ?_;simp only[go_sem,r16,wrap_zero,ab7,ab8,ab9,ab_,ab',aca,acb,acd,ace,acf,cB,cA,cz,cy,cx,ct,cr,cq,cp,ck,b_,bZ,bY,bW,bV,acn,aco,acp,acq,acr,z23,z29,z32,z56,z60]
 trace_state
end Go.Am
