/- A part of the proof of a statement of this seat: the machine on which the program is read, and what it computes; for every input. -/
import Derived.Test.YtikiipfbkfgmbaaGreatDoorZ04
import Derived.Test.YtikiipfbkfgmbaaGreatDoorZ18
import Derived.Test.YtikiipfbkfgmbaaGreatDoorZ19
import Derived.Test.YtikiipfbkfgmbaaGreatDoorZ20
import Derived.Test.YtikiipfbkfgmbaaGreatDoorZ21
set_option linter.all false
namespace Go.Am
open Go
variable [Z4]
set_option maxRecDepth 100000
set_option maxHeartbeats 4000000
def r16:RC:=(sO [Zj 0] (sO [o 36 (.On [(.str []),(iI 0),(iI 0),(iI 0),(iI 0),(.str []),.ZW] [(0,1,(.v (.str [114,105,115,101])))]),Zc 37 76 36,o 38 (.On [(.str []),(iI 0),(iI 0),(iI 0),(iI 0),(.str []),.ZW] [(0,1,(.v (.str [104,105,103,104])))]),Zc 39 76 38,Gv 1 0 25,Gv 2 0 25,YT 2 1 37,YT 2 2 39] (sO [Zr 41 2 1,o 42 (.U3 3 1 5 [(iI 0),(iI 0),(iI 0),(iI 0),(iI 0)] [(0,1,(vI 0)),(1,1,(vI 1)),(2,1,(vI 1)),(3,1,(vI 0)),(4,1,(vI 1))]),Zb 43 32 41 42,om 40 43,YO 44 40 0,YO 45 40 1,om 3 44,om 4 45] (sO [Zr 47 2 1,Zc 48 40 47,om 46 48,YO 49 46 0,YO 50 46 1,Tf 5 0 69,YT 3 5 49,om 6 50] (sO [Zr 52 2 2,Zc 53 40 52,om 51 53,YO 54 51 0,YO 55 51 1,Tf 7 0 69,YT 3 7 54,om 8 55] (sO [Zr 57 2 1,Zc 58 65 57,om 56 58,YO 59 56 0,YO 60 56 1,om 9 59,om 10 60] (sO [o 61 (.U3 3 1 2 [(iI 0),(iI 0)] [(0,1,(vI 1)),(1,1,(vI 0))]),o 62 (.U3 3 1 2 [(iI 0),(iI 0)] [(0,1,(vI 1)),(1,1,(vI 0))]),o 63 (.U3 40 1 2 [.ZW,.ZW] [(0,1,(.t 61)),(1,1,(.t 62))]),o 64 (.U3 4 1 2 [bF,bF] [(0,1,vF),(1,1,vF)]),o 65 (.U3 4 1 2 [bF,bF] [(0,1,vF),(1,1,vT)]),o 66 (.U3 43 1 2 [.ZW,.ZW] [(0,1,(.t 64)),(1,1,(.t 65))]),o 67 (.On [(iI 0),.ZW,.ZW] [(0,1,(vI 1)),(1,1,(.t 63)),(2,1,(.t 66))]),Tf 11 0 72,YT 3 11 67] (sQ (sO [om 68 4,om 69 6,TL 70 26 68 69,om 71 8,TL 72 26 70 71,om 73 10,TL 74 26 72 73,TY 75 26 74 0,om 76 75,Yo 77 76 3,oF 78 76 (.U3 3 1 2 [(iI 0),(iI 0)] [(0,1,(vI 1)),(1,1,(vI 4))]),Gg 79 76 56 77 78,UA 80 76 79,Yp 81 76 80,om 82 81,Qq 83 82 3 5,Qq 84 82 3 11,Gg 85 82 60 83 84,UA 86 82 85,Yp 87 82 86,om 88 87,Yo 89 88 9,zp 90 88 3 89 3,Yp 91 88 90] (cT 91 (sO [Zj 0] .ret))) (sO [o 93 (.On [(.str []),(iI 0),(iI 0),(iI 0),(iI 0),(.str []),.ZW] [(0,1,(.v (.str [112,117,108,115,101]))),(3,1,(vI 2)),(4,1,(vI 2))]),o 94 (.U3 3 1 6 [(iI 0),(iI 0),(iI 0),(iI 0),(iI 0),(iI 0)] [(0,1,(vI 0)),(1,1,(vI 1)),(2,1,(vI 1)),(3,1,(vI 0)),(4,1,(vI 1)),(5,1,(vI 0))]),o 95 (.call 23 [(vI 1),(.t 93),(.t 94)]),om 92 95,YO 96 92 0,YO 97 92 1,om 12 96,om 13 97] (sO [o 99 (.On [(.str []),(iI 0),(iI 0),(iI 0),(iI 0),(.str []),.ZW] [(0,1,(.v (.str [114,117,110,116]))),(2,1,(vI 1))]),o 100 (.U3 3 1 4 [(iI 0),(iI 0),(iI 0),(iI 0)] [(0,1,(vI 0)),(1,1,(vI 1)),(2,1,(vI 1)),(3,1,(vI 0))]),o 101 (.call 23 [(vI 2),(.t 99),(.t 100)]),om 98 101,YO 102 98 0,YO 103 98 1,om 14 102,om 15 103] (sO [o 105 (.call 17 [(.v (.str [108,105,110,101,115,32,50,59,32,114,105,115,101,32,48,59,32,114,105,115,101,32,49,32,119,105,116,104,105,110,32,50,59]))]),om 104 105,YO 106 104 0,YO 107 104 1,YO 108 104 2,Gv 16 0 25,YT 2 16 106,om 17 107,om 18 108] (sO [Zr 110 2 16,o 111 (.U3 3 1 4 [(iI 0),(iI 0),(iI 0),(iI 0)] [(0,1,(vI 0)),(1,1,(vI 1)),(2,1,(vI 1)),(3,1,(vI 3))]),Zb 112 32 110 111,om 109 112,YO 113 109 0,YO 114 109 1,om 19 113,om 20 114] (sO [Zr 116 2 16,o 117 (.U3 3 1 5 [(iI 0),(iI 0),(iI 0),(iI 0),(iI 0)] [(0,1,(vI 0)),(1,1,(vI 1)),(2,1,(vI 1)),(3,1,(vI 1)),(4,1,(vI 3))]),Zb 118 32 116 117,om 115 118,YO 119 115 0,YO 120 115 1,om 21 119,om 22 120] (sO [Zr 122 3 5,Zr 123 3 7,Zb 124 68 122 123,om 121 124,YO 125 121 0,YO 126 121 1,om 23 125,om 24 126] (sO [Zr 128 3 5,Zc 129 47 128,om 127 129,YO 130 127 0,YO 131 127 1,om 25 130,om 26 131] (sO [Zr 133 3 5,Zc 134 48 133,om 132 134,YO 135 132 0,YO 136 132 1,om 27 135,om 28 136] (sO [Zr 138 3 5,Zr 139 3 7,Zb 140 46 138 139,om 137 140,YO 141 137 0,YO 142 137 1,Tf 29 0 69,YT 3 29 141,om 30 142] (sO [Zr 144 3 5,Zr 145 3 7,Zb 146 45 144 145,om 143 146,YO 147 143 0,YO 148 143 1,Tf 31 0 69,YT 3 31 147,om 32 148] (sO [o 150 (.call 17 [(.v (.str [108,105,110,101,115,32,49,59,32,114,105,122,101,32,48,59]))]),om 149 150,YO 151 149 0,YO 152 149 1,YO 153 149 2,Gv 33 0 25,YT 2 33 151,om 34 152,om 35 153] (sO [om 154 13,om 155 15,TL 156 26 154 155,om 157 18,TL 158 26 156 157,om 159 20,TL 160 26 158 159,om 161 22,TL 162 26 160 161,om 163 24,TL 164 26 162 163,om 165 26,TL 166 26 164 165,om 167 28,TL 168 26 166 167,om 169 30,TL 170 26 168 169,om 171 32,TL 172 26 170 171,VR 173 26 172 0,om 174 173,Zp 175 174 35,MP 176 174 26 175 25,YJ 177 174 176,om 178 177,Zp 179 178 34,MP 180 178 3 179 9,YJ 181 178 180,om 182 181,Zp 183 182 17,MP 184 182 3 183 0,YJ 185 182 184,om 186 185,Zp 187 186 12,oT 188 186 (.U3 4 1 6 [bF,bF,bF,bF,bF,bF] [(0,1,vF),(1,1,vF),(2,1,vF),(3,1,vT),(4,1,vF),(5,1,vF)]),Un 189 186 29 187 188,YJ 190 186 189,om 191 190,Zp 192 191 14,oT 193 191 (.U3 4 1 4 [bF,bF,bF,bF] [(0,1,vF),(1,1,vF),(2,1,vF),(3,1,vT)]),Un 194 191 29 192 193,YJ 195 191 194,om 196 195,Zp 197 196 19,oT 198 196 (.U3 3 1 1 [(iI 0)] [(0,1,(vI 3))]),Un 199 196 56 197 198,YJ 200 196 199,om 201 200,Zp 202 201 21,KX 203 201 202,MP 204 201 3 203 0,YJ 205 201 204,om 206 205,Zp 207 206 23,oT 208 206 (.U3 3 1 1 [(iI 0)] [(0,1,(vI 1))]),Un 209 206 56 207 208,YJ 210 206 209,om 211 210,Zp 212 211 25,oT 213 211 (.U3 3 1 2 [(iI 0),(iI 0)] [(0,1,(vI 0)),(1,1,(vI 1))]),Un 214 211 56 212 213,YJ 215 211 214,om 216 215,Zp 217 216 27,MP 218 216 3 217 2,YJ 219 216 218,om 220 219,Tg 221 220 3 29,Tg 222 220 3 11,Un 223 220 60 221 222,YJ 224 220 223,om 225 224,Tg 226 225 3 31,Tg 227 225 3 7,Un 228 225 60 226 227,YJ 229 225 228,om 0 229] .ret))))))))))))))))))))
theorem k16:Ze 16=some ([.tmp 0],r16):=by kernel_rfl
def ais:=VL (by kernel_rfl) (by kernel_rfl) (Za U aw0)
def ait:=VL (by kernel_rfl) (by kernel_rfl) (Za U aw1)
def aiu (s:St):=X0 U s (Za U aw2)
def aiv:=VL (by kernel_rfl) (by kernel_rfl) (Za U aw3)
def aiw:=VL (by kernel_rfl) (by kernel_rfl) (Za U aw4)
def aix:=VL (by kernel_rfl) (by kernel_rfl) (Za U aw5)
def aiy (s:St):=X0 U s (Za U aw6)
def aiz (s:St):=X0 U s (Za U aw7)
def aiA (s:St):=X0 U s (Za U aw8)
def aiB (s:St):=X0 U s (Za U aw9)
def aeC:=VL (by kernel_rfl) (by kernel_rfl) (Za U aiC)
def aeD (s:St):=X0 U s (Za U aiD)
def aeE (s:St):=X0 U s (Za U aiE)
def aeF:=VL (by kernel_rfl) (by kernel_rfl) (Za U aiF)
def aeG:=VL (by kernel_rfl) (by kernel_rfl) (Za U aiG)
def aeH:=VL (by kernel_rfl) (by kernel_rfl) (Za U aiH)
def aeI:=VL (by kernel_rfl) (by kernel_rfl) (Za U ahI)
def aeJ:=VL (by kernel_rfl) (by kernel_rfl) (Za U ahJ)
def aeK:=VL (by kernel_rfl) (by kernel_rfl) (Za U ahK)
def aeL (s:St):=X0 U s (Za U ahL)
def aeM (s:St):=X0 U s (Za U ahM)
def aeN (s:St):=X0 U s (Za U ahN)
def aeO (s:St):=X0 U s (Za U ahO)
def aeP (s:St):=X0 U s (Za U ahP)
def aeQ:=VL (by kernel_rfl) (by kernel_rfl) (Za U ahQ)
theorem z23 {args:List AV}{s:St}(h:ZU args=false):X6 U (ZE U 23 args) 23 args s=UR U 23 (Y' (Yn U s 40) args) s:=Ke (by kernel_rfl) s h
theorem z29 {args:List AV}{s:St}(h:ZU args=false):X6 U (ZE U 29 args) 29 args s=UR U 29 (Y' (Yn U s 40) args) s:=Ke (by kernel_rfl) s h
theorem z32 {args:List AV}{s:St}(h:ZU args=false):X6 U (ZE U 32 args) 32 args s=UR U 32 (Y' (Yn U s 40) args) s:=Ke (by kernel_rfl) s h
theorem z56 {args:List AV}{s:St}(h:ZU args=false):X6 U (ZE U 56 args) 56 args s=UR U 56 (Y' (Yn U s 40) args) s:=Ke (by kernel_rfl) s h
theorem z60 {args:List AV}{s:St}(h:ZU args=false):X6 U (ZE U 60 args) 60 args s=UR U 60 (Y' (Yn U s 40) args) s:=Ke (by kernel_rfl) s h
theorem aom {p:Bool}{args:List AV}{s:St}(h:ZU args=false):OU U p (ZE U 23 args) 23 args s=Dw p (UR U 23 (Y' (Yn U s 40) args) s) s:=lr (by kernel_rfl) s h
theorem aiI {p:Bool}{args:List AV}{s:St}(h:ZU args=false):OU U p (ZE U 29 args) 29 args s=Dw p (UR U 29 (Y' (Yn U s 40) args) s) s:=lr (by kernel_rfl) s h
theorem aon {p:Bool}{args:List AV}{s:St}(h:ZU args=false):OU U p (ZE U 32 args) 32 args s=Dw p (UR U 32 (Y' (Yn U s 40) args) s) s:=lr (by kernel_rfl) s h
theorem aiJ {p:Bool}{args:List AV}{s:St}(h:ZU args=false):OU U p (ZE U 56 args) 56 args s=Dw p (UR U 56 (Y' (Yn U s 40) args) s) s:=lr (by kernel_rfl) s h
theorem aiK {p:Bool}{args:List AV}{s:St}(h:ZU args=false):OU U p (ZE U 60 args) 60 args s=Dw p (UR U 60 (Y' (Yn U s 40) args) s) s:=lr (by kernel_rfl) s h
theorem wrap_zero:IntKind.i64.wrap 0=0:=rfl
theorem lS:ZE U 16 []=some bT:=by
 refine ZR k16 (by kernel_rfl) rfl ?_;simp only[go_sem,r16,wrap_zero,ais,ait,aiu,aiv,aiw,aix,aiy,aiz,aiA,aiB,aeC,aeD,aeE,aeF,aeG,aeH,aeI,aeJ,aeK,aeL,aeM,aeN,aeO,aeP,aeQ,aom,aiI,aon,aiJ,aiK,z23,z29,z32,z56,z60]
 trace_state
end Go.Am
