/- A part of the proof. -/
import Derived.Test.YtkmaeondbkpajaaGreatDoorE04
import Derived.Test.YtkmaeondbkpajaaGreatDoorE20
import Derived.Test.YtkmaeondbkpajaaGreatDoorE21
import Derived.Test.YtkmaeondbkpajaaGreatDoorE22
import Derived.Test.YtkmaeondbkpajaaGreatDoorE23
set_option linter.all false
set_option maxHeartbeats 8000000
set_option maxRecDepth 100000
namespace Go.Am
open Go
variable [Z8]
variable {s:St}{args:List AV}
def r16:RC:=(sO [Zf 0] (sO [o 36 (.RR [(.str []),(iI 0),(iI 0),(iI 0),(iI 0),(.str []),.ZQ] [(0,1,(.v (.str [114,105,115,101])))]),Zk 37 37 36,o 38 (.RR [(.str []),(iI 0),(iI 0),(iI 0),(iI 0),(.str []),.ZQ] [(0,1,(.v (.str [104,105,103,104])))]),Zk 39 37 38,Cc 1 0 25,Cc 2 0 25,YC 2 1 37,YC 2 2 39] (sO [Zw 41 2 1,o 42 (.Uc 3 1 5 [(iI 0),(iI 0),(iI 0),(iI 0),(iI 0)] [(0,1,(vI 0)),(1,1,(vI 1)),(2,1,(vI 1)),(3,1,(vI 0)),(4,1,(vI 1))]),YU 43 18 41 42,om 40 43,YN 44 40 0,YN 45 40 1,om 3 44,om 4 45] (sO [Zw 47 2 1,Zk 48 16 47,om 46 48,YN 49 46 0,YN 50 46 1,RQ 5 0 42,YC 3 5 49,om 6 50] (sO [Zw 52 2 2,Zk 53 16 52,om 51 53,YN 54 51 0,YN 55 51 1,RQ 7 0 42,YC 3 7 54,om 8 55] (sO [Zw 57 2 1,Zk 58 38 57,om 56 58,YN 59 56 0,YN 60 56 1,om 9 59,om 10 60] (sO [o 61 (.Uc 3 1 2 [(iI 0),(iI 0)] [(0,1,(vI 1)),(1,1,(vI 0))]),o 62 (.Uc 3 1 2 [(iI 0),(iI 0)] [(0,1,(vI 1)),(1,1,(vI 0))]),o 63 (.Uc 48 1 2 [.ZQ,.ZQ] [(0,1,(.t 61)),(1,1,(.t 62))]),o 64 (.Uc 4 1 2 [bF,bF] [(0,1,vF),(1,1,vF)]),o 65 (.Uc 4 1 2 [bF,bF] [(0,1,vF),(1,1,vT)]),o 66 (.Uc 72 1 2 [.ZQ,.ZQ] [(0,1,(.t 64)),(1,1,(.t 65))]),o 67 (.RR [(iI 0),.ZQ,.ZQ] [(0,1,(vI 1)),(1,1,(.t 63)),(2,1,(.t 66))]),RQ 11 0 46,YC 3 11 67] (sQ (sO [om 68 4,om 69 6,UT 70 26 68 69,om 71 8,UT 72 26 70 71,om 73 10,UT 74 26 72 73,Vp 75 26 74 0,om 76 75,XI 77 76 3,oF 78 76 (.Uc 3 1 2 [(iI 0),(iI 0)] [(0,1,(vI 1)),(1,1,(vI 4))]),CV 79 76 32 77 78,US 80 76 79,YO 81 76 80,om 82 81,S6 83 82 3 5,S6 84 82 3 11,CV 85 82 29 83 84,US 86 82 85,YO 87 82 86,om 88 87,XI 89 88 9,CW 90 88 3 89 3,YO 91 88 90] (cT 91 (sO [Zf 0] .ret))) (sO [o 93 (.RR [(.str []),(iI 0),(iI 0),(iI 0),(iI 0),(.str []),.ZQ] [(0,1,(.v (.str [112,117,108,115,101]))),(3,1,(vI 2)),(4,1,(vI 2))]),o 94 (.Uc 3 1 6 [(iI 0),(iI 0),(iI 0),(iI 0),(iI 0),(iI 0)] [(0,1,(vI 0)),(1,1,(vI 1)),(2,1,(vI 1)),(3,1,(vI 0)),(4,1,(vI 1)),(5,1,(vI 0))]),o 95 (.call 39 [(vI 1),(.t 93),(.t 94)]),om 92 95,YN 96 92 0,YN 97 92 1,om 12 96,om 13 97] (sO [o 99 (.RR [(.str []),(iI 0),(iI 0),(iI 0),(iI 0),(.str []),.ZQ] [(0,1,(.v (.str [114,117,110,116]))),(2,1,(vI 1))]),o 100 (.Uc 3 1 4 [(iI 0),(iI 0),(iI 0),(iI 0)] [(0,1,(vI 0)),(1,1,(vI 1)),(2,1,(vI 1)),(3,1,(vI 0))]),o 101 (.call 39 [(vI 2),(.t 99),(.t 100)]),om 98 101,YN 102 98 0,YN 103 98 1,om 14 102,om 15 103] (sO [o 105 (.call 9 [(.v (.str [108,105,110,101,115,32,50,59,32,114,105,115,101,32,48,59,32,114,105,115,101,32,49,32,119,105,116,104,105,110,32,50,59]))]),om 104 105,YN 106 104 0,YN 107 104 1,YN 108 104 2,Cc 16 0 25,YC 2 16 106,om 17 107,om 18 108] (sO [Zw 110 2 16,o 111 (.Uc 3 1 4 [(iI 0),(iI 0),(iI 0),(iI 0)] [(0,1,(vI 0)),(1,1,(vI 1)),(2,1,(vI 1)),(3,1,(vI 3))]),YU 112 18 110 111,om 109 112,YN 113 109 0,YN 114 109 1,om 19 113,om 20 114] (sO [Zw 116 2 16,o 117 (.Uc 3 1 5 [(iI 0),(iI 0),(iI 0),(iI 0),(iI 0)] [(0,1,(vI 0)),(1,1,(vI 1)),(2,1,(vI 1)),(3,1,(vI 1)),(4,1,(vI 3))]),YU 118 18 116 117,om 115 118,YN 119 115 0,YN 120 115 1,om 21 119,om 22 120] (sO [Zw 122 3 5,Zw 123 3 7,YU 124 27 122 123,om 121 124,YN 125 121 0,YN 126 121 1,om 23 125,om 24 126] (sO [Zw 128 3 5,Zk 129 40 128,om 127 129,YN 130 127 0,YN 131 127 1,om 25 130,om 26 131] (sO [Zw 133 3 5,Zk 134 41 133,om 132 134,YN 135 132 0,YN 136 132 1,om 27 135,om 28 136] (sO [Zw 138 3 5,Zw 139 3 7,YU 140 42 138 139,om 137 140,YN 141 137 0,YN 142 137 1,RQ 29 0 42,YC 3 29 141,om 30 142] (sO [Zw 144 3 5,Zw 145 3 7,YU 146 43 144 145,om 143 146,YN 147 143 0,YN 148 143 1,RQ 31 0 42,YC 3 31 147,om 32 148] (sO [o 150 (.call 9 [(.v (.str [108,105,110,101,115,32,49,59,32,114,105,122,101,32,48,59]))]),om 149 150,YN 151 149 0,YN 152 149 1,YN 153 149 2,Cc 33 0 25,YC 2 33 151,om 34 152,om 35 153] (sO [om 154 13,om 155 15,UT 156 26 154 155,om 157 18,UT 158 26 156 157,om 159 20,UT 160 26 158 159,om 161 22,UT 162 26 160 161,om 163 24,UT 164 26 162 163,om 165 26,UT 166 26 164 165,om 167 28,UT 168 26 166 167,om 169 30,UT 170 26 168 169,om 171 32,UT 172 26 170 171,Wq 173 26 172 0,om 174 173,YV 175 174 35,KV 176 174 26 175 25,YP 177 174 176,om 178 177,YV 179 178 34,KV 180 178 3 179 9,YP 181 178 180,om 182 181,YV 183 182 17,KV 184 182 3 183 0,YP 185 182 184,om 186 185,YV 187 186 12,oT 188 186 (.Uc 4 1 6 [bF,bF,bF,bF,bF,bF] [(0,1,vF),(1,1,vF),(2,1,vF),(3,1,vT),(4,1,vF),(5,1,vF)]),Tt 189 186 44 187 188,YP 190 186 189,om 191 190,YV 192 191 14,oT 193 191 (.Uc 4 1 4 [bF,bF,bF,bF] [(0,1,vF),(1,1,vF),(2,1,vF),(3,1,vT)]),Tt 194 191 44 192 193,YP 195 191 194,om 196 195,YV 197 196 19,oT 198 196 (.Uc 3 1 1 [(iI 0)] [(0,1,(vI 3))]),Tt 199 196 32 197 198,YP 200 196 199,om 201 200,YV 202 201 21,Md 203 201 202,KV 204 201 3 203 0,YP 205 201 204,om 206 205,YV 207 206 23,oT 208 206 (.Uc 3 1 1 [(iI 0)] [(0,1,(vI 1))]),Tt 209 206 32 207 208,YP 210 206 209,om 211 210,YV 212 211 25,oT 213 211 (.Uc 3 1 2 [(iI 0),(iI 0)] [(0,1,(vI 0)),(1,1,(vI 1))]),Tt 214 211 32 212 213,YP 215 211 214,om 216 215,YV 217 216 27,KV 218 216 3 217 2,YP 219 216 218,om 220 219,Wg 221 220 3 29,Wg 222 220 3 11,Tt 223 220 29 221 222,YP 224 220 223,om 225 224,Wg 226 225 3 31,Wg 227 225 3 7,Tt 228 225 29 226 227,YP 229 225 228,om 0 229] .ret))))))))))))))))))))
def k16:Zm 8=some ([.tmp 0],r16):=It
def ama:=U6 It It (YZ U aw0)
def amb:=U6 It It (YZ U aw1)
def amc (s:St):=XM U s (YZ U aw2)
def amd:=U6 It It (YZ U aw3)
def ame:=U6 It It (YZ U aw4)
def amf:=U6 It It (YZ U aw5)
def amg (s:St):=XM U s (YZ U aw6)
def amh (s:St):=XM U s (YZ U aw7)
def ami (s:St):=XM U s (YZ U aw8)
def amj (s:St):=XM U s (YZ U aw9)
def ah1:=U6 It It (YZ U amk)
def ah2 (s:St):=XM U s (YZ U aml)
def ah3 (s:St):=XM U s (YZ U amm)
def ah4:=U6 It It (YZ U amn)
def ah5:=U6 It It (YZ U amo)
def ah6:=U6 It It (YZ U amp)
def ah7:=U6 It It (YZ U alf)
def ah8:=U6 It It (YZ U alg)
def ah9:=U6 It It (YZ U alh)
def ah_ (s:St):=XM U s (YZ U ali)
def ah' (s:St):=XM U s (YZ U alj)
def aia (s:St):=XM U s (YZ U alm)
def aib (s:St):=XM U s (YZ U aln)
def aic (s:St):=XM U s (YZ U alo)
def aid:=U6 It It (YZ U alp)
def z23 (h:ZT args=false):Yx U (ZE U 39 args) 39 args s=UX U 39 (YS (Ya U s 40) args) s:=LR It s h
def z29 (h:ZT args=false):Yx U (ZE U 44 args) 44 args s=UX U 44 (YS (Ya U s 40) args) s:=LR It s h
def z32 (h:ZT args=false):Yx U (ZE U 18 args) 18 args s=UX U 18 (YS (Ya U s 40) args) s:=LR It s h
def z56 (h:ZT args=false):Yx U (ZE U 32 args) 32 args s=UX U 32 (YS (Ya U s 40) args) s:=LR It s h
def z60 (h:ZT args=false):Yx U (ZE U 29 args) 29 args s=UX U 29 (YS (Ya U s 40) args) s:=LR It s h
def amq {p:Bool}(h:ZT args=false):QX U p (ZE U 39 args) 39 args s=HL p (UX U 39 (YS (Ya U s 40) args) s) s:=xa It s h
def amr {p:Bool}(h:ZT args=false):QX U p (ZE U 44 args) 44 args s=HL p (UX U 44 (YS (Ya U s 40) args) s) s:=xa It s h
def ams {p:Bool}(h:ZT args=false):QX U p (ZE U 18 args) 18 args s=HL p (UX U 18 (YS (Ya U s 40) args) s) s:=xa It s h
def amt {p:Bool}(h:ZT args=false):QX U p (ZE U 32 args) 32 args s=HL p (UX U 32 (YS (Ya U s 40) args) s) s:=xa It s h
def amu {p:Bool}(h:ZT args=false):QX U p (ZE U 29 args) 29 args s=HL p (UX U 29 (YS (Ya U s 40) args) s) s:=xa It s h
def wrap_zero:IntKind.i64.wrap 0=0:=rfl
def yl:ZE U 8 []=some bT:=by
 refine ZP k16 It rfl ?_;simp only[go_sem,r16,wrap_zero,ama,amb,amc,amd,ame,amf,amg,amh,ami,amj,ah1,ah2,ah3,ah4,ah5,ah6,ah7,ah8,ah9,ah_,ah',aia,aib,aic,aid,amq,amr,ams,amt,amu,z23,z29,z32,z56,z60]
 trace_state
end Go.Am
