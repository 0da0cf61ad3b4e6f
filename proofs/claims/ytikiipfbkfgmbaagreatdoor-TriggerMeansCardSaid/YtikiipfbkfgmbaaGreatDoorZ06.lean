/- A part of the proof of a statement of this seat: the machine on which the program is read, and what it computes; for every input. -/
import Derived.Test.YtikiipfbkfgmbaaGreatDoorZ04
import Derived.Test.YtikiipfbkfgmbaaGreatDoorZ05
set_option linter.all false
namespace Go.Am
open Go
variable [Z4]
set_option maxRecDepth 100000
set_option maxHeartbeats 8000000
def abn:RC:=(sO [Zi 1 69 0,Tf 2 0 69,ZA 3 0] (sQ (sO [ZX 4 1 1,Z0 5 4,YU 6 5,VM 7 3 6 256] (cT 7 (sO [o 8 (.On [(iI 0),.ZW,.ZW] []),YT 3 2 8,ZA 3 5] .ret))) (sO [Zr 9 3 1,YT 3 2 9,ZA 3 0] .ret)))
theorem ael:Ze 103=some ([.cell 2 69,.tmp 3],abn):=by kernel_rfl
noncomputable def ow:RC:=(sQ (sO [om 27 8,o 28 (.bin .geq 3 true (.t 27) (vI 0)),om 29 28,Zp 30 29 7,Q6 31 29 30,YJ 32 29 31] (cS 32 (.exit 0))) (sQ (.block 1 (sQ (.TP 16 [om 35 1,om 36 8,Zk 37 1 35 36,Z0 38 37,ZX 39 1 2,Z0 40 39,Zb 41 121 38 40,om 42 1,om 43 5,O8 44 3 43 1,Zk 45 1 42 44,Z0 46 45,ZX 47 1 2,Z0 48 47,Zb 49 121 46 48,Oe 50 4 41 49]) (cO 50 (oP [TK 7]) (oP [om 51 6,YE 52 3 51 1,om 6 52])))) (oP [om 33 8,O8 34 3 33 1,om 8 34])))
noncomputable def gf:RC:=(sQ (sO [om 216 15,om 217 5,YN 218 3 216 217,om 219 218,Zp 220 219 14,YJ 221 219 220] (cS 221 (.exit 3))) (sQ (.block 4 (.TP 9 [om 224 1,om 225 15,Zk 226 1 224 225,Z0 227 226,ZX 228 2 2,Z0 229 228,Zb 230 121 227 229,WZ 231 230,om 14 231])) (oP [om 222 15,YE 223 3 222 1,om 15 223])))
noncomputable def aoB:RC:=(sO [YN 268 3 267 266] (sQ (cS 268 (.exit 5)) (sQ (.block 6 (sO [Zk 269 7 265 267,Zr 270 7 269,Pa 20 0 0 0 0 39,YT 7 20 270] (sO [Zr 271 7 20,om 272 1,Zb 273 55 271 272,om 21 273] (oP [om 274 17,om 275 274,Zp 276 275 21,YJ 277 275 276,om 278 18,om 279 278,Yo 280 279 21,Yp 281 279 280,om 17 277,om 18 281])))) (oP [YE 282 3 267 1,om 267 282]))))
noncomputable def SS:RC:=(sQ (sO [ZX 79 0 2,Z0 80 79] (.block 2 (sO [Qc 82 9 80 104 105 103 104,om 81 82] (cO 81 (sO [om 83 9,om 4 83] .ret) (sO [Td 85 9 80 108 111 119,om 84 85] (cO 84 (sO [om 86 9,WZ 87 86,om 4 87] .ret) (sO [Qc 89 9 80 114 105 115 101,om 88 89] (cO 88 (sO [om 90 11,om 91 90,Zp 92 91 9,YJ 93 91 92,om 4 93] .ret) (sO [Qc 95 9 80 102 97 108 108,om 94 95] (cO 94 (sO [om 96 11,om 97 96,Zp 98 97 9,Q6 99 97 98,YJ 100 97 99,om 4 100] .ret) (sO [MS 102 9 80 112 117 108 115 101,om 101 102] (cO 101 (sO [om 103 11,om 104 103,Zp 105 104 9,Q6 106 104 105,YJ 107 104 106,om 108 107,Zp 109 108 7,YJ 110 108 109,om 111 110,Zp 112 111 6,YW 113 111 3 2,YV 114 111 113,oT 115 111 (.bin .geq 3 false (.t 112) (.t 114)),YJ 116 111 115,om 117 116,Zp 118 117 6,YW 119 117 4 2,YV 120 117 119,Lg 121 117 3 118 120,YJ 122 117 121,om 4 122] .ret) (sO [Td 124 9 80 103 97 112,om 123 124] (cO 123 (sO [om 125 11,om 126 125,Zp 127 126 9,YJ 128 126 127,om 129 128,Zp 130 129 7,YJ 131 129 130,om 132 131,Zp 133 132 6,YW 134 132 3 2,YV 135 132 134,oT 136 132 (.bin .geq 3 false (.t 133) (.t 135)),YJ 137 132 136,om 138 137,Zp 139 138 6,YW 140 138 4 2,YV 141 138 140,Lg 142 138 3 139 141,YJ 143 138 142,om 4 143] .ret) (sO [Qc 145 9 80 105 100 108 101,om 144 145] (cO 144 (sQ (sO [om 146 11] (cT 146 (sO [ZX 147 3 2,Z0 148 147,VR 149 3 148 1,om 4 149] .ret))) (sO [om 150 6,YE 151 3 150 1,ZX 152 3 2,Z0 153 152,Ja 154 3 151 153,om 4 154] .ret)) (sO [MS 156 9 80 115 101 116 117 112,om 155 156] (cO 155 (sQ (.TP 23 [om 157 5,VM 158 3 157 0,om 159 158,Zp 160 159 1,Zp 161 159 5,oT 162 159 (.Jb 1 (.t 160) (.t 161)),YV 163 159 162,YW 164 159 2 2,YV 165 159 164,Un 166 159 121 163 165,YJ 167 159 166,om 168 167,Zp 169 168 1,Zp 170 168 5,zQ 171 168 3 170 1,oT 172 168 (.Jb 1 (.t 169) (.t 171)),YV 173 168 172,YW 174 168 2 2,YV 175 168 174,Un 176 168 121 173 175,Q6 177 168 176,YJ 178 168 177,om 12 178]) (sO [om 179 11,om 180 179,YW 181 180 3 2,YV 182 180 181,oT 183 180 (.bin .geq 3 true (.t 182) (vI 1)),YJ 184 180 183,om 185 184,Yo 186 185 11,UA 187 185 186,Yo 188 185 187,Zp 189 188 7,TM 190 185 188 189,Yo 191 185 190,Zp 192 191 6,oT 193 191 (.bin .add 3 true (.t 192) (vI 1)),YW 194 191 3 2,YV 195 191 194,Lg 196 191 3 193 195,TM 197 185 191 196,Yp 198 185 197,om 13 198] (sO [om 199 12,om 200 199,Zp 201 200 13,YJ 202 200 201,om 4 202] .ret))) (sO [Qc 204 9 80 114 117 110 116,om 203 204] (cO 203 (sO [om 205 11,om 206 205,Zp 207 206 9,Q6 208 206 207,YJ 209 206 208,om 210 209,Zp 211 210 7,YJ 212 210 211,om 14 212] (sQ (sO [om 213 5,om 214 6,o 215 (.bin .sub 3 false (.t 213) (.t 214)),om 15 215] (.block 3 (.loop gf))) (sO [om 232 14,om 4 232] .ret))) (sQ (sO [o 234 (.bin .eql 9 true (.t 80) (.v (.str [112,97,116,116,101,114,110]))),om 233 234] (cS 233 (oP [MS 235 9 80 101 110 116 101 114,om 233 235]))) (cT 233 (sQ (.TP 8 [ZX 236 5 2,Z0 237 236,om 238 1,om 239 5,Zk 240 1 238 239,Z0 241 240,Zb 242 122 237 241,om 16 242]) (sQ (.TP 22 [om 243 16,om 244 243,YW 245 244 0 2,YV 246 244 245,oT 247 244 (.bin .eql 9 true (.t 246) (.v (.str [112,97,116,116,101,114,110]))),Zp 248 244 247,Yo 249 248 5,K5 250 248 3 249 0,Yo 251 248 250,YW 252 251 5 2,YV 253 251 252,Zp 254 251 1,Zp 255 251 5,zQ 256 251 3 255 1,oT 257 251 (.Jb 1 (.t 254) (.t 256)),YV 258 251 257,Un 259 251 122 253 258,Q6 260 251 259,TM 261 248 251 260,oT 262 244 (.pick (.t 248) vT (.t 261)),YJ 263 244 262,om 4 263]) .ret)))))))))))))))))))))))) (sO [TK 17,Zj 18] (sQ (sO [ZX 264 6 2,Z0 265 264,YU 266 265,ZA 267 0] (.block 5 (.loop aoB))) (sO [ZX 283 0 2,Z0 284 283,Td 285 9 284 110 111 116,om 286 285,Zp 287 286 18,Q6 288 286 287,YJ 289 286 288,om 290 289,Uj 291 290 0 2,XH 292 290 291,zk 293 290 9 292 97 108 108,Yo 294 290 293,Zp 295 294 17,TM 296 290 294 295,Yp 297 290 296,om 298 297,Uj 299 298 0 2,XH 300 298 299,zk 301 298 9 300 97 110 121,Yo 302 298 301,Zp 303 302 18,TM 304 298 302 303,Yp 305 298 304,om 4 305] .ret))))
noncomputable def apm:RC:=(sQ (.TP 21 [om 53 1,om 54 5,Zk 55 1 53 54,Z0 56 55,ZX 57 1 2,Z0 58 57,Zb 59 121 56 58,om 60 5,VM 61 3 60 0,om 62 61,Zp 63 62 1,Zp 64 62 5,zQ 65 62 3 64 1,oT 66 62 (.Jb 1 (.t 63) (.t 65)),YV 67 62 66,YW 68 62 1 2,YV 69 62 68,Un 70 62 121 67 69,YJ 71 62 70,om 9 59,om 10 71]) (sO [om 72 5,VM 73 3 72 0,om 74 73,Zp 75 74 9,Zp 76 74 10,oT 77 74 (.bin .neq 4 false (.t 75) (.t 76)),YJ 78 74 77,om 11 78] SS))
noncomputable def r55:RC:=(sO [Zi 2 39 0,Zj 4] (sO [om 22 1,YU 23 22,O8 24 3 23 1,om 5 24] (sO [ZA 6 0,Zj 7] (sQ (sO [om 25 5,O8 26 3 25 1,om 8 26] (.block 0 (.loop ow))) apm))))
theorem k55:Ze 55=some ([.tmp 4],r55):=by kernel_rfl
noncomputable def anU:RC:=(sO [Zj 4] (sO [om 5 0,om 6 1,sK 7 3 5 6,tw 8 3 7 1,VR 9 3 8 1,om 4 9] .ret))
theorem an_:Ze 121=some ([.tmp 4],anU):=by kernel_rfl
noncomputable def zf:RC:=(sO [o 9 (.raw (.next (.tmp 8) true)),YO 10 9 0] (sQ (cS 10 (.exit 0)) (.block 1 (sO [YO 11 9 1,YO 12 9 2,om 5 11,om 6 12] (sO [om 13 6,o 14 (.bin .neq 21 true (.t 13) (.v (.int .i32 120))),om 15 14,Zp 16 15 6,oT 17 15 (.bin .eql 21 true (.t 16) (.v (.int .i32 49))),Zp 18 15 1,Zp 19 15 5,Un 20 15 121 18 19,oT 21 15 (.bin .neq 4 false (.t 17) (.t 20)),YJ 22 15 21] (cT 22 (sO [Zj 4] .ret)))))))
noncomputable def anV:RC:=(sO [Zj 4] (sQ (sO [om 7 0,o 8 (.raw (.range 9 (.tmp 7)))] (.block 0 (.loop zf))) (sO [TK 4] .ret)))
theorem an':Ze 122=some ([.tmp 4],anV):=by kernel_rfl
noncomputable def E8:RC:=(sO [YN 77 3 76 75] (sQ (cS 77 (.exit 0)) (sQ (.block 1 (sO [om 78 76,om 13 78] (sQ (sO [ZX 79 1 2,Z0 80 79,om 81 10,Zk 82 9 80 81,Zr 83 9 82,DB 14 0 0 0 0 0 0 90,YT 9 14 83] (sO [ZX 84 8 14,Z0 85 84,VM 86 3 85 0,om 87 86,Zp 88 87 13,Zp 89 87 12,YW 90 87 8 14,YV 91 87 90,oT 92 87 (.bin .add 3 false (.t 89) (.t 91)),Ag 93 87 3 88 92,YJ 94 87 93] (cT 94 (oP [ZA 10 0,ZA 11 0])))) (sQ (sQ (.TP 12 [ZX 95 1 2,Z0 96 95,om 97 10,Zk 98 9 96 97,ZX 99 0 98,Zr 100 7 99,om 101 1,om 102 13,YE 103 3 102 1,o 104 (.sll 1 (.t 101) none (some (.t 103))),Zb 105 55 100 104,WZ 106 105]) (cT 106 (.exit 1))) (sQ (sO [om 107 11,YE 108 3 107 1,om 11 108] (sO [om 109 11,ZX 110 1 2,Z0 111 110,om 112 10,Zk 113 9 111 112,ZX 114 7 113,Z0 115 114,Ja 116 3 109 115] (cT 116 (oP [om 117 10,YE 118 3 117 1,om 119 13,om 10 118,ZA 11 0,om 12 119])))) (sO [om 120 10,ZX 121 1 2,Z0 122 121,YU 123 122,Ja 124 3 120 123] (cT 124 (sO [ZA 10 0] (oP [om 125 9,om 126 13,RQ 127 3 1 1 0 0 1 126,VT 128 3 1 8 125 127,om 9 128]))))))))) (oP [YE 129 3 76 1,om 76 129]))))
noncomputable def aoK:RC:=(sQ (sO [om 148 18,om 149 5,YU 150 149,YN 151 3 148 150,om 152 151,Zp 153 152 5,Zp 154 152 18,oT 155 152 (.Jb 1 (.t 153) (.t 154)),YV 156 152 155,Zp 157 152 15,oT 158 152 (.bin .lss 3 false (.t 156) (.t 157)),YJ 159 152 158] (cS 159 (.exit 4))) (.block 5 (oP [om 160 18,YE 161 3 160 1,om 18 161])))
noncomputable def ao4:RC:=(sO [YN 137 3 136 135] (sQ (cS 137 (.exit 2)) (sQ (.block 3 (sO [om 138 136,om 15 138] (sQ (.TP 11 [Zr 140 2 2,Zc 141 33 140,om 142 1,om 143 15,o 144 (.sll 1 (.t 142) none (some (.t 143))),Zb 145 32 141 144,om 139 145,YO 146 139 0,YO 147 139 1,om 16 146,om 17 147]) (sO [ZA 18 0] (sQ (.block 4 (.loop aoK)) (sO [om 162 17,TY 163 26 162 0,om 164 163,Yo 165 164 16,Yo 166 164 5,Yo 167 164 18,oF 168 164 (.sll 1 (.t 166) none (some (.t 167))),Gg 169 164 56 165 168,UA 170 164 169,Yp 171 164 170] (cT 171 (sO [Zj 4] .ret)))))))) (oP [YE 172 3 136 1,om 136 172]))))
noncomputable def anb:RC:=(sQ (sO [om 173 8,TY 174 26 173 0] (cT 174 (sO [Zr 175 2 2,Zc 176 38 175,VM 177 3 176 256,om 4 177] .ret))) (sO [Zr 179 3 7,om 180 1,Zb 181 57 179 180,om 178 181,YO 182 178 0,YO 183 178 1,om 19 182,om 20 183] (sQ (.TP 21 [om 184 20,VR 185 26 184 0,om 186 185,Zp 187 186 19,Zp 188 186 5,Un 189 186 56 187 188,YJ 190 186 189,om 191 190,YW 192 191 1 7,YV 193 191 192,KX 194 191 193,Tg 195 191 2 2,oT 196 191 (.call 38 [(.t 195)]),Lg 197 191 3 194 196,YJ 198 191 197,om 199 198,Tg 200 199 3 7,oT 201 199 (.call 58 [(.t 200)]),MP 202 199 26 201 0,YJ 203 199 202,om 4 203]) .ret)))
noncomputable def anA:RC:=(sQ (sO [om 130 5,om 131 9,Zb 132 56 130 131,WZ 133 132] (cT 133 (sO [Zj 4] .ret))) (sQ (sO [om 134 1,YU 135 134,ZA 136 0] (.block 2 (.loop ao4))) anb))
noncomputable def r8m:RC:=(sO [Zi 2 31 0,Zj 4] (sQ (sO [O7 21 16,WZ 22 21,om 23 22,Qq 24 23 2 2,IZ 25 23 31 24 6,UA 26 23 25,Yp 27 23 26,om 28 27,Qq 29 28 2 2,oF 30 28 (.call 34 [(.t 29)]),zp 31 28 3 30 0,Yp 32 28 31,om 33 32,Qq 34 33 2 2,IZ 35 33 39 34 400,UA 36 33 35,Yp 37 33 36,om 38 37,Yo 39 38 1,oF 40 38 (.SW (.t 39)),K5 41 38 3 40 24,Yp 42 38 41,om 43 42,Uj 44 43 0 2,XH 45 43 44,Yo 46 43 1,Gg 47 43 28 45 46,zp 48 43 3 47 0,Yp 49 43 48] (cT 49 (sO [O7 50 16,om 4 50] .ret))) (sO [Zr 52 2 2,Zc 53 33 52,om 54 1,Zb 55 32 53 54,om 51 55,YO 56 51 0,YO 57 51 1,om 5 56,om 6 57] (sO [Zr 59 2 2,Zc 60 33 59,Zc 61 40 60,om 58 61,YO 62 58 0,YO 63 58 1,Tf 7 0 69,YT 3 7 62,om 8 63] (sQ (sO [om 64 6,TY 65 26 64 0,om 66 65,Yo 67 66 8,zp 68 66 26 67 0,Yo 69 66 68,Zp 70 69 8,RE 71 69 26 70 5,TM 72 66 69 71,Yp 73 66 72] (cT 73 (sO [Zj 4] .ret))) (sO [WY 9] (sO [ZA 10 0,ZA 11 0,ZA 12 0] (sQ (sO [om 74 1,YU 75 74,ZA 76 0] (.block 0 (.loop E8))) anA))))))))
theorem k8m:Ze 8=some ([.tmp 4],r8m):=by kernel_rfl
end Go.Am
namespace Go.Am
open Go
variable [Z4]
set_option maxRecDepth 100000
section
variable (X:Cx)
def ix (len:Nat)(x:Option (List AV)):Option (Nat×List AV):=match x with
 |some r=>some (len,r)
 |none=>none
def bH (len k o:Nat)(x:Option (List AV)):Option (Nat×List AV):=match x with
 |some c=>ix len (XA k o c)
 |none=>none
theorem oM (len:Nat)(r:List AV):ix len (some r)=some (len,r):=(fun h=>h) rfl
theorem oL (len k o:Nat)(c:List AV):bH len k o (some c)=ix len (XA k o c):=(fun h=>h) rfl
theorem Da (n b o len:Nat)(cap:Option Nat)(z:Nat)(s:St):Wc n (.sl b o len cap z) s=bH len (len*n) o (cellsOf (s.get b)):=by
 simp only[Wc,<-Nl,bH,ix];rfl
def iw (t:TypeId)(n m:Nat)(new:List AV)(b o len:Nat)(VH:Nat)(s:St)(x:Option Uy):Option (AV×St):=match x with
 |some (.cells c e0 false OM PF)=>match XA (len*n) o c with
  |some old=>if VH=n/\PF<=o+len*n/\e0=t/\new.all Zz=true then
    some (.sl s.next 0 (len+m) none n,(s.put b .gone).new (.cells (old++new) t false (OM-o) (PF-o)))
   else none
  |none=>none
 |_=>none
def Rx (t:TypeId)(n m:Nat)(new:List AV)(d:AV)(s:St):Option (AV×St):=match d with
 |.ZW=>some (.sl s.next 0 m none n,s.new (.cells new t false 0 0))
 |.sl b o len cap VH=>match s.cells b with
  |some c=>match XA (len*n) o c with
   |some old =>
    match cap with
    |some k=>if len+m<=k then
      if VH=n then match Xi s b (o+len*n) new with
       |some s'=>some (.sl b o (len+m) (some k) n,s')
       |none=>none
      else none
     else some (.sl s.next 0 (len+m) none n,s.new (.cells (old++new) t false 0 0))
    |none=>match s.get b with
     |some (.cells _ e0 false OM PF) =>
      if VH=n/\PF<=o+len*n/\e0=t/\new.all Zz=true then
       some (.sl s.next 0 (len+m) none n,(s.put b .gone).new (.cells (old++new) t false (OM-o) (PF-o)))
      else none
     |_=>none
   |none=>none
  |none=>none
 |_=>none
def agA (d:AV)(s:St):Option (AV×St):=match d with
 |.ZW=>some (d,s)
 |.sl ..=>some (d,s)
 |.fz _=>some (d,s)
 |_=>none
def B7 (t:TypeId)(n bytes:Nat)(d:AV)(x:Option (Nat×List AV))(s:St):Option (AV×St):=match x with
 |some (m,new) =>
  if new.length≠m*n\/(Xj d+m)*bytes>2^40\/Xj d+m>2^40 then none
  else if m=0 then agA d s else Rx t n m new d s
 |none=>none
theorem acV (t:TypeId)(n bytes:Nat)(d x:AV)(s:St):pK t n bytes d x s=B7 t n bytes d (Wc n x s) s:=by
 unfold pK B7 Rx agA;rfl
theorem ZH {t:TypeId}{n bytes:Nat}{d:AV}{m:Nat}{new:List AV}{s:St}(h1:new.length=m*n)(h2:(Xj d+m)*bytes<=2^40)(h3:Xj d+m<=2^40)(h4:m≠0) :
  B7 t n bytes d (some (m,new)) s=Rx t n m new d s:=by
 simp only[B7];rw[if_neg (by omega),if_neg h4]
theorem V_ (t:TypeId)(n m:Nat)(new:List AV)(s:St):Rx t n m new .ZW s=some (.sl s.next 0 m none n,s.new (.cells new t false 0 0)):=(fun h=>h) rfl
theorem TR (t:TypeId)(n m:Nat)(new:List AV)(b o len VH:Nat)(s:St):Rx t n m new (.sl b o len none VH) s=iw t n m new b o len VH s (s.get b):=by
 simp only[Rx,iw,St.cells]
 cases s.get b with
 |none=>rfl
 |some x =>
  cases x <;> simp only
  rename_i c e0 ro lo hi
  cases ro <;> simp only
  cases XA (len*n) o c <;> rfl
theorem VA {t:TypeId}{n m:Nat}{new:List AV}{b len:Nat}{s:St}{cs:List AV}{lo hi:Nat}(hl:cs.length=len*n)(hh:hi<=len*n)(Re:new.all Zz=true) :
  iw t n m new b 0 len n s (some (.cells cs t false lo hi))=some (.sl s.next 0 (len+m) none n,(s.put b .gone).new (.cells (cs++new) t false lo hi)):=by
 simp only[iw];rw[<-hl,Ws];simp only[true_and];rw[if_pos ⟨by omega,Re⟩];simp
theorem oK:Xj .ZW=0:=(fun h=>h) rfl
theorem Np (b o n:Nat)(c:Option Nat)(z:Nat):Xj (.sl b o n c z)=n:=(fun h=>h) rfl
def ZK (s:St)(B:Nat)(t:TypeId)(n i:Nat)(cs:List AV)(v:AV):Prop :=
 (i=0/\v=.ZW/\cs=[])\/(0<i/\cs.length=i*n/\∃b,B<=b/\b<s.next/\v=.sl b 0 i none n/\s.get b=some (.cells cs t false 0 0))
theorem ZK.nil (s:St)(B:Nat)(t:TypeId)(n:Nat):ZK s B t n 0 [] .ZW:=.inl ⟨rfl,rfl,rfl⟩
theorem ZK.Zz {s:St}{B:Nat}{t:TypeId}{n i:Nat}{cs:List AV}{v:AV}(h:ZK s B t n i cs v):Zz v=true:=by
 rcases h with⟨_,rfl,_⟩|⟨_,_,b,_,_,rfl,_⟩ <;> rfl
theorem ZK.cells {s:St}{B:Nat}{t:TypeId}{n i:Nat}{cs:List AV}{v:AV}(h:ZK s B t n i cs v):v.cells=[v]:=by
 rcases h with⟨_,rfl,_⟩|⟨_,_,b,_,_,rfl,_⟩ <;> rfl
theorem ZK.len {s:St}{B:Nat}{t:TypeId}{n i:Nat}{cs:List AV}{v:AV}(h:ZK s B t n i cs v):Ti v=some (.int .i64 i):=by
 rcases h with⟨rfl,rfl,_⟩|⟨_,_,b,_,_,rfl,_⟩ <;> rfl
theorem ZK.Xj {s:St}{B:Nat}{t:TypeId}{n i:Nat}{cs:List AV}{v:AV}(h:ZK s B t n i cs v):Go.Am.Xj v=i:=by
 rcases h with⟨rfl,rfl,_⟩|⟨_,_,b,_,_,rfl,_⟩ <;> rfl
theorem ZK.mono {s s':St}{B:Nat}{t:TypeId}{n i:Nat}{cs:List AV}{v:AV}(h:ZK s B t n i cs v)(hn:s.next<=s'.next)(hg:∀j,B<=j->j<s.next->s'.get j=s.get j):ZK s' B t n i cs v:=by
 rcases h with⟨h0,h1,h2⟩|⟨h0,h1,b,h2,h3,h4,h5⟩
 ·exact .inl ⟨h0,h1,h2⟩
 ·exact .inr ⟨h0,h1,b,h2,by omega,h4,by rw[hg b h2 h3];exact h5⟩
theorem ZK.app {s:St}{B:Nat}{t:TypeId}{n i:Nat}{cs:List AV}{v:AV}(h:ZK s B t n i cs v)(hB:B<=s.next){m:Nat}{new:List AV}(hm:m≠0)(hl:new.length=m*n)(Re:new.all Go.Am.Zz=true) :
  ∃s1,Rx t n m new v s=some (.sl s.next 0 (i+m) none n,s1)/\s1.next=s.next+1/\ZK s1 B t n (i+m) (cs++new) (.sl s.next 0 (i+m) none n)/\(∀j,j<B->s1.get j=s.get j)/\(Fr s->Fr s1):=by
 rcases h with⟨rfl,rfl,rfl⟩|⟨h0,h1,b,h2,h3,rfl,h5⟩
 ·refine⟨s.new (.cells new t false 0 0),by rw[V_,ald],rfl,.inr ⟨by omega,by rw[ald,amg];exact hl,s.next,hB,by rw[Z_];omega,rfl,by rw[Z7,if_pos rfl];rfl⟩,fun j hj=>by rw[Z7,if_neg (by omega)],fun hf=>hf.new _⟩
 ·refine⟨(s.put b .gone).new (.cells (cs++new) t false 0 0),by rw[TR,h5,VA h1 (by omega) Re],rfl,.inr ⟨by omega,by rw[agy,h1,hl,amx],s.next,hB,by rw[Z_,Z'];omega,rfl,?_⟩,fun j hj=>?_,fun hf=>(hf.put h3 _).new _⟩
  ·rw[Z7,Z',if_pos rfl]
  ·rw[Z7,Z',if_neg (by omega),Z9,if_neg (by omega)]
theorem Fv {A:Type}(enc:A->AV)(n:Nat)(hc:∀a,∃c,enc a=.agg c/\c.length=n):∀l:List A,Xm true n l.length (l.flatMap fun a=>(enc a).cells)=l.map enc
 |[]=>rfl
 |a::l=>by
  obtain⟨c,h1,h2⟩:=hc a;have ih:=Fv enc n hc l;rw[akd,Gr,al7,h1,QE,alT,h1];rw[show (c++l.flatMap fun a=>(enc a).cells).take n=c from by rw[<-h2,List.take_left],show (c++l.flatMap fun a=>(enc a).cells).drop n=l.flatMap fun a=>(enc a).cells from by rw[<-h2,amy],ih]
theorem UZ {f:AV->Option AV}:∀{l:List AV},(∀x∈l,f x=some x)->Y' f l=some l
 |[],_=>rfl
 |x::l,h=>by
  rw[Y',h x (aba ..),UZ fun y hy=>h y (aab _ hy)]
theorem Jm {A:Type}(enc:A->AV)(n:Nat)(hc:∀a,∃c,enc a=.agg c/\c.length=n):∀l:List A,(l.flatMap fun a=>(enc a).cells).length=l.length*n
 |[]=>by simp
 |a::l=>by
  obtain⟨c,h1,h2⟩:=hc a;rw[al7,agy,Jm enc n hc l,h1,QE,h2,akd,amx];omega
theorem ZK.Vi {s:St}{B:Nat}{t:TypeId}{n:Nat}{A:Type}{enc:A->AV}{l:List A}{v:AV}(h:ZK s B t n l.length (l.flatMap fun a=>(enc a).cells) v)(Et:YC X t=some true)(VY:size X t=some n)(hn:n≠0)
  (hc:∀a,∃c,enc a=.agg c/\c.length=n){d:Nat}(hf:∀a,Yn X s d (enc a)=some (enc a)):Yn X s (d+1) v=some (ZG true (l.map enc)):=by
 rcases h with⟨h0,rfl,_⟩|⟨h0,h1,b,_,_,rfl,hg⟩
 ·have:l=[]:=al6.1 h0;subst this;rfl
 ·rw[VD,hg,Wo,<-h1,Ws,Et,VY]
  cases n with
  |zero=>exact absurd rfl hn
  |succ n =>
   rw[zB,Fv enc (n+1) hc,UZ (fun x hx=>?_),Tb]
   ·cases l with
    |nil=>simp at h0
    |cons a l=>rfl
   ·obtain⟨a,_,rfl⟩:=alN.1 hx;exact hf a
theorem ZK.Ub {s:St}{B:Nat}{t:TypeId}{l:List AV}{v:AV}(h:ZK s B t 1 l.length l v)(Et:YC X t=some false)(VY:size X t=some 1)(Re:l.all Go.Am.Zz=true)
  {d:Nat}{r:List AV}(hf:Y' (Yn X s d) l=some r):Yn X s (d+1) v=some (ZG true r):=by
 rcases h with⟨h0,rfl,_⟩|⟨h0,h1,b,_,_,rfl,hg⟩
 ·have:l=[]:=al6.1 h0;subst this;simp only[Y'] at hf;cases hf;rfl
 ·rw[VD,hg,Wo,ah1,Ws,Et,VY,TX,if_pos Re,VC,hf,Tb]
  cases r with
  |nil =>
   exfalso
   cases l with
   |nil=>simp at h0
   |cons a l =>
    simp only[Y'] at hf
    split at hf <;> cases hf
  |cons a r=>rfl
end
attribute [go_sem] oM oL Da acV V_ TR oK Np
end Go.Am
namespace Go.Am
open Go
variable [Z4]
set_option maxRecDepth 100000
set_option maxHeartbeats 8000000
theorem NJ (X:Cx)(g:FuncId)(x y args:List AV)(s:St):GR X (.fn (.func g) x y) args s=X6 X (ZE X g (x++args++y)) g (x++args++y) s:=by
 rw[<-XI];rfl
attribute [go_sem] NJ amg alZ alU
theorem Tq (X:Cx)(t:TypeId)(c:Bool)(j:IntKind){n:Int}(h:0<=n/\n<=16):Wg X .shl t c (.int .i64 1) (.int j n)=some (.int .i64 (2^n.toNat)):=by
 obtain⟨h0,h1⟩:=h;have hn:¬n<0:=by omega
 simp only[Wg,JN,hn,if_false];have hm:min n.toNat IntKind.i64.bits=n.toNat:=by
  have:IntKind.i64.bits=64:=rfl;rw[this];omega
 rw[hm,Int.one_mul];have hp:(2:Int)^n.toNat<=2^16:=by
  have h2:(2:Nat)^n.toNat<=2^16:=Nat.pow_le_pow_right (by omega) (by omega)
  exact_mod_cast h2
 have eB:(0:Int)<=2^n.toNat:=Int.pow_nonneg (by omega);rw[wrap_i64 (by omega) (by omega)]
def Xg (l:List Int)(t:Int):Int:=l.getD t.toNat 0
theorem dX {l:List Int}{t:Int}(h1:t.toNat<l.length):l[t.toNat]? = some (Xg l t):=by
 unfold Xg;rw[alM,aaa h1];rfl
theorem qt {l:List Int}{t:Int}(h:t.toNat<l.length):(ints l)[t.toNat]? = some (.int .i64 (Xg l t)):=by
 rw[RM,dX h];rfl
theorem sP {nl:Bool}{l:List Int}{t:Int}(h0:0<=t)(h1:t.toNat<l.length):Ud 1 (ZG nl (ints l)) (.int .i64 t)=some (.fp [.int .i64 (Xg l t)] 0) :=
 Vr 1 nl (ints l) .i64 t (.int .i64 (Xg l t)) h0 (qt h1) rfl (by decide)
theorem Ys {nl:Bool}{l:List Int}{t:Nat}(h1:t<l.length):Ud 1 (ZG nl (ints l)) (.int .i64 (t:Int))=some (.fp [.int .i64 (Xg l (t:Int))] 0) :=
 sP (by omega) (by omega)
theorem U5 {p:Bool}{e x:Int}(h:br p e x=0)(he:e≠0):p=false/\x=0:=by
 cases p
 ·exact⟨rfl,h⟩
 ·exact absurd h he
theorem Pv {n a b:Int}(h:outside n a b=false):a<=n/\n<=b:=by
 unfold outside at h;simp only[ame,decide_eq_false_iff_not] at h;omega
theorem U' (l:List Bool):(ZM l).all Zz=true:=by
 rw[alK];intro x hx;obtain⟨b,_,rfl⟩:=alN.1 hx;rfl
theorem XR (l:List Int):(ints l).all Zz=true:=by
 rw[alK];intro x hx;obtain⟨b,_,rfl⟩:=alN.1 hx;rfl
theorem Sp (s:St)(d:Nat)(l:List Bool):Y' (Yn U s (d+1)) (ZM l)=some (ZM l):=UZ fun x hx=>by
 obtain⟨b,_,rfl⟩:=alN.1 hx;rfl
theorem Ua (s:St)(d:Nat)(l:List Int):Y' (Yn U s (d+1)) (ints l)=some (ints l):=UZ fun x hx=>by
 obtain⟨b,_,rfl⟩:=alN.1 hx;rfl
theorem WX (l:List Bool):(ZM l).length=l.length:=by simp[ZM]
theorem ZK.Sp {s:St}{B:Nat}{l:List Bool}{v:AV}(h:ZK s B 4 1 l.length (ZM l) v)(d:Nat):Yn U s (d+2) v=some (ZG true (ZM l)):=by
 have h':ZK s B 4 1 (ZM l).length (ZM l) v:=by rw[WX];exact h
 exact h'.Ub U AI AH (U' l) (Go.Am.Sp s d l)
theorem ZK.Ua {s:St}{B:Nat}{l:List Int}{v:AV}(h:ZK s B 3 1 l.length (ints l) v)(d:Nat):Yn U s (d+2) v=some (ZG true (ints l)):=by
 have h':ZK s B 3 1 (ints l).length (ints l) v:=by rw[YK];exact h
 exact h'.Ub U Ka J' (XR l) (Go.Am.Ua s d l)
theorem Du (l:List Bool)(i:Nat):(ZM l)[i]? = (l[i]?).map .bool:=by simp[ZM]
theorem Ot (n:Int)(h1:n<=16):(1:Int)<=2^n.toNat/\(2:Int)^n.toNat<=65536:=by
 obtain⟨k,hk⟩:∃k:Nat,n.toNat=k:=⟨_,rfl⟩;rw[hk];have:∀k:Fin 17,(1:Int)<=2^k.val/\(2:Int)^k.val<=65536:=by decide
 exact this ⟨k,by omega⟩
def vS (lines:Int)(l:List Int):Bool:=l.any fun x=>outside x 0 (2^lines.toNat-1)
def aai (lines:Int)(l:List Int):Int:=br (decide ((l.length:Int)>4096)) 5 (br (vS lines l) 3 0)
theorem c28 (lines:Int)(h0:1<=lines)(h1:lines<=16)(nl:Bool)(l:List Int):ZE U 28 [.int .i64 lines,ZG nl (ints l)]=some (.int .i64 (aai lines l)):=by
 refine ZR k28 (by kernel_rfl) (by simp[ZU,X7,still]) ?_;rw[aai];simp (maxSteps:=2000000) +contextual only[go_sem,r28,ZI,YK];simp only[T8];refine SR fun hle=>?_
 have hle:l.length<=4096:=by simp at hle;omega
 refine YH (σ:=Nat) (fun i=>l.length-i) (fun i=>some (AV.int .i64 (br (vS lines (l.drop i)) 3 0))) (fun i e s=>i<=l.length/\Env.get e 0=.int .i64 lines/\Env.get e 1=ZG nl (ints l)/\Env.get e 5=.int .i64 i) 0 ?_ ?_ ?_
 ·rintro L i e s ⟨hi,g0,g1,g5⟩ ih;by_cases hd:i<l.length
  ·have hx:=Ys (nl:=nl) hd;have hw:=ZN hd (by omega);have hp:=Ot lines h1;have Mx:IntKind.i64.wrap (2^lines.toNat-1)=2^lines.toNat-1:=by rw[wrap_i64] <;> omega
   have xH:Xg l (i:Int)=l[i]:=by unfold Xg;rw[amn,alM,aaa hd];rfl
   rw[xH] at hx;simp +contextual only[go_sem,vR,g0,g1,g5,Z8,hd,hx,ZI,YK,Tq U _ _ _ (show 0<=lines/\lines<=16 from⟨by omega,h1⟩),Mx,aA];rw[abc hd,vS,List.any_cons]
   cases hb:outside l[i] 0 (2^lines.toNat-1) with
   |true=>simp +contextual only[go_sem,Bool.true_or]
   |false =>
    simp +contextual only[go_sem,hw,amf];refine ih (i+1) _ _ (by omega) ⟨by omega,?_,?_,?_⟩ <;> simp +contextual only[go_sem,g0,g1]
  ·have:i=l.length:=by omega
   subst this;simp +contextual only[go_sem,vR,g1,g5,Z8,alh,ZI,YK];rw[alO];rfl
 ·simp only[amd,T8]
 ·refine⟨aic _,?_,?_,?_⟩ <;> simp +contextual only[go_sem] <;> rfl
theorem YP {X:Cx}{β:Type}{fin:Fl->β}{ks:List K} [Stat] {b:RC}{σ:Type}{ZB:β->Prop}(m:σ->Nat)(I:σ->Env->St->Prop)(x:σ){e:Env}{s:St}
  (h:∀(L:RC) (x:σ) (e:Env) (s:St),I x e s->(∀(y:σ) (e':Env) (s':St),m y<m x->I y e' s'->ZB (SD X fin ks L e' s'))->ZB (go X fin (.lp L::ks) b e s))
  (hI:I x e s):ZB (SD X fin ks b e s):=by
 have key:∀n (x:σ) (e:Env) (s:St),m x=n->I x e s->ZB (SD X fin ks b e s):=by
  intro n
  induction n using Nat.strongRecOn with
  |ind n ih =>
   intro x e s hx hI;rw[lL];exact h b x e s hI fun y e' s' hy H'=>ih (m y) (by omega) y e' s' rfl H'
 exact key _ x e s rfl hI
theorem ZK.Gy {s:St}{B:Nat}{t:TypeId}{n i:Nat}{cs:List AV}{v:AV}(h:ZK s B t n i cs v)(hB:B<=s.next){m:Nat}{new:List AV}(hm:m≠0)(hl:new.length=m*n)(Re:new.all Go.Am.Zz=true) :
  ∃s1,Rx t n m new v s=some (.sl s.next 0 (i+m) none n,s1)/\s1.next=s.next+1/\ZK s1 B t n (i+m) (cs++new) (.sl s.next 0 (i+m) none n)/\(∀j,j≠s.next->v≠.sl j 0 i none n->s1.get j=s.get j)/\(Fr s->Fr s1):=by
 rcases h with⟨rfl,rfl,rfl⟩|⟨h0,h1,b,h2,h3,rfl,h5⟩
 ·refine⟨s.new (.cells new t false 0 0),by rw[V_,ald],rfl,.inr ⟨by omega,by rw[ald,amg];exact hl,s.next,hB,by rw[Z_];omega,rfl,by rw[Z7,if_pos rfl];rfl⟩,fun j hj _=>by rw[Z7,if_neg (by omega)],fun hf=>hf.new _⟩
 ·refine⟨(s.put b .gone).new (.cells (cs++new) t false 0 0),by rw[TR,h5,VA h1 (by omega) Re],rfl,.inr ⟨by omega,by rw[agy,h1,hl,amx],s.next,hB,by rw[Z_,Z'];omega,rfl,?_⟩,fun j hj hv=>?_,fun hf=>(hf.put h3 _).new _⟩
  ·rw[Z7,Z',if_pos rfl]
  ·have:b≠j:=fun e=>hv (by rw[e])
   rw[Z7,Z',if_neg (by omega),Z9,if_neg this]
theorem ZK.B8 {s:St}{B:Nat}{t:TypeId}{n i:Nat}{cs:List AV}{v:AV}(h:ZK s B t n i cs v){j:Nat}(hj:s.next<=j\/j<B):v≠.sl j 0 i none n:=by
 rintro rfl;rcases h with⟨_,h,_⟩|⟨_,_,b,h1,h2,h3,_⟩
 ·cases h
 ·cases h3;omega
theorem ZK.other {s:St}{B:Nat}{t:TypeId}{n i:Nat}{cs:List AV}{v:AV}(h:ZK s B t n i cs v){j:Nat}{c:List AV}{t':TypeId}{lo hi:Nat}(hj:s.get j=some (.cells c t' false lo hi))(ht:t'≠t):v≠.sl j 0 i none n:=by
 rintro rfl;rcases h with⟨_,h,_⟩|⟨_,_,b,h1,h2,h3,h4⟩
 ·cases h
 ·cases h3
  rw[hj] at h4
  cases h4;exact ht rfl
theorem Uc {β:Type}{c:Code}{n:Nat}{l:List lq}(h:O_ U c=some (n,l))(fin:Fl->β)(ks:List K)(e:Env)(s:St):go U fin ks (.raw c) e s =
  bif S_ s.next s l then lj U (sN U fin ks c e s) fin ks s.next l e (s.upto (s.next+n)) [s.upto (s.next+n)] [] else sN U fin ks c e s:=abA U h fin ks e s
theorem VN (x:AV):∀n:Nat,UW n [x]=List.replicate n x
 |0=>rfl
 |n+1=>by rw[UW,VN x n];rfl
theorem NH:∀(cs:List AV) (i:Nat) (x:AV),i<cs.length->lay i [x] cs=some (cs.set i x)
 |[],i,x,h=>by simp at h
 |c::cs,0,x,h=>by rw[zx,sM];rfl
 |c::cs,i+1,x,h=>by
  rw[zw,NH cs i x (by simpa using h)];rfl
def part {A:Type}(l:List A)(z:A)(n i:Nat):List A:=l.take i++List.replicate (n-i) z
theorem Ol {A:Type}(l:List A)(z:A){n i:Nat}(h:l.length=n)(hi:i<=n):(part l z n i).length=n:=by
 simp[part,h];omega
theorem Qj {A:Type}(l:List A)(z:A){n i:Nat}(h:l.length=n)(hi:i<n):(part l z n i).set i (l[i]'(by omega))=part l z n (i+1):=by
 unfold part;have h1:(l.take i).length=i:=by rw[amr];omega
 rw[List.set_append,if_neg (by omega),h1,Nat.sub_self,show n-i=(n-(i+1))+1 by omega,List.replicate_succ,List.set_cons_zero,alX (by omega),alS];rfl
theorem Qi {A:Type}(l:List A)(z:A){n:Nat}(h:l.length=n):part l z n n=l:=by
 unfold part;rw[Nat.sub_self,List.replicate_zero,alZ,<-h,amH]
theorem qq {A:Type}(l:List A)(z:A)(n:Nat):part l z n 0=List.replicate n z:=by unfold part;simp
theorem Ux {s:St}{b d:Nat}{cap:Option Nat}{l:List Int}(hg:s.get b=some (.cells (ints l) 3 false 0 0)):Yn U s (d+2) (.sl b 0 l.length cap 1)=some (.fz (ints l)):=by
 have e:l.length=(ints l).length:=(YK l).symm;rw[VD,hg,Wo,ah1,e,Ws,Ka,J',TX,if_pos (XR l),VC,Ua,Tb]
theorem anZ (x lines:Int)(h0:1<=lines)(h1:lines<=16):ZE U 159 [.int .i64 x,.fp [.int .i64 lines] 0]=some (.bool (outside x 0 (2^lines.toNat-1))):=by
 refine ZR an0 (by kernel_rfl) (by simp[ZU,still]) ?_;have hp:(decide (x<0)||decide (x>=2^lines.toNat))=outside x 0 (2^lines.toNat-1):=by
  unfold outside
  congr 1
  congr 1
  apply propext;omega
 rw[<-hp];simp +contextual only[go_sem,anF,Tq U _ _ _ (show 0<=lines/\lines<=16 from⟨by omega,h1⟩)]
def aor (P:Int->Bool):Nat->List Int->Int
 |_,[] => -1
 |i,x::l=>bif P x then (i:Int) else aor P (i+1) l
theorem fb (P:Int->Bool):∀(l:List Int) (i:Nat),decide (aor P i l>=0)=l.any P
 |[],i=>by simp[aor]
 |x::l,i=>by
  rw[aor,List.any_cons]
  cases P x with
  |true=>simp
  |false=>rw[cond_false,fb P l (i+1),amf]
theorem an1 (nl:Bool)(l:List Int)(lines:Int)(h0:1<=lines)(h1:lines<=16)(hl:l.length<=2^40) :
  ZE U 179 [ZG nl (ints l),.fn (.func 159) [] [.fp [.int .i64 lines] 0]]=some (.int .i64 (aor (fun x=>outside x 0 (2^lines.toNat-1)) 0 l)):=by
 refine ZR anG (by kernel_rfl) (by simp[ZU,still,X7]) ?_;simp +contextual only[go_sem,ano,ZI,YK];refine YH (σ:=Nat) (fun i=>l.length-i) (fun i=>some (AV.int .i64 (aor (fun x=>outside x 0 (2^lines.toNat-1)) i (l.drop i)))) (fun i e s=>i<=l.length/\Env.get e 0=ZG nl (ints l)/\Env.get e 1=.fn (.func 159) [] [.fp [.int .i64 lines] 0]/\Env.get e 7=.int .i64 l.length/\Env.get e 8=.int .i64 i) 0 ?_ rfl ?_
 ·rintro L i e s ⟨hi,g0,g1,g7,g8⟩ ih;by_cases hd:i<l.length
  ·have hx:=Ys (nl:=nl) hd;have hw:=ZN hd (by omega);have xH:Xg l (i:Int)=l[i]:=by unfold Xg;rw[amn,alM,aaa hd];rfl
   rw[xH] at hx;have hc:=anZ l[i] lines h0 h1;rw[abc hd,aor];simp +contextual only[go_sem,uf,g0,g1,g7,g8,Z8,hd,hx,hc]
   cases hb:outside l[i] 0 (2^lines.toNat-1) with
   |true=>simp +contextual only[go_sem]
   |false =>
    simp +contextual only[go_sem,hw];refine ih (i+1) _ _ (by omega) ⟨by omega,?_,?_,?_,?_⟩ <;> simp +contextual only[go_sem,g0,g1,g7]
  ·have:i=l.length:=by omega
   subst this;simp +contextual only[go_sem,uf,g7,g8,Z8,alh];rw[alO];rfl
 ·refine⟨aic _,?_,?_,?_,?_⟩ <;> simp +contextual only[go_sem] <;> rfl
theorem an2 (nl:Bool)(l:List Int)(lines:Int)(h0:1<=lines)(h1:lines<=16)(hl:l.length<=2^40) :
  ZE U 125 [ZG nl (ints l),.fn (.func 159) [] [.fp [.int .i64 lines] 0]]=some (.bool (vS lines l)):=by
 refine ZR anH (by kernel_rfl) (by simp[ZU,still,X7]) ?_;have:=an1 nl l lines h0 h1 hl;have hi:=fb (fun x=>outside x 0 (2^lines.toNat-1)) l 0;simp +contextual only[go_sem,anp,this,hi];rfl
theorem anI {args:List AV}{s:St}(h:ZU args=false):X6 U (ZE U 125 args) 125 args s=UR U 125 (Y' (Yn U s 40) args) s:=Ke (by kernel_rfl) s h
theorem c91 (nl:Bool)(l:List Int)(lines:Int)(h0:1<=lines)(h1:lines<=16):ZE U 91 [.int .i64 lines,ZG nl (ints l)]=some (.int .i64 (aai lines l)):=by
 refine ZR k91 (by kernel_rfl) (by simp[ZU,still,X7]) ?_;rw[aai]
 cases hb:decide ((l.length:Int)>4096) with
 |true =>
  simp +contextual only[go_sem,r91,ZI,YK,hb]
 |false =>
  have hle:l.length<=2^40:=by simp at hb;omega
  have hz:=fun s=>Hc (an2 nl l lines h0 h1 hle) (by kernel_rfl) (by simp[ZU,still,X7]) rfl s
  have Xz:ZU [ZG nl (ints l),.fn (.func 159) [] [.ptr 8 0]]=false:=by simp[ZU,still,X7]
  simp +contextual only[go_sem,r91,ZI,YK,hb,anI Xz,UL,hz,nt]
def Qd:List Int->List Int->Bool
 |[],[]=>true
 |x::a,y::b=>bif x != y then false else Qd a b
 |_,_=>false
theorem Ns:∀{a b:List Int},a.length≠b.length->Qd a b=false
 |[],[],h=>absurd rfl h
 |[],_::_,_=>rfl
 |_::_,[],_=>rfl
 |a::x,b::y,h=>by
  rw[Qd,Ns (fun e=>h (by simp[e]))]
  cases a != b <;> rfl
theorem My:∀a:List Int,Qd a a=true
 |[]=>rfl
 |a::x=>by rw[Qd,My x];simp
theorem aaT (na nb:Bool)(a b:List Int)(ha:a.length<2^62):ZE U 109 [ZG na (ints a),ZG nb (ints b)]=some (.bool (Qd a b)):=by
 refine ZR aiM (by kernel_rfl) (by simp[ZU,X7]) ?_;simp (maxSteps:=2000000) +contextual only[go_sem,aeR,ZI,YK]
 cases hl:((a.length:Int) != (b.length:Int)) with
 |true =>
  have:a.length≠b.length:=by simp at hl;omega
  rw[Ns this];simp +contextual only[go_sem]
 |false =>
  have hl:a.length=b.length:=by simp at hl;omega
  simp +contextual only[go_sem];refine YH (σ:=Nat) (fun i=>a.length-i) (fun i=>some (AV.bool (Qd (a.drop i) (b.drop i)))) (fun i e s=>i<=a.length/\Env.get e 0=ZG na (ints a)/\Env.get e 1=ZG nb (ints b)/\Env.get e 5=.int .i64 i) 0 ?_ rfl ?_
  ·rintro L i e s ⟨hi,g0,g1,g5⟩ ih;by_cases hd:i<a.length
   ·have LR:i<b.length:=by omega
    have hx:Ud 1 (ZG na (ints a)) (.int .i64 (i:Int))=some (.fp [.int .i64 a[i]] 0):=Vr 1 na (ints a) .i64 i (.int .i64 a[i]) (by omega) (by rw[amn,RM,aaa hd];rfl) rfl (by decide);have hy:Ud 1 (ZG nb (ints b)) (.int .i64 (i:Int))=some (.fp [.int .i64 b[i]] 0):=Vr 1 nb (ints b) .i64 i (.int .i64 b[i]) (by omega) (by rw[amn,RM,aaa LR];rfl) rfl (by decide);have hw:=ZN hd (by omega);rw[abc hd,abc LR,Qd];simp +contextual only[go_sem,BQ,g0,g1,g5,Z8,hd,hx,hy,ZI,YK]
    cases hb:a[i] != b[i] with
    |true=>simp +contextual only[go_sem]
    |false =>
     simp +contextual only[go_sem,hw];refine ih (i+1) _ _ (by omega) ⟨by omega,?_,?_,?_⟩ <;> simp +contextual only[go_sem,g0,g1]
   ·have:i=a.length:=by omega
    subst this;simp +contextual only[go_sem,BQ,g0,g5,Z8,alh,ZI,YK];rw[alO,hl,alO];rfl
  ·refine⟨aic _,?_,?_,?_⟩ <;> simp +contextual only[go_sem] <;> rfl
theorem c56 (na nb:Bool)(a b:List Int)(ha:a.length<2^62):ZE U 56 [ZG na (ints a),ZG nb (ints b)]=some (.bool (Qd a b)):=by
 refine ZR k56 (by kernel_rfl) (by simp[ZU,X7]) ?_;have:=aaT na nb a b ha;simp (maxSteps:=2000000) +contextual only[go_sem,r56,this]
end Go.Am
