/- A part of the proof. -/
import Derived.Test.YtkmaeondbkpajaaGreatDoorE31
set_option linter.all false
set_option maxHeartbeats 8000000
set_option maxRecDepth 100000
namespace Go.Am
open Go
variable [Z8]
noncomputable def KW:RC:=(sO [Y_ 134 3 133 132] (sQ (cS 134 (.exit 0)) (sQ (.block 1 (sO [Zq 135 2 131 133,Zw 136 2 135,Ga 15 0 0 55,YC 2 15 136] (oP [om 137 13,T6 138 2 1 15 1,ZX 139 138,T6 140 2 1 15 0,ZX 141 140,o 142 (.RR [(iI 0),(iI 0)] [(0,1,(.t 139)),(1,1,(.t 141))]),CX 143 55 2 1 0 0 0 2 142,VN 144 55 2 16 137 143,om 13 144]))) (oP [YM 145 3 133 1,om 133 145]))))
noncomputable def A6:RC:=(sO [Zw 146 3 5,Zw 147 3 7,om 148 11,Og 149 30 146 147 148,Wq 150 26 149 0,om 151 150,Wg 152 151 3 7,Wg 153 151 3 5,YV 154 151 13,oT 155 151 (.call 30 [(.t 152),(.t 153),(.t 154)]),KV 156 151 26 155 0,YP 157 151 156,om 158 157,YV 159 158 11,Md 160 158 159,Yl 161 158 1 5,YQ 162 158 161,Md 163 158 162,KU 164 158 3 160 163,YP 165 158 164,om 4 165] .ret)
noncomputable def KT:RC:=(sQ (sO [om 243 21,om 244 22,F' 245 4 243 244] (cT 245 (sO [Zf 4] .ret))) (sQ (sO [om 246 21] (cO 246 (oP [om 247 16,om 248 16,Za 249 248,Wy 250 3 249 1,o 251 (.sll 1 (.t 247) none (some (.t 250))),om 16 251]) (oP [om 252 18,om 253 18,Za 254 253,Wy 255 3 254 1,o 256 (.sll 1 (.t 252) none (some (.t 255))),om 18 256]))) (sO [om 257 16,om 258 18,YU 259 32 257 258,om 260 259,Wg 261 260 2 2,Wg 262 260 2 3,YV 263 260 20,Yl 264 260 0 2,YQ 265 260 264,oT 266 260 (.bin .sub 3 true (vI 5) (.t 265)),oT 267 260 (.raw (.call { callee:=.builtin .min,args:=#[(.tmp 263),(.tmp 266)],argTypes:=#[3,3] })),oT 268 260 (.call 33 [(.t 261),(.t 262),(.t 267)]),YP 269 260 268,om 4 269] .ret)))
noncomputable def Pf:RC:=(sO [om 214 9,Za 215 214,Wy 216 3 215 1,om 20 216] (sQ (.Uu 28 [om 217 16,Za 218 217,Wx 219 3 218 0,om 220 219,YV 221 220 16,YV 222 220 16,Md 223 220 222,KS 224 220 3 223 1,Tw 225 220 1 221 224,YQ 226 220 225,YV 227 220 20,KU 228 220 3 226 227,YP 229 220 228,om 230 18,Za 231 230,Wx 232 3 231 0,om 233 232,YV 234 233 18,YV 235 233 18,Md 236 233 235,KS 237 233 3 236 1,Tw 238 233 1 234 237,YQ 239 233 238,YV 240 233 20,KU 241 233 3 239 240,YP 242 233 241,om 21 229,om 22 242]) KT))
noncomputable def ql:RC:=(sQ (sO [om 166 10,Vp 167 26 166 0,om 168 167,XI 169 168 12,CW 170 168 26 169 29,YO 171 168 170,om 172 171,XI 173 172 9,Tv 174 172 173,yO 175 172 3 174 0,YO 176 172 175,om 177 176,XI 178 177 9,Tv 179 177 178,Xv 180 177 1 5,Yq 181 177 180,Tv 182 177 181,Xv 183 177 1 7,Yq 184 177 183,Tv 185 177 184,oF 186 177 (.bin .add 3 false (.t 182) (.t 185)),oF 187 177 (.bin .gtr 3 false (.t 179) (.t 186)),YO 188 177 187,om 189 188,Xv 190 189 0 2,Yq 191 189 190,XI 192 189 9,CV 193 189 31 191 192,CW 194 189 3 193 0,YO 195 189 194] (cT 195 (sO [Zf 4] .ret))) (sO [Zw 197 2 2,Zk 198 25 197,om 199 9,YU 200 18 198 199,om 196 200,YN 201 196 0,YN 202 196 1,om 16 201,om 17 202] (sO [Zw 204 2 3,Zk 205 25 204,om 206 9,YU 207 18 205 206,om 203 207,YN 208 203 0,YN 209 203 1,om 18 208,om 19 209] (sQ (sO [om 210 17,om 211 19,UT 212 26 210 211,Vp 213 26 212 0] (cT 213 (sO [Zf 4] .ret))) Pf))))
noncomputable def A5:RC:=(sQ (sO [om 129 10,Wq 130 26 129 7] (cT 130 (sO [XF 13] (sQ (sO [om 131 11,Za 132 131,ZA 133 0] (.block 0 (.loop KW))) A6)))) ql)
noncomputable def A4:RC:=(sO [Zw 69 2 2,Zk 70 25 69,Zk 71 16 70,om 68 71,YN 72 68 0,YN 73 68 1,RQ 5 0 42,YC 3 5 72,om 6 73] (sO [Zw 75 2 3,Zk 76 25 75,Zk 77 16 76,om 74 77,YN 78 74 0,YN 79 74 1,RQ 7 0 42,YC 3 7 78,om 8 79] (sQ (sQ (.Uu 24 [om 80 6,om 81 8,UT 82 26 80 81,Vp 83 26 82 0,om 84 83,S6 85 84 3 5,CU 86 84 17 85,S6 87 84 3 7,CU 88 84 17 87,oF 89 84 (.bin .add 3 false (.t 86) (.t 88)),CW 90 84 3 89 0,YO 91 84 90,om 92 91,Xv 93 92 1 5,Yq 94 92 93,Tv 95 92 94,Ih 96 92 3 95 150,YO 97 92 96,om 98 97,Xv 99 98 1 7,Yq 100 98 99,Tv 101 98 100,Ih 102 98 3 101 150,YO 103 98 102]) (cT 103 (sO [Zf 4] .ret))) (sO [Zw 105 3 5,Zw 106 3 7,YU 107 27 105 106,om 104 107,YN 108 104 0,YN 109 104 1,om 9 108,om 10 109] (sO [Zw 111 3 5,Zw 112 3 7,YU 113 28 111 112,om 110 113,YN 114 110 0,YN 115 110 1,om 11 114,om 12 115] (sQ (sO [om 116 10,Wq 117 26 116 7,Zw 118 3 5,Zw 119 3 7,YU 120 29 118 119,S5 121 4 117 120,om 122 121,XI 123 122 10,yO 124 122 26 123 7,XI 125 122 12,yO 126 122 26 125 0,F9 127 122 4 124 126,YO 128 122 127] (cT 128 (sO [Zf 4] .ret))) A5))))))
noncomputable def Oe:RC:=(sO [YL 2 31 0,YL 3 31 1,Zf 4] (sQ (sO [Od 23 8,WU 24 23,om 25 24,S6 26 25 2 2,KR 27 25 22 26 6,US 28 25 27,YO 29 25 28,om 30 29,S6 31 30 2 3,KR 32 30 22 31 6,US 33 30 32,YO 34 30 33,om 35 34,S6 36 35 2 2,CU 37 35 23 36,CW 38 35 3 37 0,YO 39 35 38,om 40 39,S6 41 40 2 3,CU 42 40 23 41,CW 43 40 3 42 0,YO 44 40 43,om 45 44,Xv 46 45 0 2,Yq 47 45 46,Xv 48 45 0 3,Yq 49 45 48,F9 50 45 3 47 49,YO 51 45 50,om 52 51,Xv 53 52 0 2,Yq 54 52 53,Ih 55 52 3 54 2,YO 56 52 55,om 57 56,S6 58 57 2 2,KR 59 57 26 58 150,US 60 57 59,YO 61 57 60,om 62 61,S6 63 62 2 3,KR 64 62 26 63 150,US 65 62 64,YO 66 62 65] (cT 66 (sO [Od 67 8,om 4 67] .ret))) A4))
def KP:Zm 6=some ([.tmp 4],Oe):=It
noncomputable def KO:RC:=(sO [Y_ 17 3 16 15] (sQ (cS 17 (.exit 0)) (sQ (.block 1 (oP [om 18 7,ZO 19 0 3,ZX 20 19,Oc 21 3 1 20,CT 22 3 18 21,om 7 22])) (oP [YM 23 3 16 1,om 16 23]))))
noncomputable def KN:RC:=(sO [Y_ 30 3 29 28] (sQ (cS 30 (.exit 4)) (sQ (.block 5 (sO [om 31 29,om 10 31] (.Uu 15 [om 32 9,om 33 8,om 34 10,ZO 35 0 3,ZX 36 35,CT 37 3 34 36,qk 38 3 33 37,ZO 39 0 3,ZX 40 39,Oc 41 3 1 40,Wy 42 3 41 1,o 43 (.bin .and 3 false (.t 38) (.t 42)),⟨some 44,none,some 12,false,.Uc 3 1 1 [(iI 0)] [(0,1,(.t 43))]⟩,⟨some 45,none,none,true,.app 3 1 8 (.t 32) (.t 44)⟩,om 9 45]))) (oP [YM 46 3 29 1,om 29 46]))))
noncomputable def qj:RC:=(sO [Zw 48 2 3,Zk 49 25 48,om 50 9,YU 51 18 49 50,om 47 51,YN 52 47 0,YN 53 47 1,om 11 52,om 12 53] (sO [Zw 55 2 4,Zk 56 25 55,om 57 9,YU 58 18 56 57,om 54 58,YN 59 54 0,YN 60 54 1,om 13 59,om 14 60] (sO [om 61 12,om 62 14,UT 63 26 61 62,Vp 64 26 63 0,om 65 64,XI 66 65 11,XI 67 65 13,CV 68 65 32 66 67,US 69 65 68,YO 70 65 69] (cT 70 (sO [Zf 6] .ret)))))
noncomputable def KM:RC:=(sO [Y_ 26 3 25 24] (sQ (cS 26 (.exit 2)) (sQ (.block 3 (sO [om 27 25,om 8 27] (sO [XF 9] (sQ (sO [om 28 2,ZA 29 0] (.block 4 (.loop KN))) qj)))) (oP [YM 71 3 25 1,om 25 71]))))
noncomputable def ac0:RC:=(sO [YL 3 31 0,YL 4 31 1,Zf 6] (sO [ZA 7 1] (sQ (sO [om 15 2,ZA 16 0] (.block 0 (.loop KO))) (sQ (sO [om 24 7,ZA 25 0] (.block 2 (.loop KM))) (sO [Uz 6] .ret)))))
def agQ:Zm 33=some ([.tmp 6],ac0):=It
def anX {s':St}{B:Nat}{l:List Int}{w:AV}{e:Int}(h:ZD s' B 3 1 l.length (ints l) w) :
  (if flat (.XQ [w,.int .i64 e])=true then some (AV.XQ [w,.int .i64 e]) else Xe U s' Ui (.XQ [w,.int .i64 e]))=some (.XQ [ZU true (ints l),.int .i64 e]):=by
 rcases Nat.eq_zero_or_pos l.length with h0|h0
 ·have hl:l=[]:=List.eq_nil_of_length_eq_zero h0;subst hl;rcases h with⟨_,rfl,_⟩|⟨h1,_⟩
  ·rfl
  ·exact absurd h1 No
 ·have hf:flat (.XQ [w,.int .i64 e])=false:=by
   rcases h with⟨h1,_⟩|⟨_,_,b,_,_,rfl,_⟩
   ·omega
   ·rfl
  have hd:Ui=39+1:=rfl;rw[hf,hd,O3 Mo];have h':ZD s' B 3 1 (ints l).length (ints l) w:=by rw[YB];exact h
  exact B5 (h'.Ev AW AU (UR l) (d:=38) (Eu s' 37 l)) rfl
def anY (p:Prog)(hf:p.fits)(hL:(ZL (p.steps.map Step.cond)).length<=2^20)(nl:Bool)(l:List Int)(eD:pk p=0)(eC:Sl p.lines l=0)(s:St) :
  UX U 18 (some [XU p,ZU nl (ints l)]) s=some (.XQ [ZU true (ints (UL l p.steps)),.int .i64 0],s):=by
 refine XM U s ?_;obtain⟨w,s',B,h1,h2⟩:=o32 (fin:=Us U [.tmp 4,.tmp 5]) (ZC:=λx=>∃w s' B,x=some (AV.XQ [w,.int .i64 0],s')/\ZD s' B 3 1 (UL l p.steps).length (ints (UL l p.steps)) w) p hf hL nl l eD eC
  λe s w B h4 h5 hv=>⟨w,s,B,by simp only[go_sem,h4,h5],hv⟩
 unfold X7;rw[og k32 h1];simp only[aqa,if_false];exact anX h2
def acp {f:FuncId}(hp:OY f=true){x v r:AV}{L:List Int}{s:St}{B:Nat}(hx:still x=true)(hfx:Ya U s 40 x=some x)(h:ZD s B 3 1 L.length (ints L) v)
  (h1:ZE U f [x,ZU true (ints L)]=some r)(h2:UX U f (some [x,ZU true (ints L)]) s=some (r,s)):Yx U (ZE U f [x,v]) f [x,v] s=some (r,s):=by
 have hf:=h.TQ 38;rcases Nat.eq_zero_or_pos L.length with h0|iU
 ·have hL:L=[]:=List.eq_nil_of_length_eq_zero h0;subst hL;have hv:v=.ZQ:=by
   rcases h with⟨_,e,_⟩|⟨e,_⟩
   ·exact e
   ·exact absurd e No
  subst hv;rw[show ZU true (ints [])=.ZQ from rfl] at h1;rw[h1,UO]
 ·have hns:=h.ET J;rw[LR hp s (by simp[ZT,hx,hns])];have hm:YS (Ya U s 40) [x,v]=some [x,ZU true (ints L)]:=by
   simp only[YS,hfx,hf]
  rw[hm];exact h2
def ru (s:St)(p:Prog):Ya U s 40 (XU p)=some (XU p):=by
 rw[Ze,Wt];simp only[XT,TJ,Kf,Vg,PT,PS]
def anZ {p:Prog}(hf:p.fits)(hL:(ZL (p.steps.map Step.cond)).length<=2^20)(eD:pk p=0){l:List Int}(eC:Sl p.lines l=0){s:St}{B:Nat}{v:AV}(h:ZD s B 3 1 l.length (ints l) v) :
  Yx U (ZE U 18 [XU p,v]) 18 [XU p,v] s=some (.XQ [ZU true (ints (UL l p.steps)),.int .i64 0],s):=by
 refine acp It (YK p) (ru s p) h ?_ (anY p hf hL true l eD eC s);rw[c32 p hf hL true l];unfold abh;rw[eD,eC];rfl
end Go.Am
