/- A part of the proof of a statement of this seat: the machine on which the program is read, and what it computes; for every input. -/
import Derived.Test.YtkmaeondbkpajaaGreatDoorG05
set_option linter.all false
namespace Go.Am
open Go
variable [ZZ]
set_option maxRecDepth 100000
set_option maxHeartbeats 8000000
noncomputable def LZ:RC:=(sO [YQ 60 3 59 58] (sQ (cS 60 (.exit 0)) (sQ (.block 1 (oP [om 61 9,ZP 62 0 2,ZS 63 62,MB 64 3 1 63,EI 65 3 61 64,om 9 65])) (oP [Yz 66 3 59 1,om 59 66]))))
noncomputable def LY:RC:=(sO [YQ 74 3 73 72] (sQ (cS 74 (.exit 4)) (sQ (.block 5 (sO [om 75 73,om 13 75] (.Sf 15 [om 76 12,om 77 11,om 78 13,ZP 79 0 2,ZS 80 79,EI 81 3 78 80,uC 82 3 77 81,ZP 83 0 2,ZS 84 83,MB 85 3 1 84,MC 86 3 85 1,o 87 (.bin .and 3 false (.t 82) (.t 86)),⟨some 88,none,some 12,false,.SE 3 1 1 [(iI 0)] [(0,1,(.t 87))]⟩,⟨some 89,none,none,true,.app 3 1 8 (.t 76) (.t 88)⟩,om 12 89]))) (oP [Yz 90 3 73 1,om 73 90]))))
noncomputable def uj:Code:=NT 4 0
theorem iB:Rd U uj=some (13,[(o 132 (.P7 2 (.t 5)),some (0,2)),
 (⟨some 133,none,some 1,false,.SE 3 1 0 [] []⟩,none),
 (om 134 12,none),
 (⟨some 135,none,none,true,.app 3 1 8 (.t 133) (.t 134)⟩,none),
 (om 136 20,none),
 (⟨some 137,none,some 5,false,.SE 3 1 1 [(.int .i64 0)] [(0,1,(.t 136))]⟩,none),
 (⟨some 138,none,none,true,.app 3 1 8 (.t 135) (.t 137)⟩,none),
 (o 139 (.call 18 [(.t 132),(.t 138)]),none),
 (om 131 139,none),
 (o 140 (.ext (.t 131) 0),none),
 (o 141 (.ext (.t 131) 1),none),
 (om 21 140,none),
 (om 22 141,none)]):=by kernel_rfl
noncomputable def Dy:RC:=(sQ (sO [om 142 22,Vh 143 26 142 0,om 144 143,X8 145 144 21,MA 146 144 145,X8 147 144 14,MA 148 144 147,oF 149 144 (.bin .lss 3 false (.t 146) (.t 148)),Yj 150 144 149,om 151 150,X8 152 151 21,MA 153 151 152,X8 154 151 14,MA 155 151 154,oF 156 151 (.bin .add 3 true (.t 155) (vI 1)),oF 157 151 (.bin .gtr 3 false (.t 153) (.t 156)),Yj 158 151 157,om 159 158,X8 160 159 21,X8 161 159 14,MA 162 159 161,oF 163 159 (.cW 1 (.t 160) none (some (.t 162))),X8 164 159 14,oF 165 159 (.call 21 [(.t 163),(.t 164)]),Uj 166 159 165,Yj 167 159 166] (cT 167 (sO [XW 4] .ret))) (sO [om 168 21,YS 169 168,o 170 (.bin .sub 3 true (vI 2) (.t 169)),om 171 14,YS 172 171,EZ 173 3 170 172,om 23 173] (sO [om 174 18,om 175 20,o 176 (.N_ [(iI 0),(iI 0)] [(0,1,(.t 174)),(1,1,(.t 175))]),o 24 (.al [(iI 0),(iI 0)] 55),Yw 2 24 176] (sQ (sO [om 177 10,Zh 178 2 24,EJ 179 47 177 178,Vh 180 3 179 0,om 181 180,VP 182 181 10,Pr 183 181 2 24,oT 184 181 (.raw (.lookup 47 (.tmp 182) (.tmp 183) false)),VP 185 181 23,oT 186 181 (.bin .neq 3 false (.t 184) (.t 185)),X4 187 181 186] (cT 187 (sO [XW 4] .ret))) (oP [om 188 10,Zh 189 2 24,om 190 23,uE 47 188 189 190])))))
noncomputable def MT:RC:=(sO [YQ 129 3 128 127] (sQ (cS 129 (.exit 6)) (sQ (.block 7 (sO [om 130 128,om 20 130] (sQ (.raw uj) Dy))) (oP [Yz 191 3 128 1,om 128 191]))))
noncomputable def ui:RC:=(sO [Zh 92 2 5,om 93 12,YI 94 18 92 93,om 91 94,Yd 95 91 0,Yd 96 91 1,om 14 95,om 15 96] (sO [Zh 98 3 6,om 99 12,YI 100 19 98 99,om 97 100,Yd 101 97 0,Yd 102 97 1,om 16 101,om 17 102] (sO [Zh 104 3 6,om 105 12,YI 106 20 104 105,om 103 106,Yd 107 103 0,Yd 108 103 1,om 18 107,om 19 108] (sQ (sO [om 109 15,Vh 110 26 109 0,om 111 110,X8 112 111 17,oF 113 111 (.bin .neq 26 true (.t 112) (vI 0)),Yj 114 111 113,om 115 114,X8 116 115 19,oF 117 115 (.bin .neq 26 true (.t 116) (vI 0)),Yj 118 115 117,om 119 118,X8 120 119 14,X8 121 119 16,oF 122 119 (.call 21 [(.t 120),(.t 121)]),Uj 123 119 122,Yj 124 119 123] (cT 124 (sO [XW 4] .ret))) (sO [ZP 125 0 2,ZS 126 125,MB 127 3 1 126,Zz 128 0] (.block 6 (.loop MT)))))))
noncomputable def LX:RC:=(sO [YQ 70 3 69 68] (sQ (cS 70 (.exit 2)) (sQ (.block 3 (sO [om 71 69,om 11 71] (sO [WS 12] (sQ (sO [om 72 8,Zz 73 0] (.block 4 (.loop LY))) ui)))) (oP [Yz 192 3 69 1,om 69 192]))))
noncomputable def uh:RC:=(sO [o 67 (.raw (.makeMap 47 none)),om 10 67] (sQ (sO [om 68 9,Zz 69 0] (.block 2 (.loop LX))) (sO [Ps 193 14,om 4 193] .ret)))
noncomputable def mQ:RC:=(sO [Yy 2 31 0,XW 4] (sQ (sO [Zh 25 2 2,KB 26 13 25 2 120,VO 27 26] (cT 27 (sO [Ps 28 14,om 4 28] .ret))) (sO [Zh 29 2 2,YO 30 15 29,o 5 (.al [(iI 0),.ZM] 25),Yw 2 5 30] (sO [Zh 32 2 5,YO 33 16 32,om 31 33,Yd 34 31 0,Yd 35 31 1,L_ 6 0 42,Yw 3 6 34,om 7 35] (sQ (sO [om 36 7,Vh 37 26 36 0,om 38 37,Kt 39 38 3 6,oF 40 38 (.call 17 [(.t 39)]),oF 41 38 (.bin .neq 3 true (.t 40) (vI 0)),Yj 42 38 41,om 43 42,Vv 44 43 0 6,Xk 45 43 44,Vv 46 43 0 2,Xk 47 43 46,vn 48 43 3 45 47,Yj 49 43 48] (cT 49 (sO [XW 4] .ret))) (sO [om 50 1,o 51 (.raw (.convert 5 3 (.tmp 50))),ZP 52 0 2,ZS 53 52,o 54 (.bin .mul 3 true (vI 2) (.t 53)),o 55 (.bin .sub 3 true (vI 7) (.t 54)),Yz 56 3 55 1,o 57 (.bin .rem 3 false (.t 51) (.t 56)),om 8 57] (sO [Zz 9 1] (sQ (sO [om 58 8,Zz 59 0] (.block 0 (.loop LZ))) uh))))))))
theorem aeg:Zb 4=some ([.tmp 4],mQ):=by kernel_rfl
noncomputable def Bo:RC:=(sO [Yy 3 31 0,XW 6] (sO [Zh 7 2 3,Wj 8 22 7 6,om 9 8,Pr 10 9 2 3,oT 11 9 (.call 23 [(.t 10)]),oT 12 9 (.bin .eql 3 true (.t 11) (vI 0)),X4 13 9 12,om 14 13,Yq 15 14 0 3,Yp 16 14 15,VP 17 14 1,uW 18 14 3 16 17,X4 19 14 18,om 20 19,Pr 21 20 2 3,oT 22 20 (.call 55 [(.t 21)]),VP 23 20 2,uW 24 20 3 22 23,X4 25 20 24,om 6 25] .ret))
theorem ac9:Zb 13=some ([.tmp 6],Bo):=by kernel_rfl
noncomputable def Ih:RC:=(sO [YQ 13 3 12 11] (sQ (cS 13 (.exit 0)) (sQ (.block 1 (sO [Y0 14 9 10 12,Zh 15 9 14,E1 5 0 0 0 0 0 0 109,Yw 9 5 15] (.Sf 14 [ZP 16 1 3,ZS 17 16,ZP 18 0 5,Zh 19 7 18,YO 20 60 19,ZP 21 7 5,ZS 22 21,ZP 23 8 5,ZS 24 23,o 25 (.N_ [(.str []),(iI 0),(iI 0),(iI 0),(iI 0),(.str []),.ZM,(iI 0),(iI 0)] [(0,7,(.t 20)),(7,1,(.t 22)),(8,1,(.t 24))]),⟨some 26,none,some 10,false,.SE 113 9 1 [(.str []),(iI 0),(iI 0),(iI 0),(iI 0),(.str []),.ZM,(iI 0),(iI 0)] [(0,9,(.t 25))]⟩,⟨some 27,none,none,true,.app 113 9 104 (.t 17) (.t 26)⟩,ZP 28 1 3,⟨none,none,none,true,.st 1 (.t 28) (.t 27)⟩]))) (oP [Yz 29 3 12 1,om 12 29]))))
noncomputable def dk:RC:=(sO [Yy 1 31 0,o 2 (.al [(iI 0),.ZM] 25)] (sO [ZP 6 0 1,ZS 7 6,o 8 (.N_ [(iI 0),.ZM] [(0,1,(.t 7))]),o 3 (.al [(iI 0),.ZM] 25),Yw 2 3 8] (sQ (sO [ZP 9 1 1,ZS 10 9,YS 11 10,Zz 12 0] (.block 0 (.loop Ih))) (sO [Zh 30 2 3,Yw 2 2 30] .ret))))
theorem ac7:Zb 15=some ([.cell 2 25],dk):=by kernel_rfl
noncomputable def Ii:RC:=(sO [YQ 23 3 22 21] (sQ (cS 23 (.exit 0)) (sQ (.block 1 (sO [Y0 24 7 20 22,Zh 25 7 24,Qk 5 0 0 0 0 106,Yw 7 5 25] (.Sf 8 [ZP 26 6 3,ZS 27 26,Zh 28 7 5,YO 29 60 28,⟨some 30,none,some 4,false,.SE 78 7 1 [(.str []),(iI 0),(iI 0),(iI 0),(iI 0),(.str []),.ZM] [(0,7,(.t 29))]⟩,⟨some 31,none,none,true,.app 78 7 88 (.t 27) (.t 30)⟩,ZP 32 6 3,⟨none,none,none,true,.st 1 (.t 32) (.t 31)⟩]))) (oP [Yz 33 3 22 1,om 22 33]))))
noncomputable def dm:RC:=(sO [Yy 1 106 0,Qk 2 0 0 0 0 78] (sO [ZP 6 0 1,ZS 7 6,ZP 8 1 1,ZS 9 8,ZP 10 2 1,ZS 11 10,ZP 12 3 1,ZS 13 12,ZP 14 4 1,ZS 15 14,ZP 16 5 1,ZS 17 16,o 18 (.N_ [(.str []),(iI 0),(iI 0),(iI 0),(iI 0),(.str []),.ZM] [(0,1,(.t 7)),(1,1,(.t 9)),(2,1,(.t 11)),(3,1,(.t 13)),(4,1,(.t 15)),(5,1,(.t 17))]),Qk 3 0 0 0 0 78,Yw 7 3 18] (sQ (sO [ZP 19 6 1,ZS 20 19,YS 21 20,Zz 22 0] (.block 0 (.loop Ii))) (sO [Zh 34 7 3,Yw 7 2 34] .ret))))
theorem ac5:Zb 60=some ([.cell 2 78],dm):=by kernel_rfl
theorem ac3:Zb 21=some ([.tmp 4],aas):=by kernel_rfl
end Go.Am
namespace Go.Am
open Go
variable [ZZ]
set_option maxRecDepth 100000
set_option maxHeartbeats 4000000
theorem kr {l m:List Int}{t:Nat}(h:t<l.length):XH (l++m) t=XH l t:=by
 unfold XH;rw[ajl,ajl,ajM h]
theorem qu (l:List Int)(x:Int):XH (l++[x]) l.length=x.toNat:=by
 unfold XH;rw[ajl,akc (ajg _),Nat.sub_self];rfl
theorem Fw (A:Fa)(l:List Int)(x:Int):∀(r t s:Nat),t+r=l.length ->
  Yb A (l++[x]) (r+1) t s=((Yb A l r t s).1++(bif A.fr (Yb A l r t s).2 x.toNat then [(l.length:Int)] else []),A.nx (Yb A l r t s).2 x.toNat)
 |0,t,s,h=>by
  rw[Nat.add_zero] at h;subst h;show (bif A.fr s (XH (l++[x]) l.length) then _ else _,_)=_;rw[qu];show (bif A.fr s x.toNat then [(l.length:Int)] else [],A.nx s x.toNat)=([]++(bif A.fr s x.toNat then [(l.length:Int)] else []),A.nx s x.toNat);rw[ajP]
 |r+1,t,s,h=>by
  have ih:=Fw A l x r (t+1) (A.nx s (XH l t)) (by omega);have e1:Yb A (l++[x]) (r+1+1) t s=(bif A.fr s (XH (l++[x]) t) then (t:Int)::(Yb A (l++[x]) (r+1) (t+1) (A.nx s (XH (l++[x]) t))).1 else (Yb A (l++[x]) (r+1) (t+1) (A.nx s (XH (l++[x]) t))).1,(Yb A (l++[x]) (r+1) (t+1) (A.nx s (XH (l++[x]) t))).2):=rfl;rw[e1,kr (by omega),ih];have e2:Yb A l (r+1) t s=(bif A.fr s (XH l t) then (t:Int)::(Yb A l r (t+1) (A.nx s (XH l t))).1 else (Yb A l r (t+1) (A.nx s (XH l t))).1,(Yb A l r (t+1) (A.nx s (XH l t))).2):=rfl;rw[e2]
  cases A.fr s (XH l t) <;> rfl
def iC (A:Fa)(a b:Int):Int:=bif A.fr a.toNat b.toNat then 1 else 2
theorem aR (A:Fa)(a b:Int):(iC A a b != 0)=true:=by
 unfold iC
 cases A.fr a.toNat b.toNat <;> rfl
def Qd (l:List ((Int×Int)×Int)):List (AV×AV):=l.map fun x=>(.agg [.int .i64 x.1.1,.int .i64 x.1.2],.int .i64 x.2)
def MI (F:Int->Int->Int)(l:List ((Int×Int)×Int)):Prop:=∀x∈l,x.2=F x.1.1 x.1.2
theorem kq (a b c d:Int):WB (.agg [.int .i64 a,.int .i64 b]) (.agg [.int .i64 c,.int .i64 d])=some (a==c&&b==d):=by
 simp only[WB];rw[if_pos (by rfl)];simp[Ww,same]
theorem cp {F:Int->Int->Int}(a b:Int):∀l,MI F l->VH (.agg [.int .i64 a,.int .i64 b]) (Qd l)=some none\/VH (.agg [.int .i64 a,.int .i64 b]) (Qd l)=some (some (.int .i64 (F a b)))
 |[],_=>.inl rfl
 |((c,d),v)::l,h=>by
  have ih:=cp a b l fun x hx=>h x (aab _ hx)
  rw[Qd,aju,VH,kq]
  cases hb:(a==c&&b==d) with
  |false=>exact ih
  |true =>
   right
   have hv:=h _ (aba ..);rw[adm,beq_iff_eq,beq_iff_eq] at hb;obtain⟨rfl,rfl⟩:=hb;simp only at hv ⊢;rw[hv]
theorem afs {F:Int->Int->Int}(a b:Int):∀l,MI F l->∃l',Mw (.agg [.int .i64 a,.int .i64 b]) (.int .i64 (F a b)) (Qd l)=some (Qd l')/\MI F l'
 |[],_=>⟨[((a,b),F a b)],rfl,fun x hx=>by
   rw[ajm] at hx;subst hx;rfl⟩
 |((c,d),v)::l,h=>by
  obtain⟨l',h1,h2⟩:=afs a b l fun x hx=>h x (aab _ hx)
  rw[Qd,aju,Mw,kq]
  cases hb:(a==c&&b==d) with
  |false =>
   refine⟨((c,d),v)::l',?_,fun x hx=>?_⟩
   ·rw[Qd] at h1;simp only[h1];rfl
   ·rcases ajo.1 hx with rfl|hx
    ·exact h _ (aba ..)
    ·exact h2 x hx
  |true =>
   refine⟨((a,b),F a b)::l,rfl,fun x hx=>?_⟩;rcases ajo.1 hx with rfl|hx
   ·rfl
   ·exact h x (aab _ hx)
theorem wx (a b:Int):Vi U 55 (.agg [.int .i64 a,.int .i64 b])=true:=by
 have h1:U.Zj 55=some (.array 2 3):=by kernel_rfl
 have h2:U.Zj 3=some (.int .i64):=by kernel_rfl
 have h3:size U 3=some 1:=by kernel_rfl
 simp only[Vi,h1,h2,h3];rfl
theorem iz {F:Int->Int->Int}(m:Nat){l:List ((Int×Int)×Int)}(hl:MI F l)(a b:Int) :
  (∀s:St,s.get m=some (.map (Qd l) false)->Xh U 47 (.map m) (.agg [.int .i64 a,.int .i64 b]) false s=some (.int .i64 0))\/(∀s:St,s.get m=some (.map (Qd l) false)->Xh U 47 (.map m) (.agg [.int .i64 a,.int .i64 b]) false s=some (.int .i64 (F a b))):=by
 have hu:U.Zj 47=some (.map 55 3):=by kernel_rfl
 have hz:zero U 3=some (.int .i64 0):=by kernel_rfl
 rcases cp a b l hl with e|e
 ·left
  intro s h;unfold Xh;rw[hu];simp only[wx,if_true,h];rw[e];simp only[hz];rfl
 ·right
  intro s h;unfold Xh;rw[hu];simp only[wx,if_true,h];rw[e];rfl
theorem iy {F:Int->Int->Int}(m:Nat){l:List ((Int×Int)×Int)}(hl:MI F l)(a b:Int) :
  ∃l',MI F l'/\∀s:St,s.get m=some (.map (Qd l) false)->V0 U 47 (.map m) (.agg [.int .i64 a,.int .i64 b]) (.int .i64 (F a b)) s=some (s.put m (.map (Qd l') false)):=by
 have hu:U.Zj 47=some (.map 55 3):=by kernel_rfl
 obtain⟨l',h1,h2⟩:=afs a b l hl;refine⟨l',h2,fun s h=>?_⟩;unfold V0;rw[hu];simp only[wx,if_true,h,h1]
end Go.Am
