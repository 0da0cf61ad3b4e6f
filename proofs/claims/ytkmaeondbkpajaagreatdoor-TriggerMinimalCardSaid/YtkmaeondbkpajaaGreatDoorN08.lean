/- A part of the proof of a statement of this seat: the machine on which the program is read, and what it computes; for every input. -/
import Derived.Test.YtkmaeondbkpajaaGreatDoorN06
import Derived.Test.YtkmaeondbkpajaaGreatDoorN04
set_option linter.all false
namespace Go.Am
open Go
variable [Z3]
set_option maxRecDepth 100000
set_option maxHeartbeats 8000000
noncomputable def Pk:RC:=(sO [VF 93 3 92 91] (sQ (cS 93 (.exit 0)) (sQ (.block 1 (sO [YS 94 2 90 92,Xr 95 2 94,E' 12 0 0 55,U5 2 12 95] (sQ (sO [Mi 96 2 1 12 1,Ze 97 96,K' 98 3 97 0,om 99 98,E_ 100 99 2 1 12 1,Tk 101 99 100,Mh 102 99 10,PZ 103 99 102,AU 104 99 3 101 103,Tj 105 99 104] (cT 105 (sO [UE 2] .ret))) (oP [om 106 10,Mi 107 2 1 12 1,Ze 108 107,YS 109 1 106 108,oS (.st 1 (.t 109) vT)])))) (oP [Vw 110 3 92 1,om 92 110]))))
noncomputable def Pj:RC:=(sO [VF 124 3 123 122] (sQ (cS 124 (.exit 4)) (sQ (.block 5 (sO [om 125 123,om 14 125] (sQ (.Wq 12 [Xr 127 3 4,om 128 13,RL 129 36 127 128,Xr 130 3 4,om 131 14,RL 132 36 130 131,RL 133 27 129 132,om 126 133,U1 134 126 0,U1 135 126 1,om 15 134,om 16 135]) (sO [om 136 16,Oa 137 26 136 0] (cT 137 (sO [UE 2] .ret)))))) (oP [Vw 138 3 123 1,om 123 138]))))
noncomputable def Ph:RC:=(sO [VF 115 3 114 113] (sQ (cS 115 (.exit 2)) (sQ (.block 3 (sO [om 116 114,om 13 116] (sQ (sO [om 117 10,om 118 13,YS 119 1 117 118,Ze 120 119,Mj 121 120] (cT 121 (sO [UE 2] .ret))) (sO [om 122 13,WZ 123 0] (.block 4 (.loop Pj)))))) (oP [Vw 139 3 114 1,om 114 139]))))
noncomputable def BZ:RC:=(sQ (sO [YR 111 1 4,Ze 112 111,Wj 113 112,WZ 114 0] (.block 2 (.loop Ph))) (sO [Ip 2] .ret))
noncomputable def BY:RC:=(sO [YR 86 1 4,Ze 87 86,Wj 88 87,o 89 (.raw (.makeSlice 72 (.tmp 88) (.tmp 88))),om 10 89] (sQ (sO [om 90 8,Wj 91 90,WZ 92 0] (.block 0 (.loop Pk))) BZ))
noncomputable def BX:RC:=(sQ (sO [om 53 5,om 54 7,UD 55 26 53 54,om 56 9,UD 57 26 55 56,Oa 58 26 57 0,om 59 58,P5 60 59 1 4,Tk 61 59 60,PZ 62 59 61,P5 63 59 1 1,Tk 64 59 63,PZ 65 59 64,oF 66 59 (.bin .gtr 3 false (.t 62) (.t 65)),Tj 67 59 66,om 68 67,I5 69 68 3 4,oF 70 68 (.call 17 [(.t 69)]),af1 71 68 3 70 0,Tj 72 68 71,om 73 72,I5 74 73 3 4,I5 75 73 3 6,oF 76 73 (.call 29 [(.t 74),(.t 75)]),oF 77 73 (.un .not (.t 76)),Tj 78 73 77,om 79 78,I5 80 79 3 3,I5 81 79 3 4,Mh 82 79 8,oF 83 79 (.call 30 [(.t 80),(.t 81),(.t 82)]),af1 84 79 26 83 0,Tj 85 79 84] (cT 85 (sO [UE 2] .ret))) BY)
noncomputable def Gk:RC:=(sO [TW 1 46 0,UE 2] (sQ (sO [o 17 (.call 8 []),Mj 18 17,om 19 18,I5 20 19 3 1,oF 21 19 (.call 34 [(.t 20),(vI 8)]),oF 22 19 (.un .not (.t 21)),Tj 23 19 22,om 24 23,I5 25 24 3 1,oF 26 24 (.call 17 [(.t 25)]),af1 27 24 3 26 0,Tj 28 24 27,om 29 28,P5 30 29 1 1,Tk 31 29 30,PZ 32 29 31,oF 33 29 (.bin .gtr 3 true (.t 32) (vI 8)),Tj 34 29 33] (cT 34 (sO [o 35 (.call 8 []),om 2 35] .ret))) (sO [Xr 36 3 1,Ob 3 0 42,U5 3 3 36] (sO [Xr 38 3 3,Vf 39 35 38,om 37 39,U1 40 37 0,U1 41 37 1,Ob 4 0 42,U5 3 4 40,om 5 41] (sO [Xr 43 3 4,Vf 44 35 43,om 42 44,U1 45 42 0,U1 46 42 1,Ob 6 0 42,U5 3 6 45,om 7 46] (sO [Xr 48 3 3,Xr 49 3 4,RL 50 28 48 49,om 47 50,U1 51 47 0,U1 52 47 1,om 8 51,om 9 52] BX))))))
theorem e9:YQ 7=some ([.tmp 2],Gk):=by kernel_rfl
noncomputable def Pm:RC:=(sO [VF 30 3 29 28] (sQ (cS 30 (.exit 2)) (sQ (.block 3 (sO [YS 31 1 27 29,Ze 32 31,om 10 32] (oP [om 33 8,om 34 6,om 35 10,o 36 (.VW (.t 34) [(.t 35)]),Kl 37 3 1 1 0 0 1 36,Pg 38 3 1 8 33 37,om 8 38]))) (oP [Vw 39 3 29 1,om 29 39]))))
noncomputable def HO:Code:=I4 36 0
theorem rS:Pf U HO=some (15,[(o 46 (.fa 2 (.t 5)),none),
 (o 47 (.Zk (.t 46)),some (0,1)),
 (⟨some 48,none,some 2,false,.VC 4 1 0 [] []⟩,none),
 (o 49 (.fa 2 (.t 2)),none),
 (o 50 (.Zk (.t 49)),some (0,0)),
 (om 51 6,none),
 (om 52 7,none),
 (o 53 (.raw (.call { callee:=.value (.tmp 51),args:=#[(.tmp 52)],argTypes:=#[3] })),some (0,0)),
 (o 54 (.XV 1 (.t 50) (.t 53)),none),
 (o 55 (.Zk (.t 54)),some (0,0)),
 (⟨some 56,none,none,true,.app 4 1 1 (.t 48) (.t 55)⟩,none),
 (⟨some 57,none,some 11,false,.VC 72 1 1 [.ZR] [(0,1,(.t 56))]⟩,none),
 (⟨some 58,none,none,true,.app 72 1 24 (.t 47) (.t 57)⟩,none),
 (o 59 (.fa 2 (.t 5)),none),
 (⟨none,none,none,true,.st 1 (.t 59) (.t 58)⟩,none)]):=by kernel_rfl
noncomputable def HN:RC:=(sO [YR 40 1 5,Ze 41 40,om 42 8,o 43 (.VC 48 1 1 [.ZR] [(0,1,(.t 42))]),Pg 44 48 1 24 41 43,YR 45 1 5,U5 1 45 44] (.raw HO))
noncomputable def Pe:RC:=(sO [VF 19 3 18 17] (sQ (cS 19 (.exit 0)) (sQ (.block 1 (sO [om 20 18,om 7 20] (sO [Ra 8] (sQ (sQ (.Wq 9 [YR 21 1 2,Ze 22 21,om 23 6,om 24 7,o 25 (.raw (.call { callee:=.value (.tmp 23),args:=#[(.tmp 24)],argTypes:=#[3] })),YS 26 1 22 25,Ze 27 26,Wj 28 27,WZ 29 0]) (.block 2 (.loop Pm))) HN)))) (oP [Vw 60 3 18 1,om 18 60]))))
noncomputable def nV:RC:=(sO [TW 2 42 0,TW 3 3 1,Ob 4 0 42] (sO [YR 11 0 2,Ze 12 11,o 13 (.JE [(iI 0),.ZR,.ZR] [(0,1,(.t 12))]),Ob 5 0 42,U5 3 5 13] (sO [o 14 (.gg 95 [] [(.t 3)]),om 6 14] (sQ (sO [YR 15 1 2,Ze 16 15,Wj 17 16,WZ 18 0] (.block 0 (.loop Pe))) (sO [Xr 61 3 5,U5 3 4 61] .ret)))))
theorem e7:YQ 36=some ([.cell 4 42],nV):=by kernel_rfl
noncomputable def BU:RC:=(sO [WZ 3 0] (sQ (sO [om 4 0] (.block 0 (sO [Mg 6 3 4 0,om 5 6] (cO 5 (sO [Ze 7 1,om 3 7] .ret) (sO [Ze 9 1,af2 10 3 4 9,om 8 10] (cT 8 (sO [WZ 3 0] .ret))))))) (sO [om 11 0,om 3 11] .ret)))
theorem eZ:YQ 95=some ([.tmp 3],BU):=by kernel_rfl
end Go.Am
namespace Go.Am
open Go
variable [Z3]
set_option maxRecDepth 100000
set_option maxHeartbeats 4000000
theorem AI {s:St}{b d n:Nat}{cap:Option Nat}{L:List Nat}(hL:L.length=n)(hg:s.get b=some (.cells (ZO L) 3 false 0 0)):YG U s (d+2) (.sl b 0 n cap 1)=some (.fz (ZO L)):=by
 have:=A3 (d:=d) (cap:=cap) hg;rw[Sh,hL] at this;exact this
theorem Ij {l:List Nat}{i:Nat}(h:i<l.length):UT 1 (.fz (ZO l)) (.int .i64 (i:Int))=some (.fp [.int .i64 ((gt l i:Nat):Int)] 0):=by
 have:=Od (nl:=false) (l:=Mv l) (i:=i) (by rw[Sh];exact h);rw[Sl] at this;rw[ZO,this];simp[Mv,ZJ h]
def XJ (A:Fa)(q:Nat):List Bool:=(List.range A.m).map (A.fr q)
theorem TT (A:Fa)(q:Nat):(XJ A q).length=A.m:=by simp[XJ]
theorem AN (A:Fa)(q:Nat){x:Nat}(h:x<A.m):(XJ A q)[x]'(by rw[TT];exact h)=A.fr q x:=by simp[XJ]
theorem Zi.ad6 {s:St}{B:Nat}{t:TypeId}{i:Nat}{cs:List AV}{v:AV}(h:Zi s B t 1 i cs v)(hB:B<=s.next)(x:AV)(hx:Go.Am.Zw x=true) :
  ∃s1,SG t 1 1 [x] v s=some (.sl s.next 0 (i+1) none 1,s1)/\s1.next=s.next+1/\Zi s1 B t 1 (i+1) (cs++[x]) (.sl s.next 0 (i+1) none 1) /\
   (∀j c t' lo hi,s.get j=some (.cells c t' false lo hi)->j<s.next->t'≠t->s1.get j=some (.cells c t' false lo hi))/\(∀j,j<B->s1.get j=s.get j)/\(Fr s->Fr s1):=by
 obtain⟨s1,a1,a2,a3,a4,a5⟩:=h.kd hB (m:=1) (new:=[x]) (by omega) rfl (by simp[hx]);exact⟨s1,a1,a2,a3,fun j c t' lo hi hj Zm ZQ=>by rw[a4 j (by omega) (h.other hj ZQ),hj],fun j hj=>a4 j (by omega) (h.far (.inr hj)),a5⟩
theorem Zi.R9 {s s':St}{B:Nat}{t:TypeId}{i:Nat}{cs:List AV}{v:AV}(h:Zi s B t 1 i cs v)(hn:s.next<=s'.next)(hg:∀j c,s.get j=some (.cells c t false 0 0)->j<s.next->B<=j->s'.get j=some (.cells c t false 0 0)):Zi s' B t 1 i cs v:=by
 rcases h with⟨h0,h1,h2⟩|⟨h0,h1,b,h2,h3,h4,h5⟩
 ·exact .inl ⟨h0,h1,h2⟩
 ·exact .inr ⟨h0,h1,b,h2,by omega,h4,hg b _ h5 h3 h2⟩
def sL (s:St)(b:Nat)(t:TypeId)(c:AV)(l:List AV):Prop:=∃j,c=.sl j 0 l.length (some l.length) 1/\j<s.next/\j≠b/\12<=j/\s.get j=some (.cells l t false 0 0)
theorem sL.mono {s s':St}{b b':Nat}{t:TypeId}{c:AV}{l:List AV}(h:sL s b t c l)(hn:s.next<=s'.next)(hb:∀j,j<s.next->j≠b->j≠b')(hg:∀j,j<s.next->j≠b->12<=j->s.get j=some (.cells l t false 0 0)->s'.get j=some (.cells l t false 0 0)):sL s' b' t c l:=by
 obtain⟨j,h1,h2,h3,h4,h5⟩:=h;exact⟨j,h1,by omega,hb j h2 h3,h4,hg j h2 h3 h4 h5⟩
theorem sL.YG {s:St}{b d:Nat}{c:AV}{l:List AV}{t:TypeId}(h:sL s b t c l)(Jc:YZ U t=some false)(WU:size U t=some 1)(LP:l.all Zw=true)(hf:Zg (Go.Am.YG U s d) l=some l):Go.Am.YG U s (d+1) c=some (.fz l):=by
 obtain⟨j,rfl,_,_,_,h5⟩:=h;rw[WQ,h5,YI,ae3,XG,Jc,WU,Xj,if_pos LP,Yw,hf,VT]
theorem TS {A:Type}{f:AV->Option AV}{g:A->AV}:∀{cs:List AV} {rs:List A},cs.length=rs.length->(∀j (h:j<cs.length) (h':j<rs.length),f cs[j]=some (g rs[j]))->Zg f cs=some (rs.map g)
 |[],[],_,_=>rfl
 |c::cs,r::rs,hl,h=>by
  have h0:=h 0 (by simp) (by simp);simp only[List.getElem_cons_zero] at h0;have ih:=TS (f:=f) (g:=g) (cs:=cs) (rs:=rs) (by simpa using hl) fun j h1 h2=>by
   have:=h (j+1) (by simpa using h1) (by simpa using h2)
   simpa using this
  rw[Ie,h0,ih,afm];rfl
 |[],_::_,hl,_=>by simp at hl
 |_::_,[],hl,_=>by simp at hl
def Z2 (a:ZN):ZN:={ lines:=a.lines,YC:=true,next:=(Xd a.fa).map (fun x=>(false,Mv x.2)),Yx:=true,Z4:=(Xd a.fa).map (fun x=>(false,XJ a.fa x.1)) }
end Go.Am
namespace Go.Am
open Go
variable [Z3]
set_option maxRecDepth 100000
set_option maxHeartbeats 8000000
noncomputable def N5:RC:=(sO [VF 40 3 39 38] (sQ (cS 40 (.exit 2)) (sQ (.block 3 (sO [YS 41 1 37 39,Ze 42 41,om 10 42] (sO [om 44 4,om 45 3,om 46 10,YS 47 1 45 46,Ze 48 47,o 49 (.raw (.lookup 204 (.tmp 44) (.tmp 48) true)),om 43 49,U1 50 43 0,U1 51 43 1,om 11 50,om 12 51] (sQ (sO [om 52 12,Mj 53 52] (cT 53 (sO [om 54 5,Wj 55 54,om 11 55] (sO [om 56 4,om 57 3,om 58 10,YS 59 1 57 58,Ze 60 59,om 61 11,oS (.raw (.mapUpdate 204 (.tmp 56) (.tmp 60) (.tmp 61)))] (oP [om 62 5,om 63 10,Kl 64 3 1 1 0 0 1 63,Pg 65 3 1 8 62 64,om 5 65]))))) (oP [om 66 8,om 67 11,Kl 68 3 1 1 0 0 1 67,Pg 69 3 1 8 66 68,om 8 69]))))) (oP [Vw 70 3 39 1,om 39 70]))))
noncomputable def CV:Code:=I4 63 0
theorem jP:Pf U CV=some (22,[(o 71 (.fa 1 (.t 6)),none),
 (o 72 (.Zk (.t 71)),none),
 (om 73 8,none),
 (⟨some 74,none,some 3,false,.VC 48 1 1 [.ZR] [(0,1,(.t 73))]⟩,none),
 (⟨some 75,none,none,true,.app 48 1 24 (.t 72) (.t 74)⟩,none),
 (o 76 (.fa 2 (.t 6)),none),
 (o 77 (.Zk (.t 76)),some (0,2)),
 (o 78 (.fa 2 (.t 1)),none),
 (o 79 (.Zk (.t 78)),some (0,1)),
 (om 80 5,none),
 (om 81 7,none),
 (o 82 (.XV 1 (.t 80) (.t 81)),none),
 (o 83 (.Zk (.t 82)),some (0,1)),
 (o 84 (.XV 1 (.t 79) (.t 83)),none),
 (o 85 (.Zk (.t 84)),some (0,1)),
 (⟨some 86,none,none,true,.call 131 [(.t 85)]⟩,none),
 (⟨some 87,none,some 16,false,.VC 72 1 1 [.ZR] [(0,1,(.t 86))]⟩,none),
 (⟨some 88,none,none,true,.app 72 1 24 (.t 77) (.t 87)⟩,none),
 (o 89 (.fa 1 (.t 6)),none),
 (⟨none,none,none,true,.st 1 (.t 89) (.t 75)⟩,none),
 (o 90 (.fa 2 (.t 6)),none),
 (⟨none,none,none,true,.st 1 (.t 90) (.t 88)⟩,none)]):=by kernel_rfl
noncomputable def Lo:RC:=(sQ (sO [om 24 7,om 25 5,Wj 26 25,VF 27 3 24 26] (cS 27 (.exit 0))) (sQ (.block 1 (sO [Ra 8] (sQ (sQ (.Wq 10 [YR 30 1 1,Ze 31 30,om 32 5,om 33 7,YS 34 1 32 33,Ze 35 34,YS 36 1 31 35,Ze 37 36,Wj 38 37,WZ 39 0]) (.block 2 (.loop N5))) (.raw CV)))) (oP [om 28 7,Vw 29 3 28 1,om 7 29])))
noncomputable def aL:RC:=(sO [TW 1 42 0,Ob 2 0 42] (sO [Xr 13 3 1,Vf 14 130 13,om 3 14] (sO [vL 15 204,om 16 3,o 17 (.XV 1 (.t 16) (vI 0)),Ze 18 17,oS (.raw (.insert 204 (.tmp 15) (.tmp 18) (.const (.int .i64 0)))),om 19 15,om 4 19] (sO [o 20 (.VC 3 1 1 [(iI 0)] [(0,1,(vI 0))]),om 5 20] (sO [YR 21 0 1,Ze 22 21,o 23 (.JE [(iI 0),.ZR,.ZR] [(0,1,(.t 22))]),Ob 6 0 42,U5 3 6 23] (sQ (sO [WZ 7 0] (.block 0 (.loop Lo))) (sO [Xr 91 3 6,U5 3 2 91] .ret)))))))
theorem acZ:YQ 63=some ([.cell 2 42],aL):=by kernel_rfl
noncomputable def vq:Code:=I4 130 0
theorem wY:Pf U vq=some (23,[(om 47 4,none),
 (om 48 5,none),
 (o 49 (.XV 1 (.t 47) (.t 48)),none),
 (o 50 (.Zk (.t 49)),some (0,1)),
 (om 51 7,none),
 (om 52 5,none),
 (o 53 (.XV 1 (.t 51) (.t 52)),none),
 (o 54 (.Zk (.t 53)),some (0,1)),
 (om 55 4,none),
 (om 56 5,none),
 (o 57 (.XV 1 (.t 55) (.t 56)),none),
 (o 58 (.Zk (.t 57)),none),
 (om 59 7,none),
 (om 60 5,none),
 (o 61 (.XV 1 (.t 59) (.t 60)),none),
 (o 62 (.Zk (.t 61)),none),
 (o 63 (.XV 1 (.t 58) (.t 62)),none),
 (o 64 (.Zk (.t 63)),none),
 (om 65 6,none),
 (⟨some 66,none,some 19,false,.VC 3 1 1 [(.int .i64 0)] [(0,1,(.t 65))]⟩,none),
 (⟨some 67,none,none,true,.app 3 1 8 (.t 64) (.t 66)⟩,none),
 (o 68 (.XV 1 (.t 50) (.t 54)),none),
 (⟨none,none,none,true,.st 1 (.t 68) (.t 67)⟩,none)]):=by kernel_rfl
noncomputable def OO:RC:=(sO [VF 43 3 42 41] (sQ (cS 43 (.exit 2)) (sQ (.block 3 (sO [om 44 42,YS 45 1 40 42,Ze 46 45,om 6 44,om 7 46] (.raw vq))) (oP [Vw 69 3 42 1,om 42 69]))))
noncomputable def Ln:RC:=(sO [VF 30 3 29 28] (sQ (cS 30 (.exit 0)) (sQ (.block 1 (sO [om 31 29,om 5 31] (sO [om 32 4,om 33 5,YR 34 1 1,Ze 35 34,Wj 36 35,o 37 (.raw (.makeSlice 39 (.tmp 36) (.tmp 36))),YS 38 1 32 33,U5 1 38 37] (sO [YR 39 1 1,Ze 40 39,Wj 41 40,WZ 42 0] (.block 2 (.loop OO)))))) (oP [Vw 70 3 29 1,om 29 70]))))
noncomputable def Lm:RC:=(sO [VF 77 3 76 75] (sQ (cS 77 (.exit 4)) (sQ (.block 5 (sO [om 78 76,om 9 78] (oP [om 79 8,om 80 9,Kl 81 3 1 1 0 0 1 80,Pg 82 3 1 8 79 81,om 8 82]))) (oP [Vw 83 3 76 1,om 76 83]))))
noncomputable def OM:RC:=(sO [VF 138 3 137 136] (sQ (cS 138 (.exit 12)) (sQ (.block 13 (sO [YS 139 1 135 137,Ze 140 139,om 17 140] (sO [om 141 3,om 142 17,RL 143 171 141 142] (cT 143 (oP [om 144 13,om 145 3,UY 146 145,YR 147 2 146,Ze 148 147,om 149 17,YS 150 1 148 149,Ze 151 150,Kl 152 3 1 1 0 0 1 151,Pg 153 3 1 8 144 152,om 13 153]))))) (oP [Vw 154 3 137 1,om 137 154]))))
noncomputable def Ll:RC:=(sO [VF 126 3 125 124] (sQ (cS 126 (.exit 10)) (sQ (.block 11 (sO [YS 127 1 123 125,Ze 128 127,om 15 128] (sO [om 129 4,om 130 12,YS 131 1 129 130,Ze 132 131,om 133 15,YS 134 1 132 133,Ze 135 134,Wj 136 135,WZ 137 0] (.block 12 (.loop OM))))) (oP [Vw 155 3 125 1,om 125 155]))))
noncomputable def N4:RC:=(sO [VF 159 3 158 157] (sQ (cS 159 (.exit 14)) (sQ (.block 15 (sO [YS 160 1 156 158,Ze 161 160,om 19 161] (sO [om 162 3,om 163 19,RL 164 172 162 163,om 20 164] (sO [om 165 20,Is 166 3 165 0] (cT 166 (oP [om 167 8,om 168 20,Kl 169 3 1 1 0 0 1 168,Pg 170 3 1 8 167 169,om 8 170])))))) (oP [Vw 171 3 158 1,om 158 171]))))
noncomputable def LJ:RC:=(sO [VF 121 3 120 119] (sQ (cS 121 (.exit 8)) (sQ (.block 9 (sO [om 122 120,om 12 122] (sO [Ra 13] (sQ (sO [om 123 11,Wj 124 123,WZ 125 0] (.block 10 (.loop Ll))) (sO [om 156 13,Wj 157 156,WZ 158 0] (.block 14 (.loop N4))))))) (oP [Vw 172 3 120 1,om 120 172]))))
noncomputable def Lk:RC:=(sQ (sO [om 84 8,Wj 85 84,Oc 86 3 85 0] (cS 86 (.exit 6))) (.block 7 (sO [om 87 8,om 88 8,Wj 89 88,Vz 90 3 89 1,YS 91 1 87 90,Ze 92 91,om 10 92] (sO [om 93 8,om 94 8,Wj 95 94,Vz 96 3 95 1,o 97 (.fK 1 (.t 93) none (some (.t 96))),om 8 97] (sQ (.Wq 21 [om 98 3,UY 99 98,YR 100 0 99,Ze 101 100,om 102 3,UY 103 102,YR 104 3 103,Ze 105 104,om 106 10,YS 107 1 105 106,Ze 108 107,om 109 3,UY 110 109,YR 111 4 110,Ze 112 111,om 113 10,YS 114 1 112 113,Ze 115 114,o 116 (.fK 1 (.t 101) (some (.t 108)) (some (.t 115))),⟨some 117,none,none,true,.call 170 [(.t 116)]⟩,om 11 117]) (sO [om 118 4,Wj 119 118,WZ 120 0] (.block 8 (.loop LJ))))))))
noncomputable def aK:RC:=(sO [TW 1 42 0,Ra 2] (sO [Xr 21 3 1,Vf 22 169 21,om 3 22] (sO [YR 23 0 1,Ze 24 23,AT 25 3 1 24,o 26 (.raw (.makeSlice 259 (.tmp 25) (.tmp 25))),om 4 26] (sQ (sO [om 27 4,Wj 28 27,WZ 29 0] (.block 0 (.loop Ln))) (sO [Ra 8] (sQ (sO [om 71 3,UY 72 71,YR 73 3 72,Ze 74 73,Wj 75 74,WZ 76 0] (.block 4 (.loop Lm))) (sQ (.block 6 (.loop Lk)) (sO [om 173 3,UY 174 173,YR 175 2 174,Ze 176 175,om 2 176] .ret))))))))
theorem ac0:YQ 130=some ([.tmp 2],aK):=by kernel_rfl
noncomputable def vn:Code:=I4 169 0
theorem jO:Pf U vn=some (11,[(o 16 (.fa 1 (.t 1)),none),
 (o 17 (.Zk (.t 16)),none),
 (o 18 (.Zf (.t 17)),none),
 (⟨some 19,none,some 3,false,.raw (.makeSlice 48 (.tmp 18) (.tmp 18))⟩,none),
 (o 20 (.fa 1 (.t 1)),none),
 (o 21 (.Zk (.t 20)),some (0,0)),
 (o 22 (.Zf (.t 21)),some (0,0)),
 (⟨some 23,none,some 7,false,.raw (.makeSlice 48 (.tmp 22) (.tmp 22))⟩,none),
 (o 24 (.JE [.ZR,.ZR,.ZR,.ZR,.ZR,.ZR] [(1,1,(.t 19)),(2,1,(.t 23))]),none),
 (⟨some 25,none,some 9,false,.box 261 (.t 24)⟩,none),
 (om 3 25,none)]):=by kernel_rfl
noncomputable def Lz:RC:=(sO [VF 38 3 37 36] (sQ (cS 38 (.exit 2)) (sQ (.block 3 (sO [YS 39 1 35 37,Ze 40 39,om 10 40] (oP [om 41 10,Vf 42 215 41,RL 43 79 8 42]))) (oP [Vw 44 3 37 1,om 37 44]))))
noncomputable def Lj:RC:=(sO [VF 31 3 30 29] (sQ (cS 31 (.exit 0)) (sQ (.block 1 (sO [om 32 30,YS 33 1 28 30,Ze 34 33,om 6 32,om 7 34] (sO [o 8 (.al [.U',.ZR] 150)] (sQ (sO [om 35 7,Wj 36 35,WZ 37 0] (.block 2 (.loop Lz))) (sO [Vf 45 81 8,om 11 45] (sQ (sO [om 46 4,om 47 11,af4 48 286 46 47,Wj 49 48,Mg 50 3 49 0] (cT 50 (oP [om 51 5,om 52 11,o 53 (.VC 9 1 1 [(.str [])] [(0,1,(.t 52))]),Pg 54 9 1 16 51 53,om 5 54]))) (oP [om 55 4,om 56 11,om 57 4,om 58 11,af4 59 286 57 58,om 60 6,Kl 61 3 1 1 0 0 1 60,Pg 62 3 1 8 59 61,oS (.raw (.mapUpdate 286 (.tmp 55) (.tmp 56) (.tmp 62)))]))))))) (oP [Vw 63 3 30 1,om 30 63]))))
noncomputable def CU:Code:=I4 169 1
theorem jN:Pf U CU=some (25,[(om 71 3,none),
 (om 72 3,none),
 (om 73 3,none),
 (o 74 (.raw (.nilCheck (.tmp 73))),none),
 (o 75 (.fa 3 (.t 74)),none),
 (o 76 (.Zk (.t 75)),none),
 (om 77 3,none),
 (o 78 (.raw (.nilCheck (.tmp 77))),none),
 (o 79 (.fa 0 (.t 78)),none),
 (o 80 (.Zk (.t 79)),none),
 (o 81 (.Zf (.t 80)),none),
 (⟨some 82,none,some 11,false,.VC 3 1 1 [(.int .i64 0)] [(0,1,(.t 81))]⟩,none),
 (⟨some 83,none,none,true,.app 3 1 8 (.t 76) (.t 82)⟩,none),
 (om 84 3,none),
 (o 85 (.raw (.nilCheck (.tmp 84))),none),
 (o 86 (.fa 5 (.t 85)),none),
 (o 87 (.Zk (.t 86)),some (0,1)),
 (⟨some 88,none,some 17,false,.VC 3 1 1 [(.int .i64 0)] [(0,1,(.v (.int .i64 0)))]⟩,none),
 (⟨some 89,none,none,true,.app 3 1 8 (.t 87) (.t 88)⟩,none),
 (o 90 (.raw (.nilCheck (.tmp 71))),none),
 (o 91 (.fa 3 (.t 90)),none),
 (⟨none,none,none,true,.st 1 (.t 91) (.t 83)⟩,none),
 (o 92 (.raw (.nilCheck (.tmp 72))),none),
 (o 93 (.fa 5 (.t 92)),none),
 (⟨none,none,none,true,.st 1 (.t 93) (.t 89)⟩,none)]):=by kernel_rfl
noncomputable def N3:RC:=(sO [VF 99 3 98 97] (sQ (cS 99 (.exit 6)) (sQ (.block 7 (sO [YS 100 1 96 98,Ze 101 100,om 15 101] (sQ (.Wq 20 [om 102 3,UY 103 102,YR 104 1 103,Ze 105 104,om 106 15,om 107 3,UY 108 107,YR 109 2 108,Ze 110 109,om 111 15,om 112 3,UY 113 112,YR 114 0 113,Ze 115 114,Wj 116 115,om 117 12,YS 118 1 105 106,⟨none,none,none,true,.st 1 (.t 118) (.t 116)⟩,YS 119 1 110 111,⟨none,none,none,true,.st 1 (.t 119) (.t 117)⟩]) (oP [om 120 3,om 121 3,UY 122 121,YR 123 0 122,Ze 124 123,om 125 15,Kl 126 3 1 1 0 0 1 125,Pg 127 3 1 8 124 126,UY 128 120,YR 129 0 128,U5 1 129 127])))) (oP [Vw 130 3 98 1,om 98 130]))))
noncomputable def LB:RC:=(sO [VF 67 3 66 65] (sQ (cS 67 (.exit 4)) (sQ (.block 5 (sO [om 68 66,YS 69 1 64 66,Ze 70 69,om 12 68,om 13 70] (sQ (.raw CU) (sQ (sO [om 94 4,om 95 13,af4 96 286 94 95,Wj 97 96,WZ 98 0] (.block 6 (.loop N3))) (.Wq 15 [om 131 3,om 132 3,UY 133 132,YR 134 4 133,Ze 135 134,om 136 3,UY 137 136,YR 138 0 137,Ze 139 138,Wj 140 139,⟨some 141,none,some 10,false,.VC 3 1 1 [(iI 0)] [(0,1,(.t 140))]⟩,⟨some 142,none,none,true,.app 3 1 8 (.t 135) (.t 141)⟩,UY 143 131,YR 144 4 143,⟨none,none,none,true,.st 1 (.t 144) (.t 142)⟩]))))) (oP [Vw 145 3 66 1,om 66 145]))))
noncomputable def jM:RC:=(sO [TW 1 42 0,o 2 (.Z1 (.v .U'))] (sQ (.raw vn) (sO [vL 26 286,om 4 26] (sO [Ra 5] (sQ (sO [YR 27 2 1,Ze 28 27,Wj 29 28,WZ 30 0] (.block 0 (.loop Lj))) (sQ (sO [om 64 5,Wj 65 64,WZ 66 0] (.block 4 (.loop LB))) (sO [om 146 3,om 2 146] .ret)))))))
theorem ac1:YQ 169=some ([.tmp 2],jM):=by kernel_rfl
noncomputable def vk:Code:=I4 172 0
theorem vj:Pf U vk=some (32,[(om 84 0,none),
 (om 85 0,none),
 (om 86 0,none),
 (om 87 0,none),
 (o 88 (.raw (.nilCheck (.tmp 87))),none),
 (o 89 (.fa 3 (.t 88)),none),
 (o 90 (.Zk (.t 89)),none),
 (om 91 7,none),
 (⟨some 92,none,some 8,false,.VC 3 1 1 [(.int .i64 0)] [(0,1,(.t 91))]⟩,none),
 (⟨some 93,none,none,true,.app 3 1 8 (.t 90) (.t 92)⟩,none),
 (om 94 0,none),
 (o 95 (.raw (.nilCheck (.tmp 94))),none),
 (o 96 (.fa 4 (.t 95)),none),
 (o 97 (.Zk (.t 96)),some (0,1)),
 (om 98 8,none),
 (⟨some 99,none,some 15,false,.VC 3 1 1 [(.int .i64 0)] [(0,1,(.t 98))]⟩,none),
 (⟨some 100,none,none,true,.app 3 1 8 (.t 97) (.t 99)⟩,none),
 (om 101 0,none),
 (o 102 (.raw (.nilCheck (.tmp 101))),none),
 (o 103 (.fa 5 (.t 102)),none),
 (o 104 (.Zk (.t 103)),some (0,2)),
 (⟨some 105,none,some 21,false,.VC 3 1 1 [(.int .i64 0)] [(0,1,(.v (.int .i64 0)))]⟩,none),
 (⟨some 106,none,none,true,.app 3 1 8 (.t 104) (.t 105)⟩,none),
 (o 107 (.raw (.nilCheck (.tmp 84))),none),
 (o 108 (.fa 3 (.t 107)),none),
 (⟨none,none,none,true,.st 1 (.t 108) (.t 93)⟩,none),
 (o 109 (.raw (.nilCheck (.tmp 85))),none),
 (o 110 (.fa 4 (.t 109)),none),
 (⟨none,none,none,true,.st 1 (.t 110) (.t 100)⟩,none),
 (o 111 (.raw (.nilCheck (.tmp 86))),none),
 (o 112 (.fa 5 (.t 111)),none),
 (⟨none,none,none,true,.st 1 (.t 112) (.t 106)⟩,none)]):=by kernel_rfl
noncomputable def N0:RC:=(sO [VF 122 3 121 120] (sQ (cS 122 (.exit 0)) (sQ (.block 1 (sO [YS 123 1 119 121,Ze 124 123,om 10 124] (.Wq 13 [om 125 0,UY 126 125,YR 127 2 126,Ze 128 127,om 129 10,om 130 0,UY 131 130,YR 132 3 131,Ze 133 132,Wj 134 133,Vz 135 3 134 1,YS 136 1 128 129,⟨none,none,none,true,.st 1 (.t 136) (.t 135)⟩]))) (oP [Vw 137 3 121 1,om 121 137]))))
noncomputable def vi:RC:=(sO [WZ 4 0] (sQ (.Wq 24 [om 11 0,UY 12 11,YR 13 5 12,Ze 14 13,om 15 1,YS 16 1 14 15,Ze 17 16,om 18 0,UY 19 18,YR 20 4 19,Ze 21 20,om 22 1,YS 23 1 21 22,Ze 24 23,om 25 0,UY 26 25,YR 27 3 26,Ze 28 27,om 29 1,YS 30 1 28 29,Ze 31 30,Mm 32 3 24 31,om 5 17,om 6 32]) (sO [om 33 0,UY 34 33,YR 35 5 34,Ze 36 35,om 37 1,YS 38 1 36 37,oS (.st 1 (.t 38) (vI 0))] (sQ (sO [om 39 5,om 40 6,af2 41 3 39 40] (cT 41 (sO [o 4 (.Z1 (vI (-1)))] .ret))) (sQ (.Wq 18 [om 42 0,UY 43 42,YR 44 3 43,Ze 45 44,om 46 1,YS 47 1 45 46,Ze 48 47,om 49 0,UY 50 49,YR 51 3 50,Ze 52 51,om 53 1,YS 54 1 52 53,Ze 55 54,om 56 5,UD 57 3 55 56,om 7 48,om 8 57]) (sQ (sO [om 58 5,o 59 (.bin .mul 3 true (vI 2) (.t 58)),om 60 6,Bq 61 3 59 60] (cO 61 (sQ (.Wq 10 [om 62 8,om 63 0,UY 64 63,YR 65 4 64,Ze 66 65,om 67 1,YS 68 1 66 67,Ze 69 68,om 7 62,om 8 69]) (oP [om 70 0,UY 71 70,YR 72 4 71,Ze 73 72,om 74 1,om 75 7,YS 76 1 73 74,U5 1 76 75])) (oP [om 77 0,UY 78 77,YR 79 3 78,Ze 80 79,om 81 1,om 82 8,YS 83 1 80 81,U5 1 83 82]))) (sQ (.raw vk) (sQ (sO [om 113 0,UY 114 113,YR 115 0 114,Ze 116 115,om 117 7,om 118 8,o 119 (.fK 1 (.t 116) (some (.t 117)) (some (.t 118))),Wj 120 119,WZ 121 0] (.block 0 (.loop N0))) (sO [om 138 0,UY 139 138,YR 140 3 139,Ze 141 140,Wj 142 141,Vz 143 3 142 1,om 4 143] .ret)))))))))
theorem ac2:YQ 172=some ([.tmp 4],vi):=by kernel_rfl
end Go.Am
namespace Go.Am
open Go
variable [Z3]
set_option maxRecDepth 100000
set_option maxHeartbeats 4000000
structure O8 (s:St)(pb n bl bp bs bb be bm:Nat)(p:Pt):Prop where
 g:s.get pb=some (.cells [.sl bl 0 p.list.length none 1,.sl bp 0 p.place.length (some n) 1,.sl bs 0 p.set.length (some n) 1,.sl bb 0 p.bg.length none 1,.sl be 0 p.en.length none 1,.sl bm 0 p.mr.length none 1] 261 false 0 0)
 gl:s.get bl=some (.cells (ZO p.list) 3 false 0 0)
 gp:s.get bp=some (.cells (ZO p.place) 3 false 0 0)
 gs:s.get bs=some (.cells (ZO p.set) 3 false 0 0)
 gb:s.get bb=some (.cells (ZO p.bg) 3 false 0 0)
 ge:s.get be=some (.cells (ZO p.en) 3 false 0 0)
 gm:s.get bm=some (.cells (ZO p.mr) 3 false 0 0)
 ne:[pb,bl,bp,bs,bb,be,bm].Nodup
 lt:∀j∈[pb,bl,bp,bs,bb,be,bm],j<s.next
theorem O8.mono {s s':St}{pb n bl bp bs bb be bm:Nat}{p:Pt}(h:O8 s pb n bl bp bs bb be bm p)(hn:s.next<=s'.next)(hg:∀j∈[pb,bl,bp,bs,bb,be,bm],s'.get j=s.get j):O8 s' pb n bl bp bs bb be bm p :=
 ⟨(hg _ (by simp)).trans h.g,(hg _ (by simp)).trans h.gl,(hg _ (by simp)).trans h.gp,(hg _ (by simp)).trans h.gs,(hg _ (by simp)).trans h.gb,(hg _ (by simp)).trans h.ge,(hg _ (by simp)).trans h.gm,h.ne,fun j hj=>Nat.lt_of_lt_of_le (h.lt j hj) hn⟩
structure Ap (pb bl bp bs bb be bm:Nat):Prop where
 n1:pb≠bl
 n2:pb≠bp
 n3:pb≠bs
 n4:pb≠bb
 n5:pb≠be
 n6:pb≠bm
 n7:bl≠bp
 n8:bl≠bs
 n9:bl≠bb
 HP:bl≠be
 vW:bl≠bm
 Iv:bp≠bs
 G2:bp≠bb
 cW:bp≠be
 Gq:bp≠bm
 A6:bs≠bb
 n17:bs≠be
 cV:bs≠bm
 cU:bb≠be
 nr:bb≠bm
 kz:be≠bm
theorem Ap.of {pb bl bp bs bb be bm:Nat}(ne:[pb,bl,bp,bs,bb,be,bm].Nodup):Ap pb bl bp bs bb be bm:=by
 simp only[afI,afa,List.not_mem_nil,not_or,or_false,List.nodup_nil,and_true] at ne;obtain⟨⟨n1,n2,n3,n4,n5,n6⟩,⟨n7,n8,n9,HP,vW⟩,⟨Iv,G2,cW,Gq⟩,⟨A6,n17,cV⟩,⟨cU,nr⟩,kz,-⟩:=ne;exact⟨n1,n2,n3,n4,n5,n6,n7,n8,n9,HP,vW,Iv,G2,cW,Gq,A6,n17,cV,cU,nr,kz⟩
theorem nG (args:List AV)(s:St):YX U (Zv U 171 args) 171 args s=WW U 171 args s:=(Zu U 171 args s).symm
theorem nq (args:List AV)(s:St):YX U (Zv U 172 args) 172 args s=WW U 172 args s:=(Zu U 172 args s).symm
theorem cR (args:List AV)(s:St):YX U (Zv U 169 args) 169 args s=WW U 169 args s:=(Zu U 169 args s).symm
def cQ (s0:St)(pb n bl bp bs bb be bm:Nat)(p:Pt)(v:Bool)(r:Option (AV×St)):Prop :=
 ∃s',r=some (.bool v,s')/\O8 s' pb n bl bp bs bb be bm p/\s0.next<=s'.next/\Fr s'/\∀j,j<s0.next->j≠bl->j≠bp->j≠bm->s'.get j=s0.get j
theorem abC {s:St}{pb n bl bp bs bb be bm:Nat}{p:Pt}(h:O8 s pb n bl bp bs bb be bm p)(hw:p.Wf n)(hn:n<=2^20)(fr:Fr s){u:Nat}(hu:u<n) :
  cQ s pb n bl bp bs bb be bm (p.XT u).1 (p.XT u).2 (WW U 171 [.ptr pb 0,.int .i64 (u:Int)] s):=by
 suffices TK:cQ s pb n bl bp bs bb be bm (p.XT u).1 (p.XT u).2 (go U (XZ U [.tmp 4]) [] qB (ZM 0 [.ptr pb 0,.int .i64 (u:Int)] .nil) s) by
  obtain⟨s',h1,h2⟩:=TK;exact⟨s',Y3 ab5 (by kernel_rfl) h1,h2⟩
 obtain⟨Ur,WC,LI⟩:=hw.st u hu;obtain⟨FA,zw,hk3⟩:=hw.sp _ Ur;obtain⟨Je,Pn⟩:=hw.pl u hu;obtain⟨g,gl,gp,gs,gb,ge,gm,ne,lt⟩:=h;have nd:=ne;have A:=Ap.of nd;clear ne;have IT:=hw.ll;have hlp:=hw.lp;have ky:=hw.ls;have hle:=hw.le;have kV:=hw.lm;have q1:=Y1 (l:=p.set) (i:=u) (by omega);have q2:=Y1 (l:=p.place) (i:=u) (by omega);have Te:=hw.few;have lt':pb<s.next/\bl<s.next/\bp<s.next/\bs<s.next/\bb<s.next/\be<s.next/\bm<s.next:=by
  refine⟨lt _ (by simp),lt _ (by simp),lt _ (by simp),lt _ (by simp),lt _ (by simp),lt _ (by simp),lt _ (by simp)⟩
 obtain⟨nk,qA,kx,cP,qz,ku,qy⟩:=lt';unfold Pt.XT;generalize hs:gt p.set u=k at *;generalize ha:gt p.place u=x at *;have q3:=Y1 (l:=p.bg) (i:=k) Ur;have q4:=Y1 (l:=p.mr) (i:=k) (by omega);have hbk:=FA;have w1:IntKind.i64.wrap (((gt p.bg k:Nat):Int)+((gt p.mr k:Nat):Int))=((gt p.bg k+gt p.mr k:Nat):Int):=by
  have:=hw.mr k Ur;rw[wrap_i64] <;> omega
 have u1:u<p.set.length:=by omega
 have u2:u<p.place.length:=by omega
 have k2:k<p.mr.length:=by omega
 have FN:=hw.mr k Ur;generalize ht:gt p.bg k+gt p.mr k=t at *
 cases hm:decide (x<t) with
 |true =>
  have hmI:decide ((x:Int)<(t:Int))=true:=by rw[Z8];exact hm
  simp only[go_sem,qB,g,gl,gp,gs,gb,gm,q1,q2,q3,q4,u1,u2,k2,Ur,w1,hmI,ae3];exact⟨_,rfl,O8.mono ⟨g,gl,gp,gs,gb,ge,gm,nd,lt⟩ (by rw[Z_];omega) fun j _=>Z0 _ _ _,by rw[Z_];omega,fr.upto (by omega),fun j _ _ _ _=>Z0 _ _ _⟩
 |false =>
  have cM:¬x<t:=by simpa using hm
  have kr:t<n:=by omega
  have hmI:decide ((x:Int)<(t:Int))=false:=by rw[Z8];exact hm
  obtain⟨Ae,FY⟩:=hw.li t kr;have q5:=Y1 (l:=p.list) (i:=t) (by omega);generalize ho:gt p.list t=o at *;have y1:=Xw (l:=p.list) (i:=x) o (by omega);have y2:=Xw (l:=p.list.set x o) (i:=t) u (by rw[afi];omega);have y3:=Xw (l:=p.place) (i:=o) x (by omega);have y4:=Xw (l:=p.place.set o x) (i:=u) t (by rw[afi];omega);have y5:=Xw (l:=p.mr) (i:=k) (gt p.mr k+1) (by omega);have q6:=Y1 (l:=p.mr.set k (gt p.mr k+1)) (i:=k) (by rw[afi];omega);rw[VG,if_pos ⟨rfl,by omega⟩] at q6;have w2:IntKind.i64.wrap (((gt p.mr k:Nat):Int)+1)=((gt p.mr k+1:Nat):Int):=by rw[wrap_i64] <;> omega
  have e1:(((gt p.mr k+1:Nat):Int)==1)=(gt p.mr k+1==1):=cL (gt p.mr k+1) 1;have u3:x<p.list.length:=by omega
  have u4:t<p.list.length:=by omega
  have u5:o<p.place.length:=by omega
  have z1:(bl=pb)=False:=eq_false A.n1.symm;have z2:(bl=bp)=False:=eq_false A.n7;have z3:(bl=bm)=False:=eq_false A.vW;have z4:(bp=pb)=False:=eq_false A.n2.symm;have z5:(bp=bm)=False:=eq_false A.Gq;have z6:(bm=pb)=False:=eq_false A.n6.symm;simp only[go_sem,qB,g,gl,gp,gs,gb,gm,q1,q2,q3,q4,q5,q6,u1,u2,u3,u4,u5,k2,Ur,w1,w2,hmI,ae3,y1,y2,y3,y4,y5,z1,z2,z3,z4,z5,z6,e1];refine⟨_,rfl,⟨?_,?_,?_,?_,?_,?_,?_,nd,fun j hj=>?_⟩,?_,?_,fun j h1 h2 h3 h4=>?_⟩
  ·rw[Z7,if_neg A.n6.symm,Z7,if_neg A.n2.symm,Z7,if_neg A.n2.symm,Z0,Z7,if_neg A.n1.symm,Z7,if_neg A.n1.symm,Z0,Z0,g];simp only[afi]
  ·rw[Z7,if_neg A.vW.symm,Z7,if_neg A.n7.symm,Z7,if_neg A.n7.symm,Z0,Z7,if_pos rfl]
  ·rw[Z7,if_neg A.Gq.symm,Z7,if_pos rfl]
  ·rw[Z7,if_neg A.cV.symm,Z7,if_neg A.Iv,Z7,if_neg A.Iv,Z0,Z7,if_neg A.n8,Z7,if_neg A.n8,Z0,Z0,gs]
  ·rw[Z7,if_neg A.nr.symm,Z7,if_neg A.G2,Z7,if_neg A.G2,Z0,Z7,if_neg A.n9,Z7,if_neg A.n9,Z0,Z0,gb]
  ·rw[Z7,if_neg A.kz.symm,Z7,if_neg A.cW,Z7,if_neg A.cW,Z0,Z7,if_neg A.HP,Z7,if_neg A.HP,Z0,Z0,ge]
  ·rw[Z7,if_pos rfl]
  ·simp only[Z9,Z_];have:=lt j hj;omega
  ·simp only[Z9,Z_];omega
  ·exact (((((((fr.upto (by omega)).upto (by rw[Z_];omega)).put (by rw[Z_];omega) _).put (by rw[Z9,Z_];omega) _).upto (by rw[Z9,Z9,Z_];omega)).put (by rw[Z_];omega) _).put (by rw[Z9,Z_];omega) _).put (by rw[Z9,Z9,Z_];omega) _
  ·rw[Z7,if_neg h4.symm,Z7,if_neg h3.symm,Z7,if_neg h3.symm,Z0,Z7,if_neg h2.symm,Z7,if_neg h2.symm,Z0,Z0]
end Go.Am
namespace Go.Am
open Go
variable [Z3]
set_option maxRecDepth 100000
set_option maxHeartbeats 8000000
def aac:RC:=(sO [WZ 4 0,o 5 (.Z1 (.v .TH))] (sO [om 6 0,Vf 7 147 6] (sO [om 8 0,om 9 0,UY 10 9,YR 11 1 10,Ze 12 11,om 13 1,Pg 14 5 1 1 12 13,UY 15 8,YR 16 1 15,U5 1 16 14] (sO [om 17 1,o 18 (.pS (.t 17)),om 4 18,o 5 (.Z1 (.v .TH))] .ret))))
theorem ade:YQ 79=some ([.tmp 4,.tmp 5],aac):=by kernel_rfl
def iW:RC:=(sO [o 2 (.Z1 (.v (.str [])))] (sQ (.Wq 12 [om 3 0,UY 4 3,YR 5 1 4,Ze 6 5,o 7 (.raw (.call { callee:=.builtin .unsafeSliceData,args:=#[(.tmp 6)],argTypes:=#[148] })),om 8 0,UY 9 8,YR 10 1 9,Ze 11 10,Wj 12 11,⟨some 13,none,none,true,.raw (.call { callee:=.builtin .unsafeString,args:=#[(.tmp 7),(.tmp 12)],argTypes:=#[228,3] })⟩,om 2 13]) .ret))
theorem aad:YQ 81=some ([.tmp 2],iW):=by kernel_rfl
def aae:RC:=(sO [o 2 (.Z1 (.v (.str [])))] (sO [om 3 0,Vf 4 251 3,om 2 4] .ret))
theorem adf:YQ 215=some ([.tmp 2],aae):=by kernel_rfl
def aaf:RC:=(sO [o 2 (.Z1 (.v (.str [])))] (sQ (sO [om 3 0] (cT 3 (sO [o 2 (.Z1 (.v (.str [116,114,117,101])))] .ret))) (sO [o 2 (.Z1 (.v (.str [102,97,108,115,101])))] .ret)))
theorem adg:YQ 251=some ([.tmp 2],aaf):=by kernel_rfl
def Xt (bs:Uw):List AV:=bs.map fun c=>.int .u8 c.toNat
theorem Py (bs:Uw):(Xt bs).length=bs.length:=by simp[Xt]
theorem GJ (bs:Uw):(Xt bs).all Zw=true:=by
 induction bs with
 |nil=>rfl
 |cons c l ih=>rw[Xt,afm,List.all_cons];exact ih
theorem EC (bs:Uw):Yh (Xt bs)=some bs:=by
 induction bs with
 |nil=>rfl
 |cons c l ih =>
  show Yh (.int .u8 c.toNat::Xt l)=_;simp only[Yh,ih,Int.toNat_natCast,UInt8.ofNat_toNat]
def zK (s:St)(b:Nat)(bs:Uw):Prop:=∃p v,s.get b=some (.cells [p,v] 150 false 0 0)/\(p=.U'\/p=.ptr b 0)/\b<s.next/\Zi s (b+1) 5 1 bs.length (Xt bs) v
theorem ado (args:List AV)(s:St):YX U (Zv U 147 args) 147 args s=WW U 147 args s:=(Zu U 147 args s).symm
theorem dK (args:List AV)(s:St):YX U (Zv U 79 args) 79 args s=WW U 79 args s:=(Zu U 79 args s).symm
theorem mM (args:List AV)(s:St):YX U (Zv U 81 args) 81 args s=WW U 81 args s:=(Zu U 81 args s).symm
theorem o0 (args:List AV)(s:St):WW U 147 args s=Qo args s:=by
 unfold WW Wa;rw[FK];rfl
theorem adp {s:St}{b:Nat}{p v:AV}(hg:s.get b=some (.cells [p,v] 150 false 0 0))(hp:p=.U'\/p=.ptr b 0)(hb:b<s.next) :
  ∃s0,WW U 147 [.ptr b 0] s=some (.X' [],s0)/\s0.next=s.next/\s0.get b=some (.cells [.ptr b 0,v] 150 false 0 0)/\(∀j,j≠b->s0.get j=s.get j)/\(Fr s->Fr s0):=by
 rw[o0];rcases hp with rfl|rfl
 ·refine⟨s.put b (.cells [.ptr b 0,v] 150 false 0 0),by simp only[Qo,hg,if_true],rfl,by rw[Z7,if_pos rfl],fun j hj=>by rw[Z7,if_neg (by omega)],fun h=>h.put hb _⟩
 ·exact⟨s,by simp only[Qo,hg,if_true],rfl,hg,fun _ _=>rfl,fun h=>h⟩
theorem GI (t:Uw)(s:St):Wt 1 (.str t) s=some (t.length,Xt t):=rfl
theorem abL {s:St}{b:Nat}{bs:Uw}(h:zK s b bs)(hf:Fr s)(t:Uw)(ht:t≠[])(hlen:bs.length+t.length<=2^39) :
  ∃s' r,WW U 79 [.ptr b 0,.str t] s=some (r,s')/\zK s' b (bs++t)/\Fr s'/\s.next<=s'.next/\∀j,j<b->s'.get j=s.get j:=by
 obtain⟨p,v,hg,hp,hb,hv⟩:=h;obtain⟨s0,g1,g2,g3,g4,g5⟩:=adp hg hp hb;have Db:=hv.WK;have RQ:(bs.length+t.length)*1<=1099511627776:=by omega
 have TG:bs.length+t.length<=1099511627776:=by omega
 have ml:(t.length=0)=False:=by simp[ht]
 have Ix:Zi s0 (b+1) 5 1 bs.length (Xt bs) v:=hv.mono (by omega) fun j hj rX=>g4 j (by omega)
 obtain⟨s1,e1,e2,e3,e4,e5⟩:=Ix.app (by omega) (m:=t.length) (new:=Xt t) (by intro h0;simp[ht] at h0) (by rw[Py];omega) (GJ t);have kb:=e4 b (by omega);rw[g3] at kb;rw[g2] at e1 e2 e3;refine⟨s1.put b (.cells [.ptr b 0,.sl s.next 0 (bs.length+t.length) none 1] 150 false 0 0),.X' [.int .i64 t.length,.TH],?_,⟨.ptr b 0,.sl s.next 0 (bs.length+t.length) none 1,by rw[Z7,if_pos rfl],.inr rfl,by rw[Z9];omega,?_⟩,(e5 (g5 hf)).put (by omega) _,by rw[Z9];omega,fun j hj=>?_⟩
 ·refine Y3 ade (by kernel_rfl) ?_;simp only[go_sem,aac,ado,g1,g2,g3,GI,Nat.add_eq_left,ZD,Db,RQ,TG,Nat.reducePow,Py,ml,ae3,not_false_eq_true];rw[e1];simp only[go_sem,kb]
 ·have hl:(bs++t).length=bs.length+t.length:=by simp
  rw[hl];have mc:Xt (bs++t)=Xt bs++Xt t:=by simp[Xt]
  rw[mc];exact e3.mono (by rw[Z9];omega) fun j hj _=>by rw[Z7,if_neg (by omega)]
 ·rw[Z7,if_neg (by omega),e4 j (by omega),g4 j (by omega)]
def sdK (v:Option AV)(s:St):Option (AV×St):=match v with
 |some .ZR=>some (.U',s)
 |some (.sl b o (_+1) _ _)=>some (.ptr b o,s)
 |_=>none
theorem iR (ex:Ex)(e:Env)(s:St)(x:Operand)(ts:Array TypeId):Zb U ex e (.call { callee:=.builtin .unsafeSliceData,args:=#[x],argTypes:=ts }) s=sdK (eval U e x) s:=by
 have h:Zb U ex e (.call { callee:=.builtin .unsafeSliceData,args:=#[x],argTypes:=ts }) s=match WR U e [x] with
  |some vs=>YT U .unsafeSliceData ts vs s
  |none=>none:=rfl
 rw[h];simp only[WR]
 cases eval U e x with
 |none=>rfl
 |some v =>
  cases v <;> try rfl
  rename_i b o n c z
  cases n <;> rfl
noncomputable def usK (ts:Array TypeId)(p n:Option AV)(s:St):Option (AV×St):=match p,n with
 |some p,some n=>YT U .unsafeString ts [p,n] s
 |_,_=>none
theorem iQ (ex:Ex)(e:Env)(s:St)(x y:Operand)(ts:Array TypeId):Zb U ex e (.call { callee:=.builtin .unsafeString,args:=#[x,y],argTypes:=ts }) s=usK ts (eval U e x) (eval U e y) s:=by
 have h:Zb U ex e (.call { callee:=.builtin .unsafeString,args:=#[x,y],argTypes:=ts }) s=match WR U e [x,y] with
  |some vs=>YT U .unsafeString ts vs s
  |none=>none:=rfl
 rw[h];simp only[WR]
 cases eval U e x with
 |none=>rfl
 |some v=>cases eval U e y <;> rfl
theorem tV (s:St):sdK (some .ZR) s=some (.U',s):=rfl
theorem iP (b o n:Nat)(c:Option Nat)(z:Nat)(s:St):sdK (some (.sl b o (n+1) c z)) s=some (.ptr b o,s):=rfl
theorem tU (ts:Array TypeId)(p n:AV)(s:St):usK ts (some p) (some n) s=YT U .unsafeString ts [p,n] s:=rfl
theorem iO (s:St):YT U .unsafeString #[228,3] [.U',.int .i64 0] s=some (.str [],s):=rfl
theorem iN {s:St}{j:Nat}{bs:Uw}{lo hi:Nat}(hg:s.get j=some (.cells (Xt bs) 5 false lo hi))(h0:bs≠[])(hl:bs.length<=2^39):YT U .unsafeString #[228,3] [.ptr j 0,.int .i64 bs.length] s=some (.str bs,s.put j (.cells (Xt bs) 5 true 0 0)):=by
 have hu:U.Zt 228=some (.pointer 5):=by kernel_rfl
 have ZQ:¬(bs.length:Int)=0:=by
  have:=List.length_pos_iff.2 h0;omega
 have hb:¬((bs.length:Int)<0\/(bs.length:Int)>2^40):=by omega
 unfold YT;simp only[if_neg ZQ,if_neg hb,hg];have hgr:YB bs.length 0 (Xt bs)=some (Xt bs):=by
  have:=XG (Xt bs)
  rwa [Py] at this
 simp[hu,bB,hgr,EC]
attribute [go_sem ↓] iR iQ
attribute [go_sem] tV iP tU iO
theorem aal {s:St}{b:Nat}{bs:Uw}(h:zK s b bs)(hf:Fr s)(hl:bs.length<=2^39):∃s',WW U 81 [.ptr b 0] s=some (.str bs,s')/\s.next<=s'.next/\Fr s'/\∀j,j<=b->s'.get j=s.get j:=by
 obtain⟨p,v,hg,hp,hb,hv⟩:=h;rcases hv with⟨h0,rfl,h2⟩|⟨h0,h1,j,h2,h3,rfl,h5⟩
 ·have:bs=[]:=afq.1 h0;subst this;refine⟨s.upto (s.next+12),Y3 aad (by kernel_rfl) ?_,by rw[Z_];omega,hf.upto (by omega),fun j _=>Z0 _ _ _⟩;simp only[go_sem,iW,hg]
 ·have ZQ:bs≠[]:=by rintro rfl;simp at h0
  have PS:=iN (s:=s.upto (s.next+12)) (bs:=bs) (j:=j) (by rw[Z0];exact h5) ZQ hl;obtain⟨n,hn⟩:∃n,bs.length=n+1:=⟨bs.length-1,by omega⟩;refine⟨(s.upto (s.next+12)).put j (.cells (Xt bs) 5 true 0 0),Y3 aad (by kernel_rfl) ?_,by rw[Z9,Z_];omega,(hf.upto (by omega)).put (by rw[Z_];omega) _,fun i hi=>by rw[Z7,if_neg (by omega),Z0]⟩;rw[hn] at hg PS;simp only[go_sem,iW,hg,PS]
def FB:Bool->Uw
 |true=>[116,114,117,101]
 |false=>[102,97,108,115,101]
theorem adq (x:Bool):Zv U 251 [.bool x]=some (.str (FB x)):=by
 refine Za adg (by kernel_rfl) rfl ?_
 cases x <;> simp only[go_sem,aaf,FB]
theorem abK (x:Bool):Zv U 215 [.bool x]=some (.str (FB x)):=by
 refine Za adf (by kernel_rfl) rfl ?_;have:=adq x;simp only[go_sem,aae,this]
def Tc (l:List Bool):Uw:=l.flatMap FB
theorem lj (x:Bool):FB x≠[]:=by cases x <;> simp[FB]
theorem Ka:∀{a b:List Bool},a.length=b.length->Tc a=Tc b->a=b
 |[],[],_,_=>rfl
 |x::a,y::b,hl,h=>by
  have oZ:a.length=b.length:=by simpa using hl
  simp only[Tc,afn] at h
  cases x <;> cases y <;> simp only[FB,List.cons_append,afP,List.cons.injEq] at h
  ·rw[Ka oZ h.2.2.2.2.2]
  ·exact absurd h.1 (by decide)
  ·exact absurd h.1 (by decide)
  ·rw[Ka oZ h.2.2.2.2]
 |[],_::_,h,_=>by simp at h
 |_::_,[],h,_=>by simp at h
def DY (es:List (Uw×AV)):List (AV×AV):=es.map fun x=>(AV.str x.1,x.2)
def Jk (k:Uw):List (Uw×AV)->Option AV
 |[]=>none
 |x::l=>bif k==x.1 then some x.2 else Jk k l
def Jj (k:Uw)(v:AV):List (Uw×AV)->List (Uw×AV)
 |[]=>[(k,v)]
 |x::l=>bif k==x.1 then (k,v)::l else x::Jj k v l
theorem II (k:Uw):∀es,Wd (.str k) (DY es)=some (Jk k es)
 |[]=>rfl
 |x::l=>by
  have ih:=II k l;show Wd (.str k) ((AV.str x.1,x.2)::DY l)=_;rw[Wd,Jk,Xc]
  cases k==x.1 with
  |true=>rfl
  |false=>exact ih
theorem FF (k:Uw)(v:AV):∀es,LU (.str k) v (DY es)=some (DY (Jj k v es))
 |[]=>rfl
 |x::l=>by
  have ih:=FF k v l;show LU (.str k) v ((AV.str x.1,x.2)::DY l)=_;rw[LU,Jj,Xc]
  cases k==x.1 with
  |true=>rfl
  |false=>simp only[ih];rfl
theorem IN {s:St}{m:Nat}{es:List (Uw×AV)}(h:s.get m=some (.map (DY es) false))(k:Uw):WI U 286 (.map m) (.str k) false s=some ((Jk k es).getD .ZR):=by
 have hu:U.Zt 286=some (.map 9 48):=by kernel_rfl
 have h9:U.Zt 9=some .string:=by kernel_rfl
 have hz:zero U 48=some .ZR:=by kernel_rfl
 unfold WI;rw[hu];simp only[WL,h9,if_true,h,II]
 cases Jk k es with
 |none=>simp only[hz];rfl
 |some v=>rfl
theorem zM {s:St}{m:Nat}{es:List (Uw×AV)}(h:s.get m=some (.map (DY es) false))(k:Uw)(v:AV):Xm U 286 (.map m) (.str k) v s=some (s.put m (.map (DY (Jj k v es)) false)):=by
 have hu:U.Zt 286=some (.map 9 48):=by kernel_rfl
 have h9:U.Zt 9=some .string:=by kernel_rfl
 unfold Xm;rw[hu];simp only[WL,h9,if_true,h,FF]
noncomputable def wP (t:TypeId)(m k v:Option AV)(s:St):Option (AV×St):=match m,k,v with
 |some m,some k,some v=>Ro (Xm U t m k v s)
 |_,_,_=>none
theorem Ji (ex:Ex)(e:Env)(s:St)(t:TypeId)(m k v:Operand):Zb U ex e (.mapUpdate t m k v) s=wP t (eval U e m) (eval U e k) (eval U e v) s:=by
 unfold wP;simp only[Zb];rfl
theorem FE (ex:Ex)(e:Env)(s:St)(t:TypeId)(m k v:Operand):Zb U ex e (.insert t m k v) s=wP t (eval U e m) (eval U e k) (eval U e v) s:=by
 unfold wP;simp only[Zb];rfl
theorem zL (t:TypeId)(m k v:AV)(s:St):wP t (some m) (some k) (some v) s=Ro (Xm U t m k v s):=(fun h=>h) rfl
theorem FD (ex:Ex)(e:Env)(s:St)(t:TypeId):Zb U ex e (.makeMap t none) s=some (.map s.next,s.new (.map [] false)):=(fun h=>h) rfl
attribute [go_sem ↓] Ji FE FD
attribute [go_sem] zL
def UP (len:Uw->Nat):List Uw->List Nat->List (Uw×AV)
 |k::ks,b::bs=>(k,.sl b 0 (len k) none 1)::UP len ks bs
 |_,_=>[]
theorem Hj {len:Uw->Nat}:∀{ks:List Uw} {bs:List Nat} {j:Nat} (hn:ks.Nodup) (hl:bs.length=ks.length) (h:j<ks.length),Jk ks[j] (UP len ks bs)=some (.sl (bs[j]'(by omega)) 0 (len ks[j]) none 1)
 |k::ks,b::bs,0,hn,hl,h=>by simp[UP,Jk]
 |k::ks,b::bs,j+1,hn,hl,h=>by
  rw[afI] at hn;have hj:j<ks.length:=by simpa using h
  have ih:=Hj (len:=len) (bs:=bs) hn.2 (by simpa using hl) hj;have ZQ:(ks[j]==k)=false:=by
   have:ks[j]≠k:=fun e=>hn.1 (e ▸ ae2 hj)
   simpa using this
  simp only[List.getElem_cons_succ,UP,Jk,ZQ,cond_false];exact ih
 |k::ks,[],_,_,hl,_=>by simp at hl
 |[],_,_,_,_,h=>by simp at h
theorem IG {len:Uw->Nat}{k:Uw}:∀{ks:List Uw} {bs:List Nat},k∉ks->Jk k (UP len ks bs)=none
 |[],bs,_=>by cases bs <;> rfl
 |x::ks,[],_=>rfl
 |x::ks,b::bs,h=>by
  rw[afa,not_or] at h;have ZQ:(k==x)=false:=by simpa using h.1
  simp only[UP,Jk,ZQ,cond_false];exact IG h.2
theorem KF {len Qd:Uw->Nat}:∀{ks:List Uw} {bs:List Nat},(∀k∈ks,len k=Qd k)->UP len ks bs=UP Qd ks bs
 |[],bs,_=>by cases bs <;> rfl
 |x::ks,[],_=>rfl
 |x::ks,b::bs,h=>by
  simp only[UP];rw[h x (aeZ ..),KF fun k hk=>h k (abc _ hk)]
theorem Bk {len Qd:Uw->Nat}:∀{ks:List Uw} {bs:List Nat} {j b':Nat} (hn:ks.Nodup) (hl:bs.length=ks.length) (h:j<ks.length),(∀k∈ks,k≠ks[j]->len k=Qd k)->Jj ks[j] (.sl b' 0 (Qd ks[j]) none 1) (UP len ks bs)=UP Qd ks (bs.set j b')
 |k::ks,b::bs,0,b',hn,hl,h,hc=>by
  rw[afI] at hn;simp only[List.getElem_cons_zero,UP,Jj,beq_self_eq_true,cond_true,List.set_cons_zero];rw[KF fun x hx=>hc x (abc _ hx) fun e=>by simp at e;exact hn.1 (e ▸ hx)]
 |k::ks,b::bs,j+1,b',hn,hl,h,hc=>by
  rw[afI] at hn;have hj:j<ks.length:=by simpa using h
  have dN:k≠ks[j]:=fun e=>hn.1 (e ▸ ae2 hj)
  have ZQ:(ks[j]==k)=false:=by simpa using dN.symm
  have ih:=Bk (len:=len) (Qd:=Qd) (bs:=bs) (b':=b') hn.2 (by simpa using hl) hj fun x hx rT=>hc x (abc _ hx) (by simpa using rT)
  simp only[List.getElem_cons_succ,UP,Jj,ZQ,cond_false,List.set_cons_succ];rw[ih,hc k (aeZ ..) (by simpa using dN)]
 |k::ks,[],_,_,_,hl,_,_=>by simp at hl
 |[],_,_,_,_,_,h,_=>by simp at h
theorem FC {len Qd:Uw->Nat}{k:Uw}{b':Nat}:∀{ks:List Uw} {bs:List Nat},k∉ks->bs.length=ks.length->(∀x∈ks,len x=Qd x)->Jj k (.sl b' 0 (Qd k) none 1) (UP len ks bs)=UP Qd (ks++[k]) (bs++[b'])
 |[],[],_,_,_=>by simp[UP,Jj]
 |x::ks,b::bs,h,hl,hc=>by
  rw[afa,not_or] at h;have ZQ:(k==x)=false:=by simpa using h.1
  have ih:=FC (len:=len) (Qd:=Qd) (b':=b') (bs:=bs) h.2 (by simpa using hl) fun y hy=>hc y (abc _ hy)
  simp only[UP,Jj,ZQ,cond_false,List.cons_append];rw[ih,hc x (aeZ ..)]
 |[],_::_,_,hl,_=>by simp at hl
 |_::_,[],_,hl,_=>by simp at hl
theorem dM {β:Type}{fin:Fl->β}{ks:List K}{ZV:β->Prop}{nl:Bool}{l:List Bool}(hl:l.length<=2^20){b:Nat}{e:Env}{s:St}(g8:Env.get e 8=.ptr b 0)(g35:Env.get e 35=ZP nl (ZH l))(fV:Env.get e 36=.int .i64 l.length)(qV:Env.get e 37=.int .i64 (0:Nat))
  (hb:zK s b [])(fr:Fr s)
  (hk:∀e' s',(∀t:Nat,t<10->Env.get e' t=Env.get e t)->(∀t:Nat,26<t->t<35->Env.get e' t=Env.get e t)->zK s' b (Tc l)->(∀j,j<b->s'.get j=s.get j)->s.next<=s'.next->Fr s'->ZV (goN U fin ks e' s')) :
  ZV (Vx U fin (.bk 2::ks) Lz e s):=by
 have dL:∀l:List Bool,(Tc l).length<=l.length*5:=by
  intro l
  induction l with
  |nil=>simp[Tc]
  |cons x l ih =>
   have:(Tc (x::l)).length=(FB x).length+(Tc l).length:=by simp[Tc]
   have h5:(FB x).length<=5:=by cases x <;> simp[FB]
   simp only[afc];omega
 refine ZC (σ:=Nat) (fun i=>l.length-i) (fun i e' s'=>i<=l.length/\(∀t:Nat,t<10->Env.get e' t=Env.get e t)/\(∀t:Nat,26<t->t<37->Env.get e' t=Env.get e t)/\Env.get e' 37=.int .i64 (i:Nat)/\zK s' b (Tc (l.take i))/\(∀j,j<b->s'.get j=s.get j)/\s.next<=s'.next/\Fr s') 0 ?_
  ⟨ae5 _,fun _ _=>rfl,fun _ _ _=>rfl,qV,hb,fun _ _=>rfl,aba _,fr⟩
 rintro Lp i e' s' ⟨hi,hold,Bj,wO,fU,hs,XY,YM⟩ IH;have q8:=(hold 8 (by omega)).trans g8;have fT:=(Bj 35 (by omega) (by omega)).trans g35;have lq:=(Bj 36 (by omega) (by omega)).trans fV;by_cases hd:i<l.length
 ·have hw:=ZI hd (by omega);have hx:=QF (nl:=nl) hd;have h244:=abK l[i];have FA:=dL (l.take i);have htl:(l.take i).length=i:=by rw[afH];omega
  have h5:(FB l[i]).length<=5:=by cases l[i] <;> simp[FB]
  obtain⟨s2,r,e1,e2,e3,e4,e5⟩:=abL fU YM (FB l[i]) (lj _) (by omega);simp only[go_sem,Lz,q8,fT,lq,wO,Z8,hd,hx,h244,dK,e1,hw];have lK:Tc (l.take (i+1))=Tc (l.take i)++FB l[i]:=by rw[afC hd,Tc,List.flatMap_append];simp[Tc]
  refine IH (i+1) _ _ (by omega) ⟨by omega,fun t ht=>?_,fun t h1 h2=>?_,?_,by rw[lK];exact e2,fun j hj=>by rw[e5 j hj,hs j hj],by omega,e3⟩
  ·have ZQ:∀k:Nat,10<=k->(k=t)=False:=fun k hk=>by simp;omega
   simp only[go_sem,ZQ];exact hold t ht
  ·have ZQ:∀k:Nat,37<=k->(k=t)=False:=fun k hk=>by simp;omega
   have dJ:(10=t)=False:=by simp;omega
   simp only[go_sem,ZQ,dJ];exact Bj t h1 h2
  ·simp only[go_sem]
 ·have:i=l.length:=by omega
  subst this;rw[List.take_length] at fU;simp only[go_sem,Lz,lq,wO,Z8,afg];refine hk _ _ (fun t ht=>?_) (fun t h1 h2=>?_) fU hs XY YM
  ·have ZQ:∀k:Nat,10<=k->(k=t)=False:=fun k hk=>by simp;omega
   simp only[go_sem,ZQ];exact hold t ht
  ·have ZQ:∀k:Nat,37<=k->(k=t)=False:=fun k hk=>by simp;omega
   simp only[go_sem,ZQ];exact Bj t h1 (by omega)
theorem FO {s:St}{b n:Nat}{L:List Nat}(hL:L.length=n)(hg:s.get b=some (.cells (ZO L) 3 false 0 0))(k:Nat) :
  SG 3 1 1 [.int .i64 (k:Int)] (.sl b 0 n none 1) s=some (.sl s.next 0 (n+1) none 1,(s.put b .gone).new (.cells (ZO (L++[k])) 3 false 0 0)):=by
 have Mx:(ZO L).length=n*1:=by rw[Xb,hL,ae3]
 rw[Uq,hg,Wm Mx (by omega) rfl,N7]
def strs (l:List Uw):List AV:=l.map .str
def Zz (a:ZN)(u:Nat):Uw:=Tc (a.Z4.getD u (true,[])).2
structure Grp (s:St)(m:Nat)(κ:Nat->Uw)(i:Nat)(bl:List Nat)(vo:AV):Prop where
 gm:s.get m=some (.map (DY (UP (fun k=>(Ub κ k i).length) (Y_ κ i) bl)) false)
 len:bl.length=(Y_ κ i).length
 nd:bl.Nodup
 JA:∀j (h:j<bl.length) (h':j<(Y_ κ i).length),m<bl[j]/\bl[j]<s.next/\s.get bl[j]=some (.cells (ZO (Ub κ (Y_ κ i)[j] i)) 3 false 0 0)
 row:Zi s (m+1) 9 1 (Y_ κ i).length (strs (Y_ κ i)) vo
theorem Bx (κ:Nat->Uw)(k:Uw)(n:Nat):(Ub κ k n).length<=n:=by
 have:=List.length_filter_le (fun i=>decide (κ i=k)) (List.range n);rw[afN] at this;exact this
theorem H5 {b:Nat}:∀{l:List Nat} {j:Nat},l.Nodup->b∉l->(l.set j b).Nodup
 |[],j,_,_=>by simp
 |x::l,0,h,hb=>by
  rw[afI] at h;rw[List.set_cons_zero,afI];exact⟨fun hm=>hb (abc _ hm),h.2⟩
 |x::l,j+1,h,hb=>by
  rw[afI] at h;rw[afa,not_or] at hb;rw[List.set_cons_succ,afI];refine⟨fun hm=>?_,H5 h.2 hb.2⟩;rcases List.mem_or_eq_of_mem_set hm with h1|h1
  ·exact h.1 h1
  ·exact hb.1 h1.symm
theorem aJ {β:Type}{fin:Fl->β}{ks:List K}{ZV:β->Prop}{a:ZN}(ha:a.ok){m:Nat}{e:Env}{s:St}(g4:Env.get e 4=.map m)(g5:Env.get e 5=.ZR)(ff:Env.get e 28=ZP a.Yx (a.Z4.map ZY))(fe:Env.get e 29=.int .i64 a.Z4.length)(g30:Env.get e 30=.int .i64 (0:Nat))
  (gm:s.get m=some (.map [] false))(nm:m<s.next)(fr:Fr s)
  (hk:∀e' s' bl vo,(∀t:Nat,t<5->Env.get e' t=Env.get e t)->Env.get e' 5=vo->Grp s' m (Zz a) a.next.length bl vo->(∀j,j<m->s'.get j=s.get j)->s.next<=s'.next->Fr s'->ZV (goN U fin ks e' s')) :
  ZV (Vx U fin (.bk 0::ks) Lj e s):=by
 have Te:=ha.few;have Sx:=ha.fl;refine ZC (σ:=Nat) (fun i=>a.Z4.length-i) (fun i e' s'=>i<=a.Z4.length/\(∀t:Nat,t<5->Env.get e' t=Env.get e t)/\Env.get e' 28=ZP a.Yx (a.Z4.map ZY)/\Env.get e' 29=.int .i64 a.Z4.length/\Env.get e' 30=.int .i64 (i:Nat)/\(∀j,j<m->s'.get j=s.get j)/\s.next<=s'.next/\Fr s' /\
   ∃bl vo,Env.get e' 5=vo/\Grp s' m (Zz a) i bl vo) 0 ?_
  ⟨ae5 _,fun _ _=>rfl,ff,fe,g30,fun _ _=>rfl,aba _,fr,[],.ZR,g5,⟨by rw[gm];rfl,rfl,by simp,fun j h=>by simp at h,Zi.nil _ _ _ _⟩⟩
 rintro Lp i e' s' ⟨hi,hold,Ag,B1,wH,hs,XY,YM,bl,vo,q5,G⟩ IH;have q4:=(hold 4 (by omega)).trans g4;by_cases hd:i<a.Z4.length
 ·have S6:=ZI hd (by omega);have hx:=Xh (nl:=a.Yx) hd;have xT:=ha.XJ i hd;have Nv:=ha.j8;have Db:=ZL a.Z4[i].1 (ZH a.Z4[i].2);rw[Ym] at Db;have hκ:Zz a i=Tc a.Z4[i].2:=by unfold Zz;rw[YL hd]
  simp only[go_sem,Lj,q4,Ag,B1,wH,Z8,hd,hx,Db];refine dM (nl:=a.Z4[i].1) (l:=a.Z4[i].2) (b:=s'.next) (by omega) ?_ ?_ ?_ ?_ ?_ ?_ ?_
  case refine_7 =>
   intro e2 s2 Vy sr fU WC K2 TC;rw[<-hκ] at fU;have A7:(Zz a i).length<=2^39:=by
    have:∀l:List Bool,(Tc l).length<=l.length*5:=by
     intro l
     induction l with
     |nil=>simp[Tc]
     |cons x l ih =>
      have:(Tc (x::l)).length=(FB x).length+(Tc l).length:=by simp[Tc]
      have h5:(FB x).length<=5:=by cases x <;> simp[FB]
      simp only[afc];omega
    have:=this a.Z4[i].2;rw[hκ];omega
   obtain⟨s3,c1,c2,c3,c4⟩:=aal fU TC A7;rw[Z'] at K2;have old:∀j,j<s'.next->s3.get j=s'.get j:=fun j hj=>by rw[c4 j (by omega),WC j hj,ZZ,if_neg (by omega)]
   have p4:Env.get e2 4=.map m:=by rw[Vy 4 (by omega)];simp only[go_sem,q4]
   have p5:Env.get e2 5=vo:=by rw[Vy 5 (by omega)];simp only[go_sem,q5]
   have p6:Env.get e2 6=.int .i64 (i:Nat):=by rw[Vy 6 (by omega)];simp only[go_sem]
   have p8:Env.get e2 8=.ptr s'.next 0:=by rw[Vy 8 (by omega)];simp only[go_sem]
   have p28:Env.get e2 28=ZP a.Yx (a.Z4.map ZY):=by rw[sr 28 (by omega) (by omega)];simp only[go_sem,Ag]
   have p29:Env.get e2 29=.int .i64 a.Z4.length:=by rw[sr 29 (by omega) (by omega)];simp only[go_sem,B1]
   have p30:Env.get e2 30=.int .i64 (i:Nat):=by rw[sr 30 (by omega) (by omega)];simp only[go_sem,wH]
   have pl:∀t:Nat,t<5->Env.get e2 t=Env.get e t:=fun t ht=>by
    rw[Vy t (by omega)];have ZQ:∀k:Nat,6<=k->(k=t)=False:=fun k hk=>by simp;omega
    simp only[go_sem,ZQ];exact hold t ht
   obtain⟨Gm,DB,Gnd,DA,rz⟩:=G;have nm':m<s'.next:=by omega
   have um:=(old m nm').trans Gm;have hgl:=Bx (Zz a) (Zz a i) i;have lk:=fun (S:St) (h:S.get m=some (.map (DY (UP (fun k=>(Ub (Zz a) k i).length) (Y_ (Zz a) i) bl)) false))=>IN h (Zz a i)
   have up:=fun (S:St) (v:AV) (h:S.get m=some (.map (DY (UP (fun k=>(Ub (Zz a) k i).length) (Y_ (Zz a) i) bl)) false))=>zM h (Zz a i) v
   have tg:Ub (Zz a) (Zz a i) (i+1)=Ub (Zz a) (Zz a i) i++[i]:=by rw[NI,if_pos rfl]
   by_cases R4:Zz a i∈Y_ (Zz a) i
   ·obtain⟨j,hj,fk⟩:=ae8.1 R4;have hjb:j<bl.length:=by omega
    obtain⟨b1,b2,b3⟩:=DA j hjb hj;rw[fk] at b3;have SY:=Hj (len:=fun k=>(Ub (Zz a) k i).length) (bs:=bl) (Sp (Zz a) i) DB hj;rw[fk] at SY;have KP:0<(Ub (Zz a) (Zz a i) i).length:=by
     obtain⟨u,Jn,OX⟩:=(U9 (Zz a) (Zz a i) i).1 R4;exact List.length_pos_of_mem ((Sq _ _ _ _).2 ⟨Jn,OX⟩)
    rw[SY] at lk;simp only[afZ] at lk;have hz:(((Ub (Zz a) (Zz a i) i).length:Int)==0)=false:=by simp;intro e;rw[e] at KP;simp at KP
    have u3:=(old _ b2).trans b3;have ax:=fun (S:St) (h:S.get bl[j]=some (.cells (ZO (Ub (Zz a) (Zz a i) i)) 3 false 0 0))=>FO rfl h i
    have RQ:((Ub (Zz a) (Zz a i) i).length+1)*8<=1099511627776:=by omega
    have TG:(Ub (Zz a) (Zz a i) i).length+1<=1099511627776:=by omega
    have z1:(s3.next=m)=False:=by simp;omega
    have z2:(s3.next+1=m)=False:=by simp;omega
    have z3:(bl[j]=m)=False:=by simp;omega
    have z4:(s3.next=bl[j])=False:=by simp;omega
    simp only[go_sem,p4,p6,p8,p30,mM,c1,um,lk,up,hz,u3,ax,ZD,Nat.reducePow,afu,RQ,TG,z1,z2,z3,z4,S6];have LM:Y_ (Zz a) (i+1)=Y_ (Zz a) i:=by rw[Y_,if_pos R4]
    have Ue:∀x y z k,k<s3.next->k≠m->k≠bl[j]->((((s3.new x).put bl[j] y).new z).put m (.map (DY (UP (fun k=>(Ub (Zz a) k (i+1)).length) (Y_ (Zz a) i) (bl.set j (s3.next+1)))) false)).get k=s3.get k:=fun x y z k h1 h2 h3=>by
     rw[Z7,if_neg h2.symm,ZZ,Z9,Z',if_neg (by omega),Z7,if_neg h3.symm,ZZ,if_neg (by omega)]
    have Fw:=Bk (len:=fun k=>(Ub (Zz a) k i).length) (Qd:=fun k=>(Ub (Zz a) k (i+1)).length) (bs:=bl) (b':=s3.next+1) (Sp (Zz a) i) DB hj (fun k _ mE=>by
     rw[fk] at mE;simp only[NI,if_neg (fun e=>mE (Eq.symm e))])
    rw[fk] at Fw;simp only[tg,aeW,aff] at Fw;rw[Fw];have lbl:∀x∈bl,x<s'.next:=fun x hx=>by
     obtain⟨k,FA,rfl⟩:=ae8.1 hx;exact (DA k FA (by omega)).2.1
    refine IH (i+1) _ _ (by omega) ⟨by omega,fun t ht=>?_,?_,?_,?_,fun k hk=>?_,by simp only[Z9,Z'];omega,(((c3.new _).put (by rw[Z'];omega) _).new _).put (by rw[Z',Z9,Z'];omega) _,bl.set j (s3.next+1),vo,?_,⟨?_,?_,?_,fun k h h'=>?_,?_⟩⟩
    ·have ZQ:∀k:Nat,6<=k->(k=t)=False:=fun k hk=>by simp;omega
     simp only[go_sem,ZQ];exact pl t ht
    ·simp only[go_sem,p28]
    ·simp only[go_sem,p29]
    ·simp only[go_sem]
    ·rw[Ue _ _ _ k (by omega) (by omega) (by omega),old k (by omega),hs k hk]
    ·simp only[go_sem,p5]
    ·rw[Z7,if_pos rfl,LM]
    ·rw[afi,LM];exact DB
    ·exact H5 Gnd fun hm=>by have:=lbl _ hm;omega
    ·rw[afi] at h;have h'':k<(Y_ (Zz a) i).length:=by rw[<-LM];exact h'
     have hko:(Y_ (Zz a) (i+1))[k]=(Y_ (Zz a) i)[k]:=by simp only[LM]
     rw[hko];by_cases xI:k=j
     ·subst xI;rw[List.getElem_set_self,fk,tg];refine⟨by omega,by simp only[Z9,Z'];omega,?_⟩;rw[Z7,if_neg (by omega),ZZ,Z9,Z',if_pos rfl]
     ·rw[List.getElem_set_ne (fun e=>xI e.symm)];obtain⟨d1,d2,d3⟩:=DA k h h'';have ZQ:bl[k]≠bl[j]:=fun e=>xI ((List.getElem_inj Gnd).1 e)
      have mE:(Y_ (Zz a) i)[k]≠Zz a i:=fun e=>xI ((List.getElem_inj (Sp (Zz a) i)).1 (e.trans fk.symm))
      refine⟨d1,by simp only[Z9,Z'];omega,?_⟩;rw[Ue _ _ _ _ (by omega) (by omega) ZQ,old _ d2,d3,NI,if_neg (fun e=>mE e.symm)]
    ·rw[LM];refine rz.R9 (by simp only[Z9,Z'];omega) fun k c h1 h2 h3=>?_
     rw[Ue _ _ _ k (by omega) (by omega) (fun e=>by rw[e,b3] at h1;cases h1),old k h2];exact h1
   ·have SY:=IG (len:=fun k=>(Ub (Zz a) k i).length) (bs:=bl) R4;rw[SY] at lk;simp only[Option.getD_none] at lk;have hg0:Ub (Zz a) (Zz a i) i=[]:=by
     refine List.eq_nil_iff_forall_not_mem.2 fun u hu=>R4 ?_
     obtain⟨h1,h2⟩:=(Sq _ _ _ _).1 hu;exact (U9 _ _ _).2 ⟨u,h1,h2⟩
    have hvo:Zi s3 (m+1) 9 1 (Y_ (Zz a) i).length (strs (Y_ (Zz a) i)) vo:=rz.R9 (by omega) fun k c h1 h2 h3=>by rw[old k h2];exact h1
    have ad5:Zi (s3.new (.cells [.str (Zz a i)] 9 false 0 0)) (m+1) 9 1 (Y_ (Zz a) i).length (strs (Y_ (Zz a) i)) vo:=hvo.R9 (by rw[Z'];omega) fun k c h1 h2 h3=>by rw[ZZ,if_neg (by omega)];exact h1
    obtain⟨s5,d1,d2,d3,d4,d5,d6⟩:=ad5.ad6 (by rw[Z'];omega) (.str (Zz a i)) rfl;rw[Z'] at d1 d2 d3 d4;have la:=hvo.WK;have BF:=KQ (Zz a) i;have RQ:((Y_ (Zz a) i).length+1)*16<=1099511627776:=by omega
    have TG:(Y_ (Zz a) i).length+1<=1099511627776:=by omega
    simp only[go_sem,p4,p5,p6,p8,p30,mM,c1,um,lk,ZD,Nat.reducePow,afu,RQ,TG,la,S6];rw[d1];have v5m:s5.get m=some (.map (DY (UP (fun k=>(Ub (Zz a) k i).length) (Y_ (Zz a) i) bl)) false):=by rw[d5 m (by omega),ZZ,if_neg (by omega)];exact um
    have z1:(s5.next=m)=False:=by simp;omega
    have z2:(s5.next+1=m)=False:=by simp;omega
    simp only[go_sem,p4,p6,p8,p30,v5m,lk,up,ZD,Nat.reducePow,afu,S6,z1,z2];have LM:Y_ (Zz a) (i+1)=Y_ (Zz a) i++[Zz a i]:=by rw[Y_,if_neg R4]
    have wD:Ub (Zz a) (Zz a i) (i+1)=[i]:=by rw[tg,hg0];rfl
    have aaX:∀k,k≠Zz a i->Ub (Zz a) k (i+1)=Ub (Zz a) k i:=fun k mE=>by rw[NI,if_neg (fun e=>mE (Eq.symm e))]
    have Fw:=FC (len:=fun k=>(Ub (Zz a) k i).length) (Qd:=fun k=>(Ub (Zz a) k (i+1)).length) (bs:=bl) (b':=s5.next+1) R4 DB (fun k hk=>by
     have:k≠Zz a i:=fun e=>R4 (e ▸ hk)
     simp only[aaX k this])
    simp only[wD,aff] at Fw;rw[Fw];have Ue:∀x y k,k<s5.next->k≠m->(((s5.new x).new y).put m (.map (DY (UP (fun k=>(Ub (Zz a) k (i+1)).length) (Y_ (Zz a) i++[Zz a i]) (bl++[s5.next+1]))) false)).get k=s5.get k:=fun x y k h1 h2=>by
     rw[Z7,if_neg h2.symm,ZZ,Z',if_neg (by omega),ZZ,if_neg (by omega)]
    have ad7:∀k,k<m->s5.get k=s'.get k:=fun k hk=>by rw[d5 k (by omega),ZZ,if_neg (by omega),old k (by omega)]
    have ad8:∀k c,s'.get k=some (.cells c 3 false 0 0)->k<s'.next->s5.get k=some (.cells c 3 false 0 0):=fun k c h1 h2=>d4 k c 3 0 0 (by rw[ZZ,if_neg (by omega),old k h2];exact h1) (by omega) (by decide)
    have lbl:∀x∈bl,x<s'.next:=fun x hx=>by
     obtain⟨k,FA,rfl⟩:=ae8.1 hx;exact (DA k FA (by omega)).2.1
    refine IH (i+1) _ _ (by omega) ⟨by omega,fun t ht=>?_,?_,?_,?_,fun k hk=>?_,by simp only[Z9,Z'];omega,(((d6 (c3.new _)).new _).new _).put (by simp only[Z'];omega) _,bl++[s5.next+1],.sl (s3.next+1) 0 ((Y_ (Zz a) i).length+1) none 1,?_,⟨?_,?_,?_,fun k h h'=>?_,?_⟩⟩
    ·have ZQ:∀k:Nat,6<=k->(k=t)=False:=fun k hk=>by simp;omega
     have hC:(5=t)=False:=by simp;omega
     simp only[go_sem,ZQ,hC];exact pl t ht
    ·simp only[go_sem,p28]
    ·simp only[go_sem,p29]
    ·simp only[go_sem]
    ·rw[Ue _ _ k (by omega) (by omega),ad7 k hk,hs k hk]
    ·simp only[go_sem]
    ·rw[Z7,if_pos rfl,LM]
    ·rw[LM,aeW,aeW,DB];rfl
    ·rw[afR];refine⟨Gnd,by simp,fun x hx y hy=>?_⟩;rw[ae0.1 hy];have:=lbl x hx;omega
    ·by_cases hkb:k<bl.length
     ·obtain⟨e1,e2,e3⟩:=DA k hkb (by omega);have hko:(Y_ (Zz a) (i+1))[k]=(Y_ (Zz a) i)[k]'(by omega):=by simp only[LM];rw[afv (by omega)]
      have mE:(Y_ (Zz a) i)[k]'(by omega)≠Zz a i:=fun e=>R4 (e ▸ ae2 (by omega))
      rw[hko,afv hkb,aaX _ mE];refine⟨e1,by simp only[Z9,Z'];omega,?_⟩;rw[Ue _ _ _ (by omega) (by omega)];exact ad8 _ _ e3 e2
     ·have A7:k=bl.length:=by rw[aeW,aff] at h;omega
      subst A7;have hko:(Y_ (Zz a) (i+1))[bl.length]=Zz a i:=by simp only[LM];rw[afy (by omega)];simp
      rw[hko,afy (by omega),wD];simp only[List.getElem_singleton];refine⟨by omega,by simp only[Z9,Z'];omega,?_⟩;rw[Z7,if_neg (by omega),ZZ,Z',if_pos rfl];rfl
    ·have e1:(Y_ (Zz a) (i+1)).length=(Y_ (Zz a) i).length+1:=by rw[LM];simp
     have e2:strs (Y_ (Zz a) (i+1))=strs (Y_ (Zz a) i)++[.str (Zz a i)]:=by rw[LM];simp[strs]
     rw[e1,e2];refine d3.R9 (by simp only[Z9,Z'];omega) fun k c h1 h2 h3=>?_
     rw[Ue _ _ k (by omega) (by omega)];exact h1
  case refine_6=>exact YM.new _
  case refine_5 =>
   refine⟨.U',.ZR,?_,.inl rfl,by rw[Z'];omega,Zi.nil _ _ _ _⟩;rw[ZZ,if_pos rfl]
  all_goals simp only[go_sem]
  all_goals rfl
 ·have:i=a.Z4.length:=by omega
  subst this;simp only[go_sem,Lj,B1,wH,Z8,afg];rw[Sx] at G;refine hk _ _ bl vo (fun t ht=>?_) ?_ G hs XY YM
  ·have ZQ:∀k:Nat,6<=k->(k=t)=False:=fun k hk=>by simp;omega
   simp only[go_sem,ZQ];exact hold t ht
  ·simp only[go_sem,q5]
end Go.Am
