/- A part of the proof of a statement of this seat: the machine on which the program is read, and what it computes; for every input. -/
import Derived.Test.YtikiipfbkfgmbaaGreatDoorZ06
import Derived.Test.YtikiipfbkfgmbaaGreatDoorZ15
import Derived.Test.YtikiipfbkfgmbaaGreatDoorZ07
import Derived.Test.YtikiipfbkfgmbaaGreatDoorZ04
set_option linter.all false
namespace Go.Am
open Go
variable [Z4]
set_option maxRecDepth 100000
set_option maxHeartbeats 8000000
noncomputable def r6:RC:=(sO [Zi 1 31 0,Zj 2] (sQ (sO [O7 7 16,WZ 8 7,om 9 8,Qq 10 9 2 1,IZ 11 9 31 10 12,UA 12 9 11,Yp 13 9 12] (cT 13 (sO [O7 14 16,om 2 14] .ret))) (sO [Zr 15 2 1,Zc 16 34 15,om 3 16] (sQ (sO [om 17 3,VR 18 3 17 0] (cT 18 (sO [ZX 19 0 1,Z0 20 19,VM 21 3 20 4,om 22 21,Qq 23 22 2 1,oF 24 22 (.call 38 [(.t 23)]),K5 25 22 3 24 65536,Yp 26 22 25,Wh 27 37 26 22,om 3 27] (sO [om 28 3,VR 29 3 28 0,om 30 29,Tg 31 30 2 1,oT 32 30 (.call 39 [(.t 31),(vI 400)]),Q6 33 30 32,YJ 34 30 33] (cT 34 (sO [TK 2] .ret)))))) (sO [Zr 36 2 1,Zc 37 33 36,Zc 38 40 37,om 35 38,YO 39 35 0,YO 40 35 1,Tf 4 0 69,YT 3 4 39,om 5 40] (sO [Tf 6 0 72] (sQ (sO [om 41 3,VR 42 3 41 0] (cT 42 (sO [Zr 43 2 1,Zc 44 42 43,Zc 45 41 44,YT 3 6 45] (oP [ZX 46 1 6,Z0 47 46,YU 48 47,VM 49 3 48 256,Wh 50 37 49 5,om 3 50])))) (sO [Zr 51 3 4,om 52 5,om 53 3,Zr 54 3 6,o 55 (.call 43 [(.t 51),(.t 52),(.t 53),(.t 54)]),om 2 55] .ret))))))))
theorem k6:Ze 6=some ([.tmp 2],r6):=by kernel_rfl
noncomputable def r39:RC:=(sO [Zi 2 31 0,Zj 4] (sO [ZX 5 0 2,Z0 6 5,o 7 (.bin .leq 3 true (.t 6) (vI 3)),om 8 7,Tg 9 8 2 2,oT 10 8 (.call 38 [(.t 9)]),Zp 11 8 1,Lg 12 8 3 10 11,YJ 13 8 12,om 4 13] .ret))
theorem k39:Ze 39=some ([.tmp 4],r39):=by kernel_rfl
noncomputable def r40:RC:=(sO [Zi 1 25 0,Tf 2 0 69,ZA 3 0] (sQ (sO [Zr 5 2 1,Zc 6 64 5,om 4 6] (sO [om 7 4,TY 8 26 7 0] (cT 8 (sO [o 9 (.On [(iI 0),.ZW,.ZW] []),om 10 4,YT 3 2 9,om 3 10] .ret)))) (sQ (sO [ZX 11 0 1,Z0 12 11,VM 13 3 12 4,om 14 13,Qq 15 14 2 1,oF 16 14 (.call 102 [(.t 15)]),K5 17 14 3 16 65536,Yp 18 14 17] (cT 18 (sO [o 19 (.On [(iI 0),.ZW,.ZW] []),YT 3 2 19,ZA 3 22] .ret))) (sO [Zr 20 2 1,Zc 21 105 20,Zc 22 104 21,Zc 23 103 22,YO 24 23 0,YO 25 23 1,YT 3 2 24,om 3 25] .ret))))
theorem k40:Ze 40=some ([.cell 2 69,.tmp 3],r40):=by kernel_rfl
noncomputable def Hu:RC:=(sO [YN 49 3 48 47] (sQ (cS 49 (.exit 2)) (sQ (.block 3 (sO [om 50 48,om 13 50] (sO [om 51 13,ZX 52 4 10,Z0 53 52,ZX 54 4 10,Z0 55 54,o 56 (.bin .lss 3 true (.t 55) (vI 0)),o 57 (.On [(iI 0),(iI 0),bF] [(0,1,(.t 51)),(1,1,(.t 53)),(2,1,(.t 56))]),o 14 (.al [(iI 0),(iI 0),bF] 158),YT 3 14 57] (sQ (sO [ZX 58 2 14,Z0 59 58] (cT 59 (oP [om 60 13,ZX 61 1 14,YT 1 61 60]))) (sO [Zr 63 3 3,ZX 64 0 10,Z0 65 64,Zr 66 3 14,MQ 67 93 63 65 66,om 62 67,YO 68 62 0,YO 69 62 1,om 15 68,om 16 69] (sO [Zr 71 2 1,ZX 72 1 10,Zr 73 3 72,om 74 16,MQ 75 99 71 73 74,om 70 75,YO 76 70 0,YO 77 70 1,zP 17 0 0 0 167,YT 3 17 76,om 18 77] (oP [om 78 11,om 79 7,om 80 15,Zr 81 3 17,om 82 13,o 83 (.On [.ZW,(iI 0),(iI 0),(iI 0),(iI 0)] [(0,1,(.t 80)),(1,3,(.t 81)),(4,1,(.t 82))]),DC 84 79 83,RQ 85 3 1 1 0 0 1 84,VT 86 3 1 8 78 85,om 87 12,om 88 18,o 89 (.U3 4 1 1 [bF] [(0,1,(.t 88))]),VT 90 4 1 1 87 89,om 11 86,om 12 90]))))))) (oP [YE 91 3 48 1,om 48 91]))))
noncomputable def xi:Code:=KQ 105 0
theorem aaX:O_ U xi=some (14,[(o 92 (.fa 1 (.t 8)),none),
 (o 93 (.SL (.t 92)),none),
 (om 94 11,none),
 (⟨some 95,none,some 3,false,.U3 40 1 1 [.ZW] [(0,1,(.t 94))]⟩,none),
 (⟨some 96,none,none,true,.app 40 1 24 (.t 93) (.t 95)⟩,none),
 (o 97 (.fa 2 (.t 8)),none),
 (o 98 (.SL (.t 97)),some (0,1)),
 (om 99 12,none),
 (⟨some 100,none,some 8,false,.U3 43 1 1 [.ZW] [(0,1,(.t 99))]⟩,none),
 (⟨some 101,none,none,true,.app 43 1 24 (.t 98) (.t 100)⟩,none),
 (o 102 (.fa 1 (.t 8)),none),
 (⟨none,none,none,true,.st 1 (.t 102) (.t 96)⟩,none),
 (o 103 (.fa 2 (.t 8)),none),
 (⟨none,none,none,true,.st 1 (.t 103) (.t 101)⟩,none)]):=by kernel_rfl
noncomputable def Ia:RC:=(sQ (sO [om 35 9,Z0 36 6,YU 37 36,YN 38 3 35 37] (cS 38 (.exit 0))) (sQ (.block 1 (sO [Z0 41 6,om 42 9,Zk 43 5 41 42,Zr 44 5 43,o 10 (.al [.ZW,(iI 0),(iI 0),(iI 0),(iI 0)] 254),YT 5 10 44] (sO [WY 11] (sO [WY 12] (sQ (sO [ZX 45 0 1,Z0 46 45,DP 47 3 1 46,ZA 48 0] (.block 2 (.loop Hu))) (.raw xi)))))) (oP [om 39 9,YE 40 3 39 1,om 9 40])))
noncomputable def afA:RC:=(sO [Zi 1 25 0,Tf 2 0 69] (sO [Zr 20 2 1,Zc 21 98 20,Zc 22 92 21,om 19 22,YO 23 19 0,YO 24 19 1,zl 3 152,YT 3 3 23,om 4 24] (sO [o 25 (.raw (.makeMap 251 none)),o 5 (.al [.PG] 251),YT 1 5 25] (sO [o 6 (.al [.ZW] 252)] (sO [o 26 (.mkf 174 [] [(.t 5),(.t 6)]),om 7 26] (sO [om 27 7,om 28 4,o 29 (.On [(iI 0),(iI 0),(iI 0)] []),o 30 (.On [.ZW,(iI 0),(iI 0),(iI 0),(iI 0)] [(0,1,(.t 28)),(1,3,(.t 29)),(4,1,(vI (-1)))]),DC 31 27 30] (sO [ZX 32 0 1,Z0 33 32,o 34 (.On [(iI 0),.ZW,.ZW] [(0,1,(.t 33))]),Tf 8 0 69,YT 3 8 34] (sQ (sO [ZA 9 0] (.block 0 (.loop Ia))) (sO [Zr 104 3 8,YT 3 2 104] .ret)))))))))
theorem ajn:Ze 105=some ([.cell 2 69],afA):=by kernel_rfl
noncomputable def ab0:RC:=(sO [Zi 3 254 0,ZA 4 0] (sO [ZX 8 0 3,Z0 9 8,ZX 10 1 3,Zr 11 3 10,ZX 12 4 3,Z0 13 12,MQ 14 175 9 11 13,om 5 14] (sO [Z0 16 1,om 17 5,o 18 (.raw (.lookup 251 (.tmp 16) (.tmp 17) true)),om 15 18,YO 19 15 0,YO 20 15 1,om 6 19,om 7 20] (sQ (sO [om 21 7,WZ 22 21] (cT 22 (sO [Z0 23 2,YU 24 23,om 6 24] (sO [Z0 25 1,om 26 5,om 27 6,tu 251 25 26 27] (oP [Z0 28 2,Zr 29 5 3,o 30 (.U3 254 5 1 [.ZW,(iI 0),(iI 0),(iI 0),(iI 0)] [(0,5,(.t 29))]),VT 31 254 5 56 28 30,YT 1 2 31]))))) (sO [om 32 6,om 4 32] .ret)))))
theorem afD:Ze 174=some ([.tmp 4],ab0):=by kernel_rfl
noncomputable def K9:RC:=(sO [YN 22 3 21 20] (sQ (cS 22 (.exit 0)) (sQ (.block 1 (sO [Zk 23 1 19 21,Z0 24 23,om 9 24] (sO [om 25 9,Zc 26 127 25,Zb 27 131 7 26] (oP [o 28 (.call 130 [(.t 7),(.v (.int .u8 32))])])))) (oP [YE 29 3 21 1,om 21 29]))))
noncomputable def ez:RC:=(sO [Zi 4 167 1,Gu 6] (sO [o 7 (.al [.Vk,.ZW] 207)] (sQ (sO [ZX 10 0 4,Z0 11 10,ZX 12 1 4,Z0 13 12,ZX 14 2 4,Z0 15 14,om 16 2,o 17 (.U3 3 1 4 [(iI 0),(iI 0),(iI 0),(iI 0)] [(0,1,(.t 11)),(1,1,(.t 13)),(2,1,(.t 15)),(3,1,(.t 16))]),om 18 0,VT 19 3 1 8 17 18,YU 20 19,ZA 21 0] (.block 0 (.loop K9))) (sO [Zc 30 133 7,om 6 30] .ret))))
theorem aeh:Ze 175=some ([.tmp 6],ez):=by kernel_rfl
theorem Dn (n a b:Int):within n a b=br (outside n a b) 3 0:=rfl
theorem kF (lines:Int)(hl:1<=lines)(CM:lines<=16):∀(l:List Step) (i:Nat),vy lines i l=Ls lines i l
 |[],_=>rfl
 |s::l,i=>by
  rw[vy,Ls,aam lines hl CM,kF lines hl CM l (i+1)];simp only[Dn];generalize Mr lines s.cond 1=c;generalize outside s.times 1 64=a;generalize outside s.within 0 255=b;generalize ((i:Int)==0&&s.within != 0)=d
  cases hc:c != 0
  ·have:c=0:=by simpa using hc
   subst this
   cases a <;> cases b <;> cases d <;> rfl
  ·simp only[XY,hc,Xo]
theorem s8 (p:Prog):lZ p=At p:=by
 rw[lZ,At,RY,Dn]
 cases h:outside p.lines 1 16
 ·have hl:1<=p.lines/\p.lines<=16:=by
   simp only[outside,ame,decide_eq_false_iff_not] at h;omega
  rw[kF p.lines hl.1 hl.2]
  cases h1:((p.steps.length:Int)==0) <;> cases h2:decide ((p.steps.length:Int)>8) <;> rfl
 ·rfl
structure Prog.ok (p:Prog):Prop where
 lines:1<=p.lines/\p.lines<=16
 ne:p.steps≠[]
 few:p.steps.length<=8
 cond:∀s∈p.steps,Mr p.lines s.cond 1=0
 tm:∀s∈p.steps,1<=s.times/\s.times<=64
 wi:∀s∈p.steps,0<=s.within/\s.within<=255
 first:∀s,p.steps[0]? = some s->s.within=0
theorem UB {n a b:Int}(h:outside n a b=false):a<=n/\n<=b:=by
 simp only[outside,ame,decide_eq_false_iff_not] at h;omega
theorem Wb {p:Bool}{e x:Int}(he:e≠0)(h:br p e x=0):p=false/\x=0:=by
 cases p
 ·exact⟨rfl,h⟩
 ·exact absurd h he
theorem B9 {e x:Int}(h:br (e != 0) e x=0):e=0/\x=0:=by
 cases he:e != 0
 ·rw[he,Xv] at h;exact⟨by simpa using he,h⟩
 ·rw[he,Xo] at h;rw[h] at he;cases he
theorem Dm {lines:Int}:∀{l:List Step} {i:Nat},Ls lines i l=0->∀s∈l,Mr lines s.cond 1=0/\(1<=s.times/\s.times<=64)/\(0<=s.within/\s.within<=255)
 |x::l,i,h,s,hs=>by
  rw[Ls] at h;obtain⟨h1,h⟩:=B9 h;obtain⟨h2,h⟩:=Wb (by omega) h;rcases alL.1 hs with rfl|hs
  ·simp only[ame] at h2;exact⟨h1,UB h2.1.1,UB h2.1.2⟩
  ·exact Dm h s hs
theorem s9 {p:Prog}(h:At p=0):p.ok:=by
 rw[At] at h;obtain⟨h1,h⟩:=B9 h;obtain⟨h2,h⟩:=Wb (by omega) h;obtain⟨h3,h⟩:=Wb (by omega) h;have h4:=Dm h;refine⟨?_,?_,?_,fun s hs=>(h4 s hs).1,fun s hs=>(h4 s hs).2.1,fun s hs=>(h4 s hs).2.2,?_⟩
 ·rw[RY] at h1;exact UB (Wb (x:=0) (by omega:(3:Int)≠0) h1).1
 ·intro e;rw[e] at h2;cases h2
 ·simp only[decide_eq_false_iff_not] at h3;omega
 ·intro s hs
  cases hp:p.steps with
  |nil=>rw[hp] at hs;cases hs
  |cons x l =>
   rw[hp] at hs h
   cases hs
   rw[Ls] at h;obtain⟨_,h⟩:=B9 h;obtain⟨h2,_⟩:=Wb (by omega) h;simp only[ame] at h2
   simpa using h2.2
theorem Prog.ok.known {p:Prog}(h:p.ok):∀s∈p.steps,s.cond.allKnown=true:=fun s hs=>(ND _ _ _ (h.cond s hs)).1
mutual
def aj:Z5->Int
 |.mk k a b mi ma p nl kids=>bif (ZF k==.Vj||ZF k==.gap)||(ZF k==.idle||ZF k==.setup)||ZF k==.Uf then WQ (ZF k) (.mk k a b mi ma p nl kids) else Ac kids 1
def Ac:List Z5->Int->Int
 |[],x=>x
 |c::l,x=>Ac l (GG x (aj c))
end
theorem ah0:∀c:Z5,c.fits->ZE U 101 [Zw c]=some (.int .i64 (aj c)):=by
 intro c
 induction c using Z5.ind with
 |h kind a b mi ma pat nl kids ih =>
 intro hf;rw[Z5.fits] at hf;obtain⟨f1,f2,f3⟩:=hf;refine ZR ai2 (by kernel_rfl) (by simp[ZU,Zt]) ?_;have afk:∀e s,Env.get e 3=.int .i64 1->Env.get e 4=.int .i64 0->Env.get e 1=.ptr 8 0->s.get 8=some (.cells [.str kind,.int .i64 a,.int .i64 b,.int .i64 mi,.int .i64 ma,.str pat,ZG nl (WW kids)] 39 false 0 0)->∀ks,(∀e' s' x,Env.get e' 3=.int .i64 x->fX U (Mt U [.tmp 2]) ks 1 e' s'=some (.int .i64 x)) ->
   SD U (Mt U [.tmp 2]) ks HD e s=some (.int .i64 (Ac kids 1)):=by
  intro e s h3 h4 h1 hs ks hk;refine YH (σ:=Nat×Int) (fun x=>kids.length-x.1) (fun x=>some (AV.int .i64 (Ac (kids.drop x.1) x.2))) (fun x e s=>x.1<=kids.length/\Env.get e 3=.int .i64 x.2/\Env.get e 4=.int .i64 x.1/\Env.get e 1=.ptr 8 0/\s.get 8=some (.cells [.str kind,.int .i64 a,.int .i64 b,.int .i64 mi,.int .i64 ma,.str pat,ZG nl (WW kids)] 39 false 0 0)) (0,1) ?_ rfl ⟨aic _,h3,h4,h1,hs⟩;clear h3 h4 h1 hs e s;rintro L ⟨i,acc⟩ e s ⟨hi,h3,h4,h1,hs⟩ IH;simp only at hi h3 h4 h1 hs IH ⊢;by_cases hd:i<kids.length
  ·have hx:(WW kids)[i]? = some (Zw kids[i]):=by rw[Vb,aaa hd];rfl
   have hw:=ZN hd (by omega);have hc:=ih kids[i] (adm hd) (f3 _ (adm hd));rw[ZV] at hx hc;simp only[Z5.cells] at hx hc;rw[YR (XL hd)] at hs;simp only[go_sem,HD,h3,h4,h1,hs,Z8,hd,Yd,hx,hc,abf,hw];rw[abc hd,Ac];refine IH (i+1,GG acc (aj kids[i])) _ _ (by simp only;omega) ⟨by simp only;omega,?_,?_,?_,?_⟩ <;> simp only[go_sem,h1,hs,YR (XL hd)]
  ·have:i=kids.length:=by omega
   subst this;simp only[go_sem,HD,h4,h1,hs,ZI,Yd,Z8,alh];rw[alO,Ac];exact hk _ _ _ (by simp only[go_sem,h3])
 rw[Zw,aj];obtain⟨h0,h1,h2,h3,h4,h5,h6,h7,h8,h9,h10,h11,h12,h13,h14⟩:=UN kind;generalize ZF kind=d at *
 cases d
 all_goals simp only[reduceCtorEq,decide_true,decide_false] at h1 h2 h3 h4 h5 h6 h7 h8 h9 h10 h11 h12 h13 h14
 all_goals simp only[go_sem,afl,h7,h8,h9,h10,h11]
 all_goals first
  |rfl
  |(refine afk _ _ ?_ ?_ ?_ ?_ _ ?_
    rotate_right 1
    ·intro e' s' x h;simp only[go_sem,h]
    all_goals simp only[go_sem])
end Go.Am
namespace Go.Am
open Go
variable [Z4]
set_option maxRecDepth 100000
set_option maxHeartbeats 8000000
def PA:List Step->Int->Int->Int×Int
 |[],n,x=>(n,x)
 |s::l,n,x=>PA l (GG n (aj s.cond)) (IntKind.i64.wrap (x+IntKind.i64.wrap (s.times*IntKind.i64.wrap (s.within+1))))
def Ae (p:Prog):Int:=GG (PA p.steps (IntKind.i64.wrap (2^p.lines.toNat+1)) 0).1 (min (PA p.steps (IntKind.i64.wrap (2^p.lines.toNat+1)) 0).2 65537)
theorem c38 (p:Prog)(hf:p.fits)(hl:0<=p.lines/\p.lines<=16):ZE U 38 [Vw p]=some (.int .i64 (Ae p)):=by
 obtain⟨lines,nl,steps⟩:=p;obtain⟨f1,f2⟩:=hf;simp only at f1 f2 hl;refine ZR k38 (by kernel_rfl) (by simp[ZU,X']) ?_;rw[X9,Ae];simp only[go_sem,r38,Tq U _ _ _ hl];refine YH (σ:=Nat×Int×Int) (fun x=>steps.length-x.1) (fun x=>some (AV.int .i64 (GG (PA (steps.drop x.1) x.2.1 x.2.2).1 (min (PA (steps.drop x.1) x.2.1 x.2.2).2 65537)))) (fun x e s=>x.1<=steps.length/\Env.get e 3=.int .i64 x.2.1/\Env.get e 4=.int .i64 x.2.2/\Env.get e 5=.int .i64 x.1/\Env.get e 1=.ptr 8 0/\s.get 8=some (.cells [.int .i64 lines,ZG nl (Zx steps)] 31 false 0 0)) (0,IntKind.i64.wrap (2^lines.toNat+1),0) ?_ rfl ?_
 ·rintro L ⟨i,n,x⟩ e s ⟨hi,h3,h4,h5,h1,hs⟩ IH;simp only at hi h3 h4 h5 h1 hs IH ⊢;by_cases hd:i<steps.length
  ·have hx:(Zx steps)[i]? = some (YL steps[i]):=by rw[Wu,aaa hd];rfl
   have hw:=ZN hd (by omega);have hc:=ah0 steps[i].cond (f2 _ (adm hd));rw[ZV] at hc;simp only[Z5.cells,YL] at hx hc;rw[YR (X_ hd)] at hs;simp only[go_sem,wP,h3,h4,h5,h1,hs,Z8,hd,YY,hx,hc,abf,hw];rw[abc hd,PA];refine IH (i+1,GG n (aj steps[i].cond),IntKind.i64.wrap (x+IntKind.i64.wrap (steps[i].times*IntKind.i64.wrap (steps[i].within+1)))) _ _ (by simp only;omega) ⟨by simp only;omega,?_,?_,?_,?_,?_⟩ <;> simp only[go_sem,h1,hs,YR (X_ hd)]
  ·have:i=steps.length:=by omega
   subst this;simp only[go_sem,wP,h3,h4,h5,h1,hs,ZI,YY,Z8,alh,abf];rw[alO,PA]
 ·refine⟨aic _,?_,?_,?_,?_,?_⟩ <;> simp only[go_sem] <;> rfl
theorem mq {lines:Int}{k:XV}{a b mi ma:Int}{p:XV}{nl:Bool}{kids:List Z5}{d:Int}(h:Mr lines (.mk k a b mi ma p nl kids) d=0) :
  Pz lines kids (IntKind.i64.wrap (d+1))=0/\((YQ (ZF k)).mi=true->1<=mi/\mi<=255)/\((YQ (ZF k)).ma=true->1<=ma/\ma<=255):=by
 rw[Mr] at h;obtain⟨_,h⟩:=Wb (by omega) h;obtain⟨hk,h⟩:=Wb (by omega) h;obtain⟨hu,h⟩:=Wb (by omega) h;obtain⟨_,h⟩:=Wb (by omega) h;obtain⟨_,h⟩:=Wb (by omega) h;obtain⟨hm,h⟩:=Wb (by omega) h;obtain⟨_,h⟩:=Wb (by omega) h;obtain⟨_,h⟩:=Wb (by omega) h;obtain⟨_,h⟩:=Wb (by omega) h;obtain⟨_,h⟩:=Wb (by omega) h;obtain⟨_,h⟩:=Wb (by omega) h;rw[ame,Bool.and_eq_false_iff,Bool.and_eq_false_iff] at hm;refine⟨h,fun h1=>?_,fun h1=>?_⟩
 ·rcases hm.1 with h2|h2
  ·rw[h1] at h2;cases h2
  ·exact UB h2
 ·rcases hm.2 with h2|h2
  ·rw[h1] at h2;cases h2
  ·exact UB h2
theorem Ad {lines d:Int}:∀{l:List Z5},Pz lines l d=0->∀c∈l,Mr lines c d=0
 |c::l,h,x,hx=>by
  rw[Pz] at h;obtain⟨h1,h2⟩:=B9 h;rcases alL.1 hx with rfl|hx
  ·exact h1
  ·exact Ad h2 x hx
theorem ad' (lines:Int):∀(c:Z5) (d:Int),Mr lines c d=0->aj c=EC c/\1<=EC c/\EC c<=65537:=by
 intro c
 induction c using Z5.ind with
 |h kind a b mi ma pat nl kids ih =>
 intro d h;obtain⟨hk,Tk⟩:=ND lines _ d h;obtain⟨h1,h2,h3⟩:=mq h;have Xa:=Ad h1;have hl:∀(l:List Z5),(∀x∈l,x∈kids)->∀n,1<=n->n<=65537->Ac l n=M8 l n/\1<=M8 l n/\M8 l n<=65537:=by
  intro l
  induction l with
  |nil=>intro _ n h1 h2;exact⟨rfl,h1,h2⟩
  |cons c l EJ =>
   intro hl n h1 h2;obtain⟨e1,e2,e3⟩:=ih c (hl c (aba ..)) _ (Xa c (hl c (aba ..)));rw[Ac,M8,e1];have hp:n*EC c<=65537*65537:=Int.mul_le_mul h2 e3 (by omega) (by omega);have wI:1*1<=n*EC c:=Int.mul_le_mul h1 e2 (by omega) (by omega);refine EJ (fun x hx=>hl x (aab _ hx)) _ ?_ ?_
   ·rw[GG,wrap_i64 (by omega) (by omega)];omega
   ·rw[GG];omega
 have eJ:=hl kids (fun _ h=>h) 1 (by omega) (by omega);simp only[Z5.allKnown,agw] at hk;obtain⟨hk,_⟩:=hk;simp only[Z5.kind,Z5.kids] at Tk;rw[aj,EC];generalize ZF kind=dd at *
 cases dd <;> first|cases hk|skip
 all_goals simp only[Kd.leaf,cond_true,cond_false,BEq.rfl,reduceCtorEq,Bool.or_true,Bool.true_or,WQ,Z5.ma,Z5.mi,YQ] at *
 all_goals first
  |(have hn:=Tk trivial;subst hn;refine⟨rfl,by omega,by omega⟩)
  |exact eJ
  |skip
 all_goals first
  |(have:=h3 trivial;rw[wrap_i64 (by omega) (by omega)];exact⟨trivial,by omega,by omega⟩)
  |(have:=h2 trivial;rw[wrap_i64 (by omega) (by omega)];exact⟨trivial,by omega,by omega⟩)
  |exact⟨trivial,by omega,by omega⟩
theorem Ab {lines:Int}:∀(l:List Step),(∀s∈l,Mr lines s.cond 1=0/\(1<=s.times/\s.times<=64)/\(0<=s.within/\s.within<=255))->∀(n x:Int) (k:Nat),1<=n->n<=65537->0<=x->x<=16384*(k:Int)->k+l.length<=8 ->
  PA l n x=WL l n x/\1<=(WL l n x).1/\(WL l n x).1<=65537/\0<=(WL l n x).2/\(WL l n x).2<=131072
 |[],_,n,x,k,h1,h2,h3,h4,h5=>⟨rfl,h1,h2,h3,by simp only[WL];omega⟩
 |s::l,hs,n,x,k,h1,h2,h3,h4,h5=>by
  obtain⟨c1,c2,c3⟩:=hs s (aba ..);obtain⟨e1,e2,e3⟩:=ad' lines s.cond 1 c1;have hp:n*EC s.cond<=65537*65537:=Int.mul_le_mul h2 e3 (by omega) (by omega);have wI:1*1<=n*EC s.cond:=Int.mul_le_mul h1 e2 (by omega) (by omega);have hw:IntKind.i64.wrap (s.within+1)=s.within+1:=wrap_i64 (by omega) (by omega);have ht:s.times*(s.within+1)<=64*256:=Int.mul_le_mul c2.2 (by omega) (by omega) (by omega);have eV:0<=s.times*(s.within+1):=Int.mul_nonneg (by omega) (by omega);rw[PA,WL,e1,hw,wrap_i64 (n:=s.times*(s.within+1)) (by omega) (by omega),wrap_i64 (n:=x+s.times*(s.within+1)) (by simp only[akd] at h5;omega) (by simp only[akd] at h5;omega)];simp only[akd] at h5;refine Ab l (fun y hy=>hs y (aab _ hy)) _ _ (k+1) ?_ ?_ (by omega) (by omega) (by omega)
  ·rw[GG,wrap_i64 (by omega) (by omega)];omega
  ·rw[GG];omega
theorem size_eq {p:Prog}(h:p.ok):Ae p=Qp p:=by
 have hl:=h.lines;have hp:(2:Int)^p.lines.toNat<=2^16:=by
  have h2:(2:Nat)^p.lines.toNat<=2^16:=Nat.pow_le_pow_right (by omega) (by omega)
  exact_mod_cast h2
 have eB:(0:Int)<=2^p.lines.toNat:=Int.pow_nonneg (by omega);have hw:IntKind.i64.wrap (2^p.lines.toNat+1)=2^p.lines.toNat+1:=wrap_i64 (by omega) (by omega);obtain⟨e1,e2,e3,e4,e5⟩:=Ab (lines:=p.lines) p.steps (fun s hs=>⟨h.cond s hs,h.tm s hs,h.wi s hs⟩) (2^p.lines.toNat+1) 0 0 (by omega) (by omega) (by omega) (by omega) (by have:=h.few;omega);rw[Ae,Qp,hw,e1];generalize (WL p.steps (2^p.lines.toNat+1) 0).1=n at *;generalize (WL p.steps (2^p.lines.toNat+1) 0).2=x at *;have b1:n*x<=65537*131072:=Int.mul_le_mul e3 e5 (by omega) (by omega);have b0:0<=n*x:=Int.mul_nonneg (by omega) (by omega);rw[GG,GG];rcases Int.le_total x 65537 with hx|hx
 ·rw[Int.min_eq_left hx]
 ·rw[Int.min_eq_right hx];have b2:1*65537<=n*65537:=Int.mul_le_mul e2 (by omega) (by omega) (by omega);have b3:1*65537<=n*x:=Int.mul_le_mul e2 hx (by omega) (by omega);rw[wrap_i64 (by omega) (by omega),wrap_i64 (by omega) (by omega)];omega
end Go.Am
namespace Go.Am
open Go
variable [Z4]
set_option maxRecDepth 100000
def aeg:RC:=(sO [o 4 (.O9 (.v .TO))] (sO [om 5 0,Zc 6 182 5] (sO [om 7 0,om 8 0,Yb 9 8,ZX 10 1 9,Z0 11 10,om 12 1,o 13 (.U3 5 1 1 [(.int .u8 0)] [(0,1,(.t 12))]),VT 14 5 1 1 11 13,Yb 15 7,ZX 16 1 15,YT 1 16 14] (sO [o 4 (.O9 (.v .TO))] .ret))))
theorem ah4:Ze 130=some ([.tmp 4],aeg):=by kernel_rfl
end Go.Am
namespace Go.Am
open Go
variable [Z4]
set_option maxRecDepth 100000
set_option maxHeartbeats 8000000
def zt (n:Nat):XV:=if n<10 then [UInt8.ofNat (48+n)] else zt (n / 10)++[UInt8.ofNat (48+n%10)]
termination_by n
decreasing_by omega
theorem L9 {n:Nat}(h:n<10):zt n=[UInt8.ofNat (48+n)]:=by rw[zt,if_pos h]
theorem zr {n:Nat}(h:¬n<10):zt n=zt (n / 10)++[UInt8.ofNat (48+n%10)]:=by rw[zt,if_neg h]
def dg (n:Int):XV:=zt n.toNat
end Go.Am
