/- A part of the proof. -/
import Derived.Test.YtkmaeondbkpajaaGreatDoorE03
import Derived.Laws.BitsLemmas
set_option linter.all false
set_option maxHeartbeats 8000000
set_option maxRecDepth 100000
namespace Go.Am
open Go
abbrev XJ:=List UInt8
inductive Z0 where
 |mk (kind:XJ) (a b mi ma:Int) (pat:XJ) (nl:Bool) (kids:List Z0)
def ZU (nl:Bool)(l:List AV):AV:=match nl,l with
 |true,[]=>.ZQ
 |_,l=>.fz l
mutual
def Zo:Z0->AV
 |.mk k a b mi ma p nl kids=>.agg [.str k,.int .i64 a,.int .i64 b,.int .i64 mi,.int .i64 ma,.str p,ZU nl (UF kids)]
def UF:List Z0->List AV
 |[]=>[]
 |c::l=>Zo c::UF l
end
def Nt:∀l,UF l=l.map Zo
 |[]=>by simp[UF]
 |c::l=>by simp[UF,Nt l]
def TU (l:List Z0)(i:Nat):(UF l)[i]? = (l[i]?).map Zo:=by rw[Nt];simp
def Xw (l:List Z0):(UF l).length=l.length:=by rw[Nt];simp
def Z0.kind:Z0->XJ|.mk k _ _ _ _ _ _ _=>k
def Z0.a:Z0->Int|.mk _ a _ _ _ _ _ _=>a
def Z0.b:Z0->Int|.mk _ _ b _ _ _ _ _=>b
def Z0.mi:Z0->Int|.mk _ _ _ m _ _ _ _=>m
def Z0.ma:Z0->Int|.mk _ _ _ _ m _ _ _=>m
def Z0.pat:Z0->XJ|.mk _ _ _ _ _ p _ _=>p
def Z0.nl:Z0->Bool|.mk _ _ _ _ _ _ n _=>n
def Z0.kids:Z0->List Z0|.mk _ _ _ _ _ _ _ l=>l
def Z0.cells (c:Z0):List AV:=[.str c.kind,.int .i64 c.a,.int .i64 c.b,.int .i64 c.mi,.int .i64 c.ma,.str c.pat,ZU c.nl (UF c.kids)]
def ZH (c:Z0):Zo c=.agg c.cells:=by cases c;simp[Zo,Z0.cells,Z0.kind,Z0.a,Z0.b,Z0.mi,Z0.ma,Z0.pat,Z0.nl,Z0.kids]
structure Step where
 cond:Z0
 times:Int
 within:Int
def Step.cells (s:Step):List AV:=s.cond.cells++[.int .i64 s.times,.int .i64 s.within]
def Yy (s:Step):AV:=.agg [.str s.cond.kind,.int .i64 s.cond.a,.int .i64 s.cond.b,.int .i64 s.cond.mi,.int .i64 s.cond.ma,.str s.cond.pat,ZU s.cond.nl (UF s.cond.kids),.int .i64 s.times,.int .i64 s.within]
structure Prog where
 lines:Int
 nl:Bool
 steps:List Step
def XU (p:Prog):AV:=.agg [.int .i64 p.lines,ZU p.nl (p.steps.map Yy)]
def ints (l:List Int):List AV:=l.map (.int .i64 ·)
def Zt (l:List Bool):List AV:=l.map .bool
structure Zv where
 lines:Int
 Xb:Bool
 next:List (Bool×List Int)
 WG:Bool
 ZW:List (Bool×List Bool)
def ZF (r:Bool×List Int):AV:=ZU r.1 (ints r.2)
def ZM (r:Bool×List Bool):AV:=ZU r.1 (Zt r.2)
def XW (a:Zv):AV:=.agg [.int .i64 a.lines,ZU a.Xb (a.next.map ZF),ZU a.WG (a.ZW.map ZM)]
def Ta (l:List AV):ZU false l=.fz l:=by cases l <;> rfl
def BG (nl:Bool)(x:AV)(l:List AV):ZU nl (x::l)=.fz (x::l):=by cases nl <;> rfl
def YE (nl:Bool)(l:List AV):still (ZU nl l)=true:=by
 cases nl <;> cases l <;> simp[ZU,still]
def ZV (nl:Bool)(l:List AV):Zu (ZU nl l)=true:=by
 cases nl <;> cases l <;> simp[ZU,Zu]
def ZK (nl:Bool)(l:List AV):(ZU nl l).cells=[ZU nl l]:=by
 cases nl <;> cases l <;> simp[ZU,AV.cells]
def ZN (nl:Bool)(l:List AV):U1 (ZU nl l)=some (.int .i64 l.length):=by
 cases nl <;> cases l <;> simp[ZU,U1]
def Vg (X:Cx)(s:St)(d:Nat)(nl:Bool)(l:List AV):Ya X s (d+1) (ZU nl l)=some (ZU nl l):=by
 cases nl <;> cases l <;> simp[ZU,Ya]
def Vi (n:Nat)(nl:Bool)(l:List AV)(k:IntKind)(i:Int)(x:AV)(h0:0<=i)(hx:l[i.toNat]? = some x)(hc:x.cells.length=n)(hn:n≠0):UJ n (ZU nl l) (.int k i)=some (.fp x.cells 0):=by
 have hl:l≠[]:=by intro h;rw[h] at hx;simp at hx
 have:ZU nl l=.fz l:=by cases l with
  |nil=>exact absurd rfl hl
  |cons y l=>exact BG ..
 rw[this,cU];simp[h0,hx,ixF,hc,hn]
def wrap_i64 {n:Int}(h0 : -2^63<=n)(h1:n<2^63):IntKind.i64.wrap n=n:=by
 rw[IntKind.wrap_i64];omega
end Go.Am
namespace Go.Am
open Go Go.Proofs
variable [Z8]
variable {v:AV}{args:List AV}{f:FuncId}
def It {p:Prop}(h:p:=by kernel_rfl):p:=h
instance aiq:Stat:=⟨λm c=>∃n,n<=m/\GQ U n c=true/\PJ c=true,λt=>Nat.beq t 150⟩
def air (t:TypeId):U.Zd t=Tryz.prog.underlying t:=by unfold U;rfl
def ais (t:TypeId):U.inf t=Tryz.prog.info? t:=by unfold U;rfl
def wW (f:FuncId):U.ext f=eN f:=by unfold U;rfl
def eM (f:FuncId):U.pure f=!keeps.contains f:=by unfold U;rfl
def KZ (g:Nat):U.K0 g=gbU g:=by unfold U;rfl
def Ge:U.glob=8:=by unfold U;rfl
def ait (f:FuncId):U.fn f=bif Nat.beq f 36 then none else Tryz.prog.funcs[f]? := by unfold U;rfl
noncomputable def Zm (f:FuncId):Option (List ResultVar×RC):=match U.fn f with
 |some fn=>match fn.body with
  |some c=>some (fn.results.toList,rc U c)
  |none=>none
 |none=>none
def PG {rs:List ResultVar}{r:RC}(h:Zm f=some (rs,r)):∃fn c,U.fn f=some fn/\fn.body=some c/\fn.results.toList=rs/\rc U c=r:=by
 unfold Zm at h
 split at h
 ·rename_i fn hf
  split at h
  ·rename_i c hb
   cases h
   exact⟨fn,c,hf,hb,rfl,rfl⟩
  ·cases h
 ·cases h
def OY (f:FuncId):Bool:=!keeps.contains f&&(eN f).isNone
def sD (f:FuncId):Bool:=keeps.contains f&&(eN f).isNone
def PK (h:OY f=true):U.pure f=true/\U.ext f=none:=by
 rw[OY,ahe,aq1] at h;rw[eM,wW];exact h
def lH (h:sD f=true):U.pure f=false/\U.ext f=none:=by
 rw[sD,ahe,aq1] at h;rw[eM,wW,h.1];exact⟨rfl,h.2⟩
def ZP {rs:List ResultVar}{r:RC}(h:Zm f=some (rs,r))(hp:OY f=true)(W_:ZT args=true)
  (hg:go U (U7 U rs) [] r (Zr 0 args .nil) (Ym U)=some v):ZE U f args=some v:=by
 obtain⟨fn,c,h1,h2,h3,h4⟩:=PG h;obtain⟨p1,p2⟩:=PK hp;exact lG U p2 p1 h1 h2 h3 h4 W_ hg
def Yi {rs:List ResultVar}{r:RC}(h:Zm f=some (rs,r))(hp:sD f=true){s:St}{x:AV×St}
  (hg:go U (Us U rs) [] r (Zr 0 args .nil) s=some x):UN U f args s=some x:=by
 obtain⟨fn,c,h1,h2,h3,h4⟩:=PG h;obtain⟨p1,p2⟩:=lH hp;unfold UN TY;rw[p2,p1];exact NA U h1 h2 h3 h4 hg
def LR (hp:OY f=true)(s:St)(W_:ZT args=false):Yx U (ZE U f args) f args s=UX U f (YS (Ya U s 40) args) s :=
 fj U s (PK hp).2 (PK hp).1 W_
def HL (p:Bool)(x:Option (AV×St))(s:St):Option (AV×St):=bif p then x else some (undef,s)
def sC (x:Option (AV×St))(s:St):HL true x s=x:=(λh=>h) rfl
def xa (hp:OY f=true){p:Bool}(s:St)(W_:ZT args=false):QX U p (ZE U f args) f args s=HL p (UX U f (YS (Ya U s 40) args) s) s:=by
 unfold QX HL;rw[LR hp s W_]
def xy (s:St):∀(d:Nat) (v v':AV),Ya U s d v=some v'->flat v'=true->v=v':=by
 intro d
 induction d with
 |zero=>intro v v' h;simp[Ya] at h
 |succ d ih =>
  intro v v' h hf;have hl:∀(l l':List AV),YS (Ya U s d) l=some l'->Ka l'=true->l=l':=by
   intro l
   induction l with
   |nil=>intro l' h _;simp only[YS] at h;cases h;rfl
   |cons x l DB =>
    intro l' h hf;simp only[YS] at h
    split at h
    ·rename_i y r h1 h2
     cases h
     simp only[Ka,ahe] at hf;rw[ih _ _ h1 hf.1,DB _ h2 hf.2]
    ·cases h
  cases v with
  |ptr b o =>
   rw[pa] at h;unfold aa8 at h
   split at h
   ·simp only[fpK,aqU] at h;obtain⟨_,_,rfl⟩:=h;simp[flat] at hf
   ·cases h
  |sl b o len cap Vl =>
   rw[Uw] at h;unfold aa7 xl fzK at h
   split at h
   ·split at h
    ·split at h
     ·simp only[aqU] at h;obtain⟨_,_,rfl⟩:=h;simp[flat] at hf
     ·cases h
    ·cases h
   ·cases h
  |map r =>
   simp only[Ya] at h
   split at h
   ·split at h
    ·cases h;simp[flat] at hf
    ·cases h
   ·cases h
  |fn f x y =>
   simp only[Ya] at h
   split at h
   ·split at h
    ·rename_i x' y' h1 h2
     cases h
     simp only[flat,ahe] at hf;rw[hl _ _ h1 hf.1.2,hl _ _ h2 hf.2]
    ·cases h
   ·cases h
  |iface t x =>
   simp only[Ya] at h
   split at h
   ·rename_i x' h1
    cases h
    simp only[flat] at hf;rw[ih _ _ h1 hf]
   ·cases h
  |agg cs =>
   simp only[Ya] at h
   split at h
   ·rename_i x' h1
    cases h
    simp only[flat] at hf;rw[hl _ _ h1 hf]
   ·cases h
  |XQ cs =>
   simp only[Ya] at h
   split at h
   ·rename_i x' h1
    cases h
    simp only[flat] at hf;rw[hl _ _ h1 hf]
   ·cases h
  |_=>simp only[Ya] at h;cases h;rfl
def U6 (hp:OY f=true)(W_:ZT args=true)(h:X7 U (X0 U) f args true=some v):ZE U f args=some v:=by
 refine oU λs=>?_
 obtain⟨p1,p2⟩:=PK hp;unfold UN TY;rw[p2];simp only[p1,if_true,NL,U2,W_,h]
def aiu:U.Zd 3=some (.int .i64):=by kernel_rfl
def aeJ:U.Zd 21=some (.int .i32):=by kernel_rfl
def abe:U.Zd 236=some (.int .u64):=by kernel_rfl
def AW:Ys U 3=some false:=by kernel_rfl
def AU:size U 3=some 1:=by kernel_rfl
def m9:Ys U 4=some false:=by kernel_rfl
def m8:size U 4=some 1:=by kernel_rfl
def aiv:size U 5=some 1:=by kernel_rfl
def acW:Ys U 25=some true:=by kernel_rfl
def acX:size U 25=some 2:=by kernel_rfl
def aiw:Ys U 26=some false:=by kernel_rfl
def aix:size U 26=some 1:=by kernel_rfl
def qe:Ys U 48=some false:=by kernel_rfl
def qc:size U 48=some 1:=by kernel_rfl
def qa:Ys U 72=some false:=by kernel_rfl
def p_:size U 72=some 1:=by kernel_rfl
def Gh:Ys U 78=some true:=by kernel_rfl
def Gg:size U 78=some 7:=by kernel_rfl
def acY:Ys U 42=some true:=by kernel_rfl
def acZ:size U 42=some 3:=by kernel_rfl
def iD:Ys U 55=some true:=by kernel_rfl
def iC:size U 55=some 2:=by kernel_rfl
def fI:Ys U 113=some true:=by kernel_rfl
def fH:size U 113=some 9:=by kernel_rfl
def iB:Ys U 128=some true:=by kernel_rfl
def iA:size U 128=some 3:=by kernel_rfl
attribute [go_sem ↓] sC
attribute [go_sem] Int.reduceBEq Int.reduceBNe Int.reduceAdd Ge aiu aeJ abe AW AU m9 m8 aiv acW acX aiw aix qe qc qa p_ Gh Gg acY acZ iD iC fI fH iB iA
abbrev o (d:Nat)(r:Mm):RO:=⟨some d,none,none,false,r⟩
abbrev oS (r:Mm):RO:=⟨none,none,none,false,r⟩
abbrev om (d t:Nat):RO:=⟨some d,none,none,false,.Qq (.t t)⟩
abbrev oF (d g:Nat)(r:Mm):RO:=⟨some d,some (g,false),none,false,r⟩
abbrev oT (d g:Nat)(r:Mm):RO:=⟨some d,some (g,true),none,false,r⟩
abbrev vI (n:Int):Wv:=.v (.int .i64 n)
abbrev vF:Wv:=.v (.bool false)
abbrev vT:Wv:=.v (.bool true)
abbrev oP (l:List RO):RC:=.ops l
abbrev sQ (a b:RC):RC:=.seq a b
abbrev sO (l:List RO)(b:RC):RC:=.seq (.ops l) b
abbrev cO (n:Nat)(a b:RC):RC:=.cond (.t n) a b
abbrev cS (n:Nat)(b:RC):RC:=.cond (.t n) .skip b
abbrev cT (n:Nat)(a:RC):RC:=.cond (.t n) a .skip
abbrev ZX (x0 x1):=o x0 (.Sr (.t x1))
abbrev ZO (x0 x1 x2):=o x0 (.fa x1 (.t x2))
abbrev ZA (x0 x1):=o x0 (.Qq (vI x1))
abbrev Zw (x0 x1 x2):=o x0 (.Mx x1 (.t x2))
abbrev Zq (x0 x1 x2 x3):=o x0 (.FI x1 (.t x2) (.t x3))
abbrev Za (x0 x1):=o x0 (.QE (.t x1))
abbrev YN (x0 x1 x2):=o x0 (.ext (.t x1) x2)
abbrev YM (x0 x1 x2 x3):=o x0 (.bin .add x1 true (.t x2) (vI x3))
abbrev YL (x0 x1 x2):=o x0 (.box x1 (.t x2))
abbrev YC (x0 x1 x2):=oS (.st x0 (.t x1) (.t x2))
abbrev Zk (x0 x1 x2):=o x0 (.call x1 [(.t x2)])
abbrev Zf (x0):=o x0 (.Qq vF)
abbrev Y_ (x0 x1 x2 x3):=o x0 (.bin .lss x1 false (.t x2) (.t x3))
abbrev YU (x0 x1 x2 x3):=o x0 (.call x1 [(.t x2),(.t x3)])
abbrev YV (x0 x1 x2):=oT x0 x1 (.Qq (.t x2))
abbrev YQ (x0 x1 x2):=oT x0 x1 (.Sr (.t x2))
abbrev YO (x0 x1 x2):=o x0 (.pick (.t x1) vT (.t x2))
abbrev YP (x0 x1 x2):=o x0 (.pick (.t x1) (.t x2) vF)
abbrev Yq (x0 x1 x2):=oF x0 x1 (.Sr (.t x2))
abbrev Yl (x0 x1 x2 x3):=oT x0 x1 (.fa x2 (.t x3))
abbrev X5 (x0 x1):=o x0 (.raw (.nilCheck (.tmp x1)))
abbrev XI (x0 x1 x2):=oF x0 x1 (.Qq (.t x2))
abbrev XF (x0):=o x0 (.Qq (.v .ZQ))
abbrev Xv (x0 x1 x2 x3):=oF x0 x1 (.fa x2 (.t x3))
abbrev Xl (x0 x1 x2 x3):=o x0 (.call x1 [(.t x2),(vI x3)])
abbrev WU (x0 x1):=o x0 (.un .not (.t x1))
abbrev Wx (x0 x1 x2 x3):=o x0 (.bin .gtr x1 true (.t x2) (vI x3))
abbrev Wy (x0 x1 x2 x3):=o x0 (.bin .sub x1 true (.t x2) (vI x3))
abbrev Wq (x0 x1 x2 x3):=o x0 (.bin .eql x1 true (.t x2) (vI x3))
abbrev Wg (x0 x1 x2 x3):=oT x0 x1 (.Mx x2 (.t x3))
abbrev VN (x0 x1 x2 x3 x4 x5):=o x0 (.app x1 x2 x3 (.t x4) (.t x5))
abbrev Vp (x0 x1 x2 x3):=o x0 (.bin .neq x1 true (.t x2) (vI x3))
abbrev UT (x0 x1 x2 x3):=o x0 (.bin .add x1 false (.t x2) (.t x3))
abbrev US (x0 x1 x2):=oF x0 x1 (.un .not (.t x2))
abbrev Uz (x0):=o x0 (.Qq vT)
abbrev T6 (x0 x1 x2 x3 x4):=o x0 (.eL x1 x2 (.t x3) (vI x4))
abbrev Tt (x0 x1 x2 x3 x4):=oT x0 x1 (.call x2 [(.t x3),(.t x4)])
abbrev Tv (x0 x1 x2):=oF x0 x1 (.QE (.t x2))
abbrev Tw (x0 x1 x2 x3 x4):=oT x0 x1 (.FI x2 (.t x3) (.t x4))
abbrev S6 (x0 x1 x2 x3):=oF x0 x1 (.Mx x2 (.t x3))
abbrev S5 (x0 x1 x2 x3):=o x0 (.bin .neq x1 false (.t x2) (.t x3))
abbrev RQ (x0 x1 x2):=o x0 (.al [(iI x1),.ZQ,.ZQ] x2)
abbrev PQ (x0 x1 x2 x3 x4):=oT x0 x1 (.bin .neq x2 true (.t x3) (vI x4))
abbrev PO (x0 x1 x2 x3 x4 x5):=oF x0 x1 (.eL x2 x3 (.t x4) (vI x5))
abbrev PL (x0 x1 x2 x3):=oF x0 x1 (.pick (.t x2) (.t x3) vF)
abbrev PE (x0 x1 x2 x3 x4 x5 x6 x7):=o x0 (.Uc x1 x2 x3 [(iI x4)] [(x5,x6,(.t x7))])
abbrev NG (x0 x1 x2 x3 x4 x5):=o x0 (.bin .eql x1 true (.t x2) (.v (.str [x3,x4,x5])))
abbrev Og (x0 x1 x2 x3 x4):=o x0 (.call x1 [(.t x2),(.t x3),(.t x4)])
abbrev NF (x0 x1 x2 x3 x4 x5):=o x0 (.al [(.str []),(iI x1),(iI x2),(iI x3),(iI x4),(.str []),.ZQ] x5)
abbrev Od (x0 x1):=o x0 (.call x1 [])
abbrev Nx (x0 x1 x2 x3 x4 x5):=o x0 (.call x1 [(.t x2),(.t x3),(.t x4),(.t x5)])
abbrev Oc (x0 x1 x2 x3):=o x0 (.bin .shl x1 true (vI x2) (.t x3))
abbrev Nw (x0 x1):=o x0 (.Qq (.t x1))
abbrev Md (x0 x1 x2):=oT x0 x1 (.QE (.t x2))
abbrev L5 (x0 x1 x2 x3):=o x0 (.bin .lss x1 true (.t x2) (vI x3))
abbrev L4 (x0 x1 x2 x3):=o x0 (.bin .sub x1 false (.t x2) (.t x3))
abbrev KV (x0 x1 x2 x3 x4):=oT x0 x1 (.bin .eql x2 true (.t x3) (vI x4))
abbrev Kc (x0 x1):=o x0 (.sS (.t x1))
abbrev KS (x0 x1 x2 x3 x4):=oT x0 x1 (.bin .sub x2 true (.t x3) (vI x4))
abbrev KU (x0 x1 x2 x3 x4):=oT x0 x1 (.bin .eql x2 false (.t x3) (.t x4))
abbrev KR (x0 x1 x2 x3 x4):=oF x0 x1 (.call x2 [(.t x3),(vI x4)])
abbrev HT (x0 x1 x2 x3 x4):=oF x0 x1 (.bin .geq x2 false (.t x3) (.t x4))
abbrev Ih (x0 x1 x2 x3 x4):=oF x0 x1 (.bin .gtr x2 true (.t x3) (vI x4))
abbrev HK (x0 x1 x2):=oT x0 x1 (.un .not (.t x2))
abbrev FH (x0 x1 x2 x3 x4):=o x0 (.call x1 [(.t x2),(vI x3),(vI x4)])
abbrev Fw (x0 x1 x2 x3 x4 x5 x6):=o x0 (.bin .eql x1 true (.t x2) (.v (.str [x3,x4,x5,x6])))
abbrev Fc (x0 x1 x2):=o x0 (.Rg (.t x1) [(.t x2)])
abbrev F9 (x0 x1 x2 x3 x4):=oF x0 x1 (.bin .neq x2 false (.t x3) (.t x4))
abbrev Fb (x0 x1 x2 x3):=o x0 (.bin .geq x1 true (.t x2) (vI x3))
abbrev F' (x0 x1 x2 x3):=o x0 (.bin .eql x1 false (.t x2) (.t x3))
abbrev Ga (x0 x1 x2 x3):=o x0 (.al [(iI x1),(iI x2)] x3)
abbrev E_ (x0 x1 x2 x3 x4 x5 x6):=o x0 (.call x1 [(.t x2),(.t x3),(.t x4),(.t x5),(.t x6)])
abbrev EZ (x0):=o x0 (.Qq (.v (.str [])))
abbrev Cc (x0 x1 x2):=o x0 (.al [(iI x1),.ZQ] x2)
abbrev CV (x0 x1 x2 x3 x4):=oF x0 x1 (.call x2 [(.t x3),(.t x4)])
abbrev CW (x0 x1 x2 x3 x4):=oF x0 x1 (.bin .neq x2 true (.t x3) (vI x4))
abbrev BY (x0 x1):=o x0 (.raw (.makeMap x1 none))
abbrev BX (x0 x1 x2 x3):=o x0 (.raw (.lookup x1 (.tmp x2) (.tmp x3) false))
abbrev CX (x0 x1 x2 x3 x4 x5 x6 x7 x8):=o x0 (.Uc x1 x2 x3 [(iI x4),(iI x5)] [(x6,x7,(.t x8))])
abbrev CT (x0 x1 x2 x3):=o x0 (.bin .mul x1 false (.t x2) (.t x3))
abbrev CU (x0 x1 x2 x3):=oF x0 x1 (.call x2 [(.t x3)])
abbrev xF (x0 x1 x2 x3 x4 x5 x6 x7):=o x0 (.bin .eql x1 true (.t x2) (.v (.str [x3,x4,x5,x6,x7])))
abbrev xE (x0 x1 x2 x3 x4 x5 x6 x7):=o x0 (.al [(.str []),(iI x1),(iI x2),(iI x3),(iI x4),(.str []),.ZQ,(iI x5),(iI x6)] x7)
abbrev yO (x0 x1 x2 x3 x4):=oF x0 x1 (.bin .eql x2 true (.t x3) (vI x4))
abbrev yg (x0 x1 x2 x3 x4 x5 x6 x7 x8 x9 x10 x11):=o x0 (.Uc x1 x2 x3 [(iI x4),(iI x5)] [(x6,x7,(.t x8)),(x9,x10,(.t x11))])
abbrev xD (x0 x1 x2 x3 x4):=oT x0 x1 (.bin .lss x2 true (.t x3) (vI x4))
abbrev wV (x0 x1 x2 x3 x4):=o x0 (.al [(iI x1),(iI x2),(iI x3)] x4)
abbrev pg (x0 x1 x2 x3 x4 x5):=oT x0 x1 (.call x2 [(.t x3),(vI x4),(vI x5)])
abbrev oR (x0 x1):=o x0 (.al [.ZQ,.ZQ,.ZQ] x1)
abbrev oQ (x0 x1 x2 x3):=o x0 (.bin .quo x1 true (.t x2) (vI x3))
abbrev qk (x0 x1 x2 x3):=o x0 (.bin .shr x1 false (.t x2) (.t x3))
abbrev eK (x0 x1 x2 x3):=oS (.raw (.mapUpdate x0 (.tmp x1) (.tmp x2) (.tmp x3)))
abbrev eJ (x0 x1 x2):=oS (.raw (.mapUpdate x0 (.tmp x1) (.tmp x2) (.const (.bool true))))
abbrev eI (x0 x1 x2 x3 x4):=o x0 (.raw (.call { callee:=.builtin .min,args:=#[(.tmp x1),(.const (.int .i64 x2))],argTypes:=#[x3,x4] }))
abbrev eH (x0 x1 x2 x3 x4):=o x0 (.raw (.call { callee:=.builtin .min,args:=#[(.tmp x1),(.tmp x2)],argTypes:=#[x3,x4] }))
end Go.Am
namespace Go.Am
open Go
structure Pb where
 lo:Nat
 hi:Nat
 e:Env
 op:Mm
 v:AV
def pb1 (v:AV)(x:Option (AV×St)):Bool:=match x with
 |some (u,_)=>same u v
 |none=>false
section
variable (X:Cx)
noncomputable def pbL (base:Nat)(e:Env)(op:Mm)(v:AV):List St->Bool
 |[]=>true
 |s::l=>pb1 v (Ws X base none e s op)&&pbL base e op v l
noncomputable def OE (base:Nat)(H:List St):List Pb->Bool
 |[]=>true
 |p::P=>pbL X base p.e p.op p.v ((H.take (p.hi+1)).drop p.lo)&&OE base H P
abbrev eP:=RO×Option (Nat×Nat)
def SO (base:Nat)(s:St)(l:List eP):Bool:=VO base s (l.map Prod.fst)
def acI (c:Option (Nat×Nat))(e:Env)(op:Mm)(v:AV)(P:List Pb):List Pb:=match c with
 |some (lo,hi)=>⟨lo,hi,e,op,v⟩::P
 |none=>P
noncomputable def Nc (base:Nat):List eP->Env->St->List St->List Pb->Option (Env×St)
 |[],e,s,H,P=>bif OE X base H P then some (e,s) else none
 |(o,c)::l,e,s,H,P=>match (bif Re e o.g then Ws X base o.at_ e s o.op else some (undef,s)) with
  |some (v,s')=>bif !o.w||SO base s' l then Nc base l (Ye e o.d v) s' (bif o.w then H++[s'] else H) (acI c e o.op v P) else none
  |none=>none
def Bp (ops:Array Oper)(i:Nat):Bool :=
 (Up X 0 ops.toList).all (λk=>!decide (k<i)||Xh ops k i)&&(Zc X ops 0 ops.toList).all (λk=>Xh ops k i||Xh ops i k)
def opC (ops:Array Oper)(i:Nat):Option (Nat×Nat):=match ops[i]? with
 |some o=>if ((cls X o.op).isR||(match cls X o.op with|.q=>true|_=>false))&&!Bp X ops i then
   some (X9 (λj=>Xh ops j i) (Zc X ops 0 ops.toList),X9 (λj=>!Xh ops i j) (Zc X ops 0 ops.toList)) else none
 |none=>none
def csD (ops:Array Oper):List (Option (Nat×Nat)):=(List.range ops.size).map (opC X ops)
def aK (ops:Array Oper):Bool :=
 !MI X ops&&(List.range ops.size).all λi=>match ops[i]? with
  |some o=>!((cls X o.op).isR||(match cls X o.op with|.q=>true|_=>false))||Bp X ops i ||
   ((cls X o.op).isR&&(o.guard.isNone&&(Up X 0 ops.toList).all λk=>!Xh ops k i))
  |none=>true
def OH:Code->Option (Nat×List eP)
 |.region _ ops d=>if d&&aK X ops&&okD X ops then match Ux X ops true 0 ops.toList with
   |some l=>some (ops.size,l.zip (csD X ops))
   |none=>none
   else none
 |_=>none
end
section
variable [Stat]
variable {X:Cx}{ops:Array Oper}{base:Nat}
def OT {b:Bool}:∀(l:List Oper) (i:Nat) (r:List RO),Ux X ops b i l=some r->r.length=l.length
 |[],i,r,h=>by simp only[Ux] at h;cases h;rfl
 |o::l,i,r,h=>by
  simp only[Ux] at h
  split at h
  ·rename_i g r' h1 h2
   cases h
   simp[OT l (i+1) r' h2]
  ·cases h
def nT {r:Env×St}:∀(l:List eP) (e:Env) (s:St) (H:List St) (P:List Pb),Nc X base l e s H P=some r->PA X base (l.map Prod.fst) e s=some r
 |[],e,s,H,P,h=>by
  simp only[Nc] at h
  cases hb:OE X base H P with
  |true=>rw[hb] at h;exact h
  |false=>rw[hb] at h;cases h
 |(o,c)::l,e,s,H,P,h=>by
  simp only[Nc] at h;simp only[aqe,PA]
  split at h
  ·rename_i v s' hv;rw[hv];simp only
   cases hb:(!o.w||SO base s' l) with
   |false=>rw[hb] at h;cases h
   |true =>
    rw[hb] at h;rw[Of (by exact hb)];exact nT l _ _ _ _ h
  ·cases h
def agh {i:Nat}{o:Oper}{g:Option (Nat×Bool)}{e:Env}{s s1:St}{v:AV}(h1:rcG ops o.guard=some g)
  (hr:(bif Re e g then Ws X base (if true&&(cls X o.op).Af then some i else none) e s (vA X o.op) else some (undef,s))=some (v,s1)) :
  Sk X (X0 X) ops base i o e s=some (Ye e o.dst v,s1):=by
 have JH:=Ei h1 e
 cases hw:Re e g with
 |false =>
  rw[hw] at hr JH;simp only[cond_false] at hr
  cases hr
  simp only[Sk,<-JH,aqa,if_false]
 |true =>
  rw[hw] at hr JH;simp only[cond_true,aqr] at hr;simp only[Sk,<-JH,if_true];by_cases ha:(cls X o.op).Af=true
  ·rw[Of ha] at hr;obtain⟨s2,e1,e2⟩:=a9 (Xa.1 ha) hr;rw[Xa.1 ha];simp only[e1,e2]
  ·rw[O3 ha] at hr;have:=Nf hr
   cases hk:cls X o.op <;> rw[hk] at ha <;> first|exact absurd rfl ha|simp only[this]
def nS {i m:Nat}{tr:List (Env×St)}{s:St}:∀(l:List Nat),(∀k∈l,Xh ops k i=false)->TG ops base i m tr l s=s
 |[],_=>rfl
 |j::l,h=>by
  unfold TG;rw[O3 (by simp[h j (aba ..)])];exact nS l λk hk=>h k (aab _ hk)
def Bo {H:List St}:∀(P:List Pb),OE X base H P=true->∀p∈P,pbL X base p.e p.op p.v ((H.take (p.hi+1)).drop p.lo)=true
 |[],_,p,hp=>by simp at hp
 |q::P,h,p,hp=>by
  simp only[OE,ahe] at h;rcases ap9.1 hp with rfl|hp
  ·exact h.1
  ·exact Bo P h.2 p hp
def nR {e:Env}{op:Mm}{v:AV}:∀(l:List St),pbL X base e op v l=true->∀s∈l,pb1 v (Ws X base none e s op)=true
 |[],_,s,hs=>by simp at hs
 |x::l,h,s,hs=>by
  simp only[pbL,ahe] at h;rcases ap9.1 hs with rfl|hs
  ·exact h.1
  ·exact nR l h.2 s hs
def aJ (hlr:MI X ops=false):∀(l:List Oper) (i:Nat) (l':List eP) (e:Env) (s:St) (H:List St) (P:List Pb) (r:Env×St) (tr:List (Env×St)),
  Ux X ops true i l=some (l'.map Prod.fst)->Nc X base l' e s H P=some r->uw X (X0 X) ops base i l e s=some tr ->
  ∃P',OE X base (H++(Zc X ops i l).map (λj=>WI tr (j+1-i))) P'=true/\(∀p∈P,p∈P') /\
   ∀(k:Nat) o q lo hi,l[k]? = some o->l'[k]? = some (q,some (lo,hi))->o.guard=none->cls X o.op=.r ->
    ∃v,Yn X (X0 X) (Sj tr k) o.op (WI tr k)=some (v,WI tr (k+1))/\(⟨lo,hi,Sj tr k,vA X o.op,v⟩:Pb)∈P'
 |[],i,l',e,s,H,P,r,tr,h1,h2,h3=>by
  have DY:l'=[]:=by
   simp only[Ux] at h1
   cases l' with
   |nil=>rfl
   |cons x y=>simp at h1
  subst DY;simp only[Nc] at h2;refine⟨P,?_,λp hp=>hp,λk o q lo hi hk=>by simp at hk⟩;simp only[Zc,List.map_nil,aqw]
  cases hb:OE X base H P with
  |true=>rfl
  |false=>rw[hb] at h2;cases h2
 |o::l,i,l',e,s,H,P,r,tr,h1,h2,h3=>by
  simp only[Ux] at h1
  split at h1
  ·rename_i g r' e1 e2
   cases l' with
   |nil=>simp at h1
   |cons x l2 =>
    obtain⟨ro,c⟩:=x;simp only[aqe,Option.some.injEq,List.cons.injEq] at h1;obtain⟨rfl,rfl⟩:=h1;simp only[Nc] at h2
    split at h2
    ·rename_i v s1 hv;have W_:=agh e1 hv;simp only[uw,W_] at h3
     split at h3
     ·rename_i tr' g1
      cases h3
      cases hb:(!(true&&(cls X o.op).lR)||SO base s1 l2) with
      |false=>rw[hb] at h2;cases h2
      |true =>
       rw[hb] at h2;simp only[cond_true] at h2;obtain⟨P',q1,q2,q3⟩:=aJ hlr l (i+1) l2 _ s1 _ _ r tr' e2 h2 g1;obtain⟨k1,k2,_⟩:=Qf _ _ _ _ _ g1;have hts:∀n,WI ((e,s)::tr') (n+1)=WI tr' n:=λn=>by simp[WI]
       have hte:∀n,Sj ((e,s)::tr') (n+1)=Sj tr' n:=λn=>by simp[Sj]
       have RX:WI tr' 0=s1:=by simp[WI,k2]
       have akC:(Zc X ops (i+1) l).map (λj=>WI ((e,s)::tr') (j+1-i))=(Zc X ops (i+1) l).map (λj=>WI tr' (j+1-(i+1))):=by
        refine aqD λj hj=>?_
        obtain⟨k,_,_,hjk,_⟩:=(Qe l (i+1) j).1 hj;rw[show j+1-i=(j+1-(i+1))+1 by omega,hts]
       refine⟨P',?_,λp hp=>q2 p (by unfold acI;split <;> simp[hp]),λk o' q lo hi G0 xh hg hc=>?_⟩
       ·have YA:late X ops i=false:=by simp[late,hlr]
        simp only[Zc,YA,aqF,Bool.and_true]
        cases hw:(cls X o.op).lR with
        |true =>
         rw[hw] at q1;simp only[if_true,aqe];rw[akC,show i+1-i=0+1 by omega,hts,RX]
         simpa using q1
        |false =>
         rw[hw] at q1;simp only[aqa,if_false];rw[akC]
         simpa using q1
       ·cases k with
        |zero =>
         simp at G0 xh;obtain⟨_,rfl⟩:=xh;subst G0;have hgn:g=none:=by rw[hg] at e1;simp[rcG] at e1;exact e1.symm
         subst hgn;simp only[Re,cond_true,hc,zm.Af,Bool.and_false,aqa,if_false] at hv;have:=Nf hv;refine⟨v,?_,?_⟩
         ·rw[hts,RX];exact this
         ·exact q2 _ (by simp[acI,Sj])
        |succ k =>
         obtain⟨v',w1,w2⟩:=q3 k o' q lo hi (by simpa using G0) (by simpa using xh) hg hc;refine⟨v',?_,?_⟩
         ·rw[hte,hts,hts];exact w1
         ·rw[hte];exact w2
     ·cases h3
    ·cases h2
  ·cases h1
def aI {l:List RO}{e:Env}{s:St}{r:Env×St}(vz:Ux X ops true 0 ops.toList=some l)(aH:aK X ops=true)(agi:okD X ops=true)(hn:VO s.next s l=true)
  (hrC:Nc X s.next (l.zip (csD X ops)) e { s with next:=s.next+ops.size } [{ s with next:=s.next+ops.size }] []=some r):N' X (X0 X) ops e s=some r:=by
 have XP:=tL agi;have hlen:l.length=ops.size:=by rw[OT _ _ _ vz];simp
 have ug:(l.zip (csD X ops)).map Prod.fst=l:=by rw[List.map_fst_zip];rw[hlen];simp[csD]
 have hr:PA X s.next l e { s with next:=s.next+ops.size }=some r:=by
  have:=nT _ _ _ _ _ hrC;rw[ug] at this;exact this
 unfold aK at aH;simp only[ahe,aqS,ap8,aqg] at aH;obtain⟨hlr,Xx⟩:=aH;obtain⟨tr,g1,g2,g3⟩:=Eh _ _ _ _ _ vz hr;obtain⟨P',hP1,_,hP2⟩:=aJ hlr ops.toList 0 (l.zip (csD X ops)) e _ _ [] r tr (by rw[ug];exact vz) hrC g1;obtain⟨k1,k2,k3⟩:=Qf _ _ _ _ _ g1;have k1:tr.length=ops.size+1:=by simpa using k1
 have ht:DG X (X0 X) ops s.next (Sj tr) (WI tr):=⟨λi o ho=>by
  have:=k3 i o (by simpa using ho)
  simpa using this⟩
 have Mu:WI tr 0={ s with next:=s.next+ops.size }:=by simp[WI,k2]
 have F5:∀i,late X ops i=false:=λi=>by simp[late,hlr]
 have LN:∀j,j∈Zc X ops 0 ops.toList<->∃o,ops[j]? = some o/\cls X o.op=.w:=by
  intro j;rw[Qe]
  constructor
  ·rintro⟨k,o,h1,rfl,h3⟩;simp only[ahe] at h3;exact⟨o,by simpa using h1,QT.1 h3.1⟩
  ·rintro⟨o,h1,h3⟩;exact⟨j,o,by simpa using h1,J,by simp[QT.2 h3,F5]⟩
 have agj:∀j,kA X ops j->j∈Up X 0 ops.toList:=by
  have:∀(l:List Oper) (i k:Nat) o,l[k]? = some o->cls X o.op=.a->i+k∈Up X i l:=by
   intro l
   induction l with
   |nil=>intro i k o h;simp at h
   |cons x l ih =>
    intro i k o h hc;unfold Up
    cases k with
    |zero=>simp at h;subst h;rw[Of (Xa.2 hc)];exact aba ..
    |succ k =>
     have:=ih (i+1) k o (by simpa using h) hc;rw[show i+(k+1)=i+1+k by omega]
     split
     ·exact aab _ this
     ·exact this
  rintro j ⟨o,ho,hc⟩;have:=this ops.toList 0 j o (by simpa using ho) hc
  simpa using this
 have agk:=Lj (tr:=tr) (Zc X ops 0 ops.toList) λj hj=>by
  obtain⟨o,ho,_⟩:=(LN j).1 hj;have:=(apV.1 ho).1;omega
 unfold N';rw[g1];simp only[agk];have D_:∀m,m=0\/(∃j,m=j+1/\j∈Zc X ops 0 ops.toList)->∀i,m<=i->kA X ops i->(WI tr m).get (s.next+i)=none:=by
  rintro m (rfl|⟨j,rfl,hj⟩) i hi ⟨o,ho,hc⟩
  ·rw[Mu];have:=Nd _ _ _ vz hn i o (by simpa using ho) (Xa.2 hc);rw[ap4] at this;exact this
  ·obtain⟨oj,hoj,hcj⟩:=(LN j).1 hj;have:=g3 j oj (by simpa using hoj) (QT.2 hcj) i J o (by simpa using ho) (Xa.2 hc)
   simpa using this
 have hss:∀m s1,(m,s1)∈(0,({ s with next:=s.next+ops.size }:St))::((Zc X ops 0 ops.toList).map λj=>(j+1,WI tr (j+1)))->(m=0\/∃j,m=j+1/\j∈Zc X ops 0 ops.toList)/\s1=WI tr m:=by
  intro m s1 hm;rcases ap9.1 hm with e|hm
  ·cases e;exact⟨.inl rfl,Mu.symm⟩
  ·obtain⟨j,hj,e⟩:=ap0.1 hm
   cases e
   exact⟨.inr ⟨j,rfl,hj⟩,rfl⟩
 have hnA:Sb X ops s.next ((0,({ s with next:=s.next+ops.size }:St))::((Zc X ops 0 ops.toList).map λj=>(j+1,WI tr (j+1))))=true:=Li _ λm s1 hm i hi hk=>by
  obtain⟨h1,rfl⟩:=hss m s1 hm;exact D_ m h1 i hi hk
 have Je:Tn X (X0 X) ops s.next (Zc X ops 0 ops.toList) (Up X 0 ops.toList) ((0,({ s with next:=s.next+ops.size }:St))::((Zc X ops 0 ops.toList).map λj=>(j+1,WI tr (j+1)))) tr 0 ops.toList tr=true:=by
  refine Is _ _ _ λi o es ho htr hw=>?_
  have U_:ops[i]? = some o:=by simpa using ho
  have hi:i<ops.size:=(apV.1 U_).1;have hes:es=(Sj tr i,WI tr i):=by simp[Sj,WI,htr]
  subst hes;simp only at hw;rw[ap4];have uE:cls X o.op≠.a->∃v,Yn X (X0 X) (Sj tr i) o.op (WI tr i)=some (v,WI tr (i+1)):=λZB=>by
   rcases UP (ht.step i o U_) with⟨h1,_⟩|⟨_,v,_,⟨hc,_⟩|⟨_,h3⟩⟩
   ·rw[hw] at h1;cases h1
   ·exact absurd (Xa.1 hc) ZB
   ·exact⟨v,h3⟩
  have Fx:(cls X o.op=.r\/cls X o.op=.q)->Bp X ops i=true->∃m,Ua ops (Zc X ops 0 ops.toList) ((0,({ s with next:=s.next+ops.size }:St))::((Zc X ops 0 ops.toList).map λj=>(j+1,WI tr (j+1)))) i=[(m,WI tr m)] /\
    TG ops s.next i m tr (Up X 0 ops.toList) (WI tr m)=WI tr i:=by
   intro hk aG;unfold Bp at aG;rw[ahe] at aG;obtain⟨ha,mS⟩:=aG;rw[ap8] at ha mS;have hab:∀k,k<i->kA X ops k->Xh ops k i=true:=λk G' ur=>by
    have:=ha k (agj k ur)
    simpa[G'] using this
   have jo:∀k∈Zc X ops 0 ops.toList,(Xh ops k i=true<->k<i)/\(Xh ops i k=true<->i<k):=by
    intro k qQ;have:=mS k qQ;simp only[aq0] at this;rcases this with h1|h1
    ·have:=XP.RI i k h1;refine⟨⟨λ_=>this,λ_=>h1⟩,⟨λh2=>?_,λh2=>J⟩⟩;have:=XP.RI k i h2;omega
    ·have:=XP.RI k i h1;refine⟨⟨λh2=>?_,λh2=>J⟩,⟨λ_=>this,λ_=>h1⟩⟩;have:=XP.RI i k h2;omega
   have ZB:∀k∈Zc X ops 0 ops.toList,k≠i:=λk qQ e=>by
    obtain⟨o2,Ic,Jg⟩:=(LN k).1 qQ;rw[e,U_] at Ic;cases Ic;rcases hk with hk|hk <;> rw[hk] at Jg <;> cases Jg
   have agl:X9 (λj=>!Xh ops i j) (Zc X ops 0 ops.toList)=X9 (λj=>Xh ops j i) (Zc X ops 0 ops.toList):=by
    refine Nat.le_antisymm (UQ _ λx hx h=>?_) (UQ _ λx hx h=>?_)
    ·have h1:Xh ops i x=false:=by simpa using h
     refine ((jo x hx).1).2 (Nat.lt_of_not_le λhle=>?_);have:=((jo x hx).2).2 (by have:=ZB x hx;omega);rw[h1] at this;cases this
    ·have h1:=((jo x hx).1).1 h;simp only[aqS]
     cases hb:Xh ops i x with
     |false=>rfl
     |true=>have:=((jo x hx).2).1 hb;omega
   unfold Ua;rw[agl];generalize hq:X9 (λj=>Xh ops j i) (Zc X ops 0 ops.toList)=q;have F4:=List.pairwise_iff_getElem.1 (SZ (X:=X) (ops:=ops) ops.toList 0);have hql:q<=(Zc X ops 0 ops.toList).length:=by
    rw[<-hq];generalize Zc X ops 0 ops.toList=L
    induction L with
    |nil=>exact api _
    |cons x L ih=>simp only[X9,ap1];split <;> omega
   have Lh:∀n (hn:n<(Zc X ops 0 ops.toList).length),(n<q<->(Zc X ops 0 ops.toList)[n]<i):=by
    obtain⟨p,zl,xR,qf⟩:∃p,p<=(Zc X ops 0 ops.toList).length/\(∀n (hn:n<(Zc X ops 0 ops.toList).length),n<p->(Zc X ops 0 ops.toList)[n]<i)/\(∀n (hn:n<(Zc X ops 0 ops.toList).length),p<=n->¬(Zc X ops 0 ops.toList)[n]<i):=by
     rcases GN (λn=>∃hn:n<(Zc X ops 0 ops.toList).length,(Zc X ops 0 ops.toList)[n]<i) (Zc X ops 0 ops.toList).length with h|⟨n0,h1,⟨h2,h3⟩,h4⟩
     ·exact⟨0,apW _,λn _ hn=>J,λn hn _ YA=>h n hn ⟨hn,YA⟩⟩
     ·refine⟨n0+1,h1,λn hn YA=>?_,λn hn hle YA=>h4 n J hn ⟨hn,YA⟩⟩;by_cases e:n=n0
      ·subst e;exact h3
      ·have:=F4 n n0 hn h2 J;omega
    have ja:p=q:=by
     rw[<-hq];refine (UD _ p zl (λx hx=>?_) (λx hx=>?_)).symm
     ·obtain⟨n,hn,rfl⟩:=aqd.1 hx;rw[List.getElem_take];have uu:n<p/\n<(Zc X ops 0 ops.toList).length:=by rw[aqO] at hn;omega
      exact ((jo _ (adm uu.2)).1).2 (xR n uu.2 uu.1)
     ·obtain⟨n,hn,rfl⟩:=aqd.1 hx;rw[List.getElem_drop];rw[List.length_drop] at hn;have:=qf (p+n) J J
      cases hb:Xh ops (Zc X ops 0 ops.toList)[p+n] i with
      |false=>rfl
      |true=>exact absurd (((jo _ (adm J)).1).1 hb) this
    subst ja;exact λn hn=>⟨xR n hn,λYA=>Nat.lt_of_not_le λhle=>qf n hn hle YA⟩
   have fin:∀m,(m=0\/∃j,m=j+1/\j∈Zc X ops 0 ops.toList)->m<=i->(∀k∈Zc X ops 0 ops.toList,k<i->k<m) ->
     TG ops s.next i m tr (Up X 0 ops.toList) (WI tr m)=WI tr i:=λm hm uD hwm =>
    Bn ht k1 XP hi uD (λk ok h1 h2 agm hc=>by
     have:=hwm k ((LN k).2 ⟨ok,agm,hc⟩) h2;omega) hab (λk h1 h2=>D_ m hm k h1 h2)
   cases q with
   |zero =>
    refine⟨0,by simp[Mu],fin 0 (.inl rfl) (apW _) λk qQ G'=>?_⟩;obtain⟨n,hn,rfl⟩:=aqd.1 qQ;have:=(Lh n hn).2 G';omega
   |succ q =>
    have hqn:q<(Zc X ops 0 ops.toList).length:=J;have hqi:=(Lh q hqn).1 J;refine⟨(Zc X ops 0 ops.toList)[q]+1,?_,fin _ (.inr ⟨_,rfl,adm _⟩) J λk qQ G'=>?_⟩
    ·rw[List.drop_take];rw[show q+1+1-(q+1)=1 by omega,aq5,aea (by simpa using hqn)];simp
    ·obtain⟨n,hn,rfl⟩:=aqd.1 qQ;have hnq:=(Lh n hn).2 G';by_cases e:n=q
     ·subst e;omega
     ·have:=F4 n q hn hqn J;omega
  have D9:=Xx i hi;rw[U_] at D9;simp only at D9;refine⟨λhk=>?_,λhk=>?_⟩
  ·cases DW:Bp X ops i with
   |true =>
    obtain⟨v,hv⟩:=uE (by rw[hk];simp);obtain⟨m,ux,hm2⟩:=Fx (.inl hk) DW;refine⟨v,_,hv,?_⟩;rw[ux];simp only[WB,hm2,hv,Pv,Bool.and_self]
   |false =>
    rw[hk,DW] at D9;simp only[zm.isR,Bool.true_or,aqB,aqE,aqr,ahe,aq1,ap8,aqS] at D9;obtain⟨hgn,RW⟩:=D9;have FO:(l.zip (csD X ops))[i]? = some ((l[i]'J),some (X9 (λj=>Xh ops j i) (Zc X ops 0 ops.toList),X9 (λj=>!Xh ops i j) (Zc X ops 0 ops.toList))):=by
     rw[List.getElem?_zip_eq_some];refine⟨by simp[aaa (show i<l.length by omega)],?_⟩;simp only[csD,aqc,List.getElem?_range hi,aqG,opC,U_,hk,DW,zm.isR];rfl
    obtain⟨v,hv,SE⟩:=hP2 i o _ _ _ (by simpa using U_) FO hgn hk;refine⟨v,_,hv,?_⟩;have Tp:=Bo _ hP1 _ SE;simp only at Tp;have agn:∀x∈Ua ops (Zc X ops 0 ops.toList) ((0,({ s with next:=s.next+ops.size }:St))::((Zc X ops 0 ops.toList).map λj=>(j+1,WI tr (j+1)))) i,pb1 v (Ws X s.next none (Sj tr i) x.2 (vA X o.op))=true:=by
     intro x hx;refine nR _ Tp x.2 ?_;have:(([{ s with next:=s.next+ops.size }]:List St)++(Zc X ops 0 ops.toList).map (λj=>WI tr (j+1-0)))=((0,({ s with next:=s.next+ops.size }:St))::((Zc X ops 0 ops.toList).map λj=>(j+1,WI tr (j+1)))).map Prod.snd:=by
      simp[Function.comp_def]
     rw[this,<-List.map_take,<-List.map_drop];exact List.mem_map_of_mem hx
    generalize Ua ops (Zc X ops 0 ops.toList) ((0,({ s with next:=s.next+ops.size }:St))::((Zc X ops 0 ops.toList).map λj=>(j+1,WI tr (j+1)))) i=L at agn
    induction L with
    |nil=>rfl
    |cons x L ih =>
     obtain⟨m,s1⟩:=x;have h0:=agn (m,s1) (aba ..);simp only[WB];rw[nS _ RW];unfold pb1 at h0
     split at h0
     ·rename_i u s2 hu;simp only at hu;simp only[Nf hu,h0,aqr];exact ih λx hx=>agn x (aab _ hx)
     ·cases h0
  ·cases DW:Bp X ops i with
   |true =>
    obtain⟨v,hv⟩:=uE (by rw[hk];simp);obtain⟨m,ux,hm2⟩:=Fx (.inr hk) DW;obtain⟨_,c,vs,us,e1,e2,e3,_⟩:=CL hk hv;refine⟨c,vs,us,e1,e2,e3,?_⟩;rw[ux];simp only[SP,hm2,e3,Wu,Bool.and_self]
   |false =>
    rw[hk,DW] at D9;simp[zm.isR] at D9
 rw[Nb hlr];simp only[NC,Je,hnA,Bool.and_self,if_true];exact g2
end
section
variable (X:Cx){β:Type}(back:β)(fin:Fl->β)(ks:List K)
noncomputable def eO (base:Nat)(l:List eP)(e:Env)(s:St)(H:List St)(P:List Pb):β:=match Nc X base l e s H P with
 |some (e,s)=>goN X fin ks e s
 |none=>back
noncomputable def qP (base:Nat)(x:Option (AV×St))(d:Option Nat)(w:Bool)(c:Option (Nat×Nat))(op:Mm)(l:List eP)(e:Env)(H:List St)(P:List Pb):β:=match x with
 |some (v,s)=>bif !w||SO base s l then eO X back fin ks base l (Ye e d v) s (bif w then H++[s] else H) (acI c e op v P) else back
 |none=>back
noncomputable def oW (c:Code)(e:Env)(s:St):β:=pop X fin ks (X0 X c e s)
variable (base:Nat)(e:Env)(s:St)(H:List St)(P:List Pb)(l:List eP)
def acJ:eO X back fin ks base [] e s H P=bif OE X base H P then goN X fin ks e s else back:=by
 simp only[eO,Nc]
 cases OE X base H P <;> rfl
def aF (d:Option Nat)(a:Option Nat)(w:Bool)(op:Mm)(c:Option (Nat×Nat)) :
  eO X back fin ks base ((⟨d,none,a,w,op⟩,c)::l) e s H P=qP X back fin ks base (Ws X base a e s op) d w c op l e H P:=by
 simp only[eO,Nc,qP,Re,cond_true]
 cases Ws X base a e s op with
 |none=>rfl
 |some x =>
  simp only
  cases (!w||SO base x.2 l) <;> rfl
def qO (v:AV)(d:Option Nat)(op:Mm):qP X back fin ks base (some (v,s)) d false none op l e H P=eO X back fin ks base l (Ye e d v) s H P:=(λh=>h) rfl
def vb (v:AV)(d:Option Nat)(lo hi:Nat)(op:Mm):qP X back fin ks base (some (v,s)) d false (some (lo,hi)) op l e H P=eO X back fin ks base l (Ye e d v) s H (⟨lo,hi,e,op,v⟩::P):=(λh=>h) rfl
def qN (v:AV)(d:Option Nat)(op:Mm):qP X back fin ks base (some (v,s)) d true none op l e H P=bif SO base s l then eO X back fin ks base l (Ye e d v) s (H++[s]) P else back:=(λh=>h) rfl
def jn:SO base s []=true:=(λh=>h) rfl
def va (d:Option Nat)(g:Option (Nat×Bool))(w:Bool)(op:Mm)(c:Option (Nat×Nat)):SO base s ((⟨d,g,none,w,op⟩,c)::l)=SO base s l:=by
 simp[SO,VO]
def u_ (i:Nat)(d:Option Nat)(g:Option (Nat×Bool))(w:Bool)(op:Mm)(c:Option (Nat×Nat)):SO base s ((⟨d,g,some i,w,op⟩,c)::l)=((s.get (base+i)).isNone&&SO base s l):=by
 simp[SO,VO]
def jm:OE X base H []=true:=(λh=>h) rfl
def qM (lo hi:Nat)(op:Mm)(v:AV):OE X base H (⟨lo,hi,e,op,v⟩::P)=(pbL X base e op v ((H.take (hi+1)).drop lo)&&OE X base H P):=(λh=>h) rfl
def acK (op:Mm)(v:AV):pbL X base e op v []=true:=(λh=>h) rfl
def aE (op:Mm)(v:AV)(L:List St):pbL X base e op v (s::L)=(pb1 v (Ws X base none e s op)&&pbL X base e op v L):=(λh=>h) rfl
def pbO (v:AV)(x:Option AV):Bool:=match x with
 |some u=>same u v
 |none=>false
def u7 (v:AV)(x:Option AV):pb1 v (Zh x s)=pbO v x:=by cases x <;> rfl
def aD (u v:AV):pbO v (some u)=same u v:=(λh=>h) rfl
def ago (v:AV)(x:Wv):pb1 v (Ws X base none e s (.Sr x))=pbO v (Sr (Xp e x) s):=u7 s v _
def acL (v:AV)(x:Wv):pb1 v (Ws X base none e s (.QE x))=pbO v (U1 (Xp e x)):=u7 s v _
def aC {α:Type}(x:α)(l m:List α):(x::l)++m=x::(l++m):=(λh=>h) rfl
def acM {α:Type}(m:List α):([]:List α)++m=m:=(λh=>h) rfl
def aeE [Stat] {c:Code}{n:Nat}{l:List eP}(h:OH X c=some (n,l))(fin:Fl->β)(ks:List K)(e:Env)(s:St):go X fin ks (.raw c) e s =
  bif SO s.next s l then eO X (oW X fin ks c e s) fin ks s.next l e { s with next:=s.next+n } [{ s with next:=s.next+n }] [] else oW X fin ks c e s:=by
 unfold OH at h
 split at h
 ·rename_i id ops d
  split at h
  ·rename_i hc;simp only[ahe] at hc
   split at h
   ·rename_i l0 hl
    cases h
    have hz:SO s.next s (l0.zip (csD X ops))=VO s.next s l0:=by
     unfold SO;rw[List.map_fst_zip];rw[OT _ _ _ hl];simp[csD]
    rw[hz]
    cases hn:VO s.next s l0 with
    |false=>rfl
    |true =>
     simp only[cond_true,eO]
     split
     ·rename_i e1 s1 h1;have:=aI hl hc.1.2 hc.2 hn h1;simp only[go,den,goN];rw[Vb];simp only[WO,hc.1.1,if_true,this]
     ·rfl
   ·cases h
  ·cases h
 ·cases h
end
@[congr] theorem agp {X:Cx} {β:Type} {back:β} {fin:Fl->β} {ks:List K} {base:Nat} {x x':Option (AV×St)} {d:Option Nat} {w:Bool} {c:Option (Nat×Nat)} {op:Mm} {l:List eP} {e:Env} {H:List St} {P:List Pb} (h:x=x'):qP X back fin ks base x d w c op l e H P=qP X back fin ks base x' d w c op l e H P:=by rw[h]
attribute [go_sem ↓] acJ aF qO vb qN jn va u_ jm qM acK aE ago acL aC acM List.take_succ_cons List.take_zero aq5 aqy
attribute [go_sem] aD Pv
end Go.Am
namespace Go.Am
open Go
variable [Z8]
def qT:RC->List Code
 |.seq a b=>qT a++qT b
 |.cond _ a b=>qT a++qT b
 |.block _ b=>qT b
 |.loop b=>qT b
 |.raw c=>[c]
 |_=>[]
noncomputable def JU (f k:Nat):Code:=match U.fn f with
 |some fn=>match fn.body with
  |some c=>((qT (rc U c))[k]?).getD .skip
  |none=>.skip
 |none=>.skip
def sE:RC:=(sQ (sO [om 9 5,om 10 1,Za 11 10,Y_ 12 3 9 11] (cS 12 (.exit 0))) (sQ (.block 1 (sQ (.Uu 8 [om 15 1,om 16 5,Zq 17 1 15 16,ZX 18 17,om 19 0,Oc 20 3 1 19,Wy 21 3 20 1,o 22 (.call 65 [(.t 18),(vI 0),(.t 21)])]) (cT 22 (sO [ZA 4 3] .ret)))) (oP [om 13 5,YM 14 3 13 1,om 5 14])))
def r28:RC:=(sO [ZA 4 0] (sQ (sO [om 6 1,Za 7 6,Wx 8 3 7 4096] (cT 8 (sO [ZA 4 5] .ret))) (sQ (sO [ZA 5 0] (.block 0 (.loop sE))) (sO [ZA 4 0] .ret))))
def k28:Zm 31=some ([.tmp 4],r28):=It
def r56:RC:=(sO [Zf 4] (sO [om 5 0,om 6 1,YU 7 92 5 6,om 4 7] .ret))
def k56:Zm 32=some ([.tmp 4],r56):=It
def r91:RC:=(sO [YL 2 3 0,ZA 4 0] (sQ (sO [om 5 1,Za 6 5,Wx 7 3 6 4096] (cT 7 (sO [ZA 4 5] .ret))) (sO [om 8 1,o 9 (.mkf 135 [] [(.t 2)]),YU 10 134 8 9,Xl 11 85 10 3,om 4 11] .ret)))
def k91:Zm 66=some ([.tmp 4],r91):=It
def Ab:RC:=(sQ (sO [om 11 5,om 12 0,Za 13 12,Y_ 14 3 11 13] (cS 14 (.exit 0))) (sQ (.block 1 (sQ (.Uu 9 [om 17 0,om 18 5,Zq 19 1 17 18,ZX 20 19,om 21 1,om 22 5,Zq 23 1 21 22,ZX 24 23,S5 25 3 20 24]) (cT 25 (sO [Zf 4] .ret)))) (oP [om 15 5,YM 16 3 15 1,om 5 16])))
def aeH:RC:=(sO [Zf 4] (sQ (sO [om 6 0,Za 7 6,om 8 1,Za 9 8,S5 10 3 7 9] (cT 10 (sO [Zf 4] .ret))) (sQ (sO [ZA 5 0] (.block 0 (.loop Ab))) (sO [Uz 4] .ret))))
def amB:Zm 92=some ([.tmp 4],aeH):=It
def aeG:RC:=(sO [Zf 4] (sO [om 5 0,om 6 1,YU 7 173 5 6,Fb 8 3 7 0,om 4 8] .ret))
def aii:Zm 134=some ([.tmp 4],aeG):=It
def aif:RC:=(sO [Zf 3] (sO [om 4 0,L5 5 3 4 0,om 6 5,XI 7 6 0,Yq 8 6 1,oF 9 6 (.bin .shl 3 true (vI 1) (.t 8)),HT 10 6 3 7 9,YO 11 6 10,om 3 11] .ret))
def amw:Zm 135=some ([.tmp 3],aif):=It
def MH:RC:=(sO [Y_ 9 3 8 7] (sQ (cS 9 (.exit 0)) (sQ (.block 1 (sO [om 10 8,om 5 10] (sO [om 11 1,om 12 0,om 13 5,Zq 14 1 12 13,ZX 15 14,Fc 16 11 15] (cT 16 (sO [om 17 5,om 4 17] .ret))))) (oP [YM 18 3 8 1,om 8 18]))))
def aeF:RC:=(sO [ZA 4 0] (sQ (sO [om 6 0,Za 7 6,ZA 8 0] (.block 0 (.loop MH))) (sO [o 4 (.Qq (vI (-1)))] .ret)))
def aih:Zm 173=some ([.tmp 4],aeF):=It
end Go.Am
