/- A part of the proof of a statement of this seat: the machine on which the program is read, and what it computes; for every input. -/
import Derived.Test.YtkmaeondbkpajaaGreatDoorG01
import Derived.Test.YtkmaeondbkpajaaGreatDoorG02
import Derived.Test.YtkmaeondbkpajaaGreatDoorProg
import Derived.KernelRfl
import Derived.Lib.Bytealg
import Derived.Laws.BitsLemmas
set_option linter.all false
namespace Go.Am
open Go Go.Proofs
class ZZ where
 val:Int
variable [ZZ]
def keeps:List Nat:=[45,46,49,50,51,52,67,78,79,80,81,86,87,88,90,95,98,99,100,104,106,107,108,109,110,113,115,122,123,127,131,132,140,141,147,148,149,150,157,158,159,161,163,166,167,169,170,171,172,196,197,198,199,200,201,202,203,204,211,212,213,220,226,228,229,230,243,244,245,246,247,248,249,250,258,291,296,297,298,299,300,301,302,303,304,305]
def pD:Nat->Option (List AV×TypeId)
 |0=>some ([.int .i64 ZZ.val],3)
 |1=>some ([.int .u64 1,.int .u64 10,.int .u64 100,.int .u64 1000,.int .u64 10000,.int .u64 100000,.int .u64 1000000,.int .u64 10000000,.int .u64 100000000,.int .u64 1000000000,.int .u64 10000000000,.int .u64 100000000000,.int .u64 1000000000000,.int .u64 10000000000000,.int .u64 100000000000000,.int .u64 1000000000000000,.int .u64 10000000000000000,.int .u64 100000000000000000,.int .u64 1000000000000000000,.int .u64 10000000000000000000],313)
 |_=>none
def dL (g:Nat):Option Vr:=match pD g with
 |some (c,t)=>some (.cells c t true 0 0)
 |none=>none
def Ot (args:List AV)(s:St):Option (AV×St):=match args with
 |[.ptr b 0]=>match s.get b with
  |some (.cells [p,buf] t false 0 0)=>if t=150 then match p with
    |.VI=>some (.XF [],s.put b (.cells [.ptr b 0,buf] t false 0 0))
    |.ptr b' 0=>if b'=b then some (.XF [],s) else none
    |_=>none
   else none
  |_=>none
 |_=>none
def QC (args:List AV)(s:St):Option (AV×St):=match args with
 |[.str l,.int .u8 c]=>some (.int .i64 (Lib.indexByte l c.toNat.toUInt8),s)
 |_=>none
def Pd (args:List AV)(s:St):Option (AV×St):=match args with
 |[.str l,.str (c::m)]=>if !l.contains c&&decide (l.length<=64)&&decide (1<=m.length)&&decide (((m.length+1:Nat):Int)<=ZZ.val) then some (.int .i64 (-1),s) else none
 |_=>none
def nM (f:FuncId):Option (List AV->St->Option (AV×St)):=match f with
 |147=>some Ot
 |223=>some Pd
 |256=>some QC
 |_=>none
noncomputable def U:Cx :=
 { Zj:=fun t=>Tryz.prog.underlying t,inf:=fun t=>Tryz.prog.info? t,fn:=fun f=>bif Nat.beq f 36 then none else Tryz.prog.funcs[f]?,glob:=8,BU:=fun t=>!Tryz.prog.eqGuardType Tryz.prog.depth t&&!Tryz.prog.stoodInHeld t,Na:=dL,pure:=fun f=>!keeps.contains f,ext:=nM,spec:=fun t=>Nat.beq t 150 }
set_option maxRecDepth 100000
noncomputable def adY (fn:Func):Bool:=fn.name==Tryz.f36.name||match fn.body with
 |some c=>JC U fn.ntmps c
 |none=>true
theorem agU:(Tryz.prog.funcs.toList.all adY)=true:=by kernel_rfl
theorem agV:(Tryz.prog.funcs.toList.all fun fn=>!(fn.name == "runtime.NumGoroutine"))=true:=by kernel_rfl
theorem gn:Tryz.prog.follows .mixedOrders=true:=by kernel_rfl
end Go.Am
namespace Go.Am
open Go
abbrev X6:=List UInt8
inductive ZX where
 |mk (kind:X6) (a b mi ma:Int) (pat:X6) (nl:Bool) (kids:List ZX)
def ZG (nl:Bool)(l:List AV):AV:=match nl,l with
 |true,[]=>.ZM
 |_,l=>.fz l
mutual
def Zt:ZX->AV
 |.mk k a b mi ma p nl kids=>.agg [.str k,.int .i64 a,.int .i64 b,.int .i64 mi,.int .i64 ma,.str p,ZG nl (VJ kids)]
def VJ:List ZX->List AV
 |[]=>[]
 |c::l=>Zt c::VJ l
end
theorem Px:∀l,VJ l=l.map Zt
 |[]=>by simp[VJ]
 |c::l=>by simp[VJ,Px l]
theorem UA (l:List ZX)(i:Nat):(VJ l)[i]? = (l[i]?).map Zt:=by rw[Px];simp
theorem Yt (l:List ZX):(VJ l).length=l.length:=by rw[Px];simp
def ZX.kind:ZX->X6|.mk k _ _ _ _ _ _ _=>k
def ZX.a:ZX->Int|.mk _ a _ _ _ _ _ _=>a
def ZX.b:ZX->Int|.mk _ _ b _ _ _ _ _=>b
def ZX.mi:ZX->Int|.mk _ _ _ m _ _ _ _=>m
def ZX.ma:ZX->Int|.mk _ _ _ _ m _ _ _=>m
def ZX.pat:ZX->X6|.mk _ _ _ _ _ p _ _=>p
def ZX.nl:ZX->Bool|.mk _ _ _ _ _ _ n _=>n
def ZX.kids:ZX->List ZX|.mk _ _ _ _ _ _ _ l=>l
def ZX.cells (c:ZX):List AV:=[.str c.kind,.int .i64 c.a,.int .i64 c.b,.int .i64 c.mi,.int .i64 c.ma,.str c.pat,ZG c.nl (VJ c.kids)]
theorem ZN (c:ZX):Zt c=.agg c.cells:=by cases c;simp[Zt,ZX.cells,ZX.kind,ZX.a,ZX.b,ZX.mi,ZX.ma,ZX.pat,ZX.nl,ZX.kids]
structure Step where
 cond:ZX
 times:Int
 within:Int
def Step.cells (s:Step):List AV:=s.cond.cells++[.int .i64 s.times,.int .i64 s.within]
def YM (s:Step):AV:=.agg [.str s.cond.kind,.int .i64 s.cond.a,.int .i64 s.cond.b,.int .i64 s.cond.mi,.int .i64 s.cond.ma,.str s.cond.pat,ZG s.cond.nl (VJ s.cond.kids),.int .i64 s.times,.int .i64 s.within]
structure Prog where
 lines:Int
 nl:Bool
 steps:List Step
def UU (p:Prog):AV:=.agg [.int .i64 p.lines,ZG p.nl (p.steps.map YM)]
def ints (l:List Int):List AV:=l.map (.int .i64 ·)
def ZB (l:List Bool):List AV:=l.map .bool
structure YY where
 lines:Int
 TN:Bool
 next:List (Bool×List Int)
 Tc:Bool
 ZC:List (Bool×List Bool)
def Zi (r:Bool×List Int):AV:=ZG r.1 (ints r.2)
def Zq (r:Bool×List Bool):AV:=ZG r.1 (ZB r.2)
def VQ (a:YY):AV:=.agg [.int .i64 a.lines,ZG a.TN (a.next.map Zi),ZG a.Tc (a.ZC.map Zq)]
theorem QD (l:List AV):ZG false l=.fz l:=by cases l <;> rfl
theorem Er (nl:Bool)(x:AV)(l:List AV):ZG nl (x::l)=.fz (x::l):=by cases nl <;> rfl
theorem YZ (nl:Bool)(l:List AV):still (ZG nl l)=true:=by
 cases nl <;> cases l <;> simp[ZG,still]
theorem ZW (nl:Bool)(l:List AV):Zx (ZG nl l)=true:=by
 cases nl <;> cases l <;> simp[ZG,Zx]
theorem ZR (nl:Bool)(l:List AV):(ZG nl l).cells=[ZG nl l]:=by
 cases nl <;> cases l <;> simp[ZG,AV.cells]
theorem ZJ (nl:Bool)(l:List AV):SZ (ZG nl l)=some (.int .i64 l.length):=by
 cases nl <;> cases l <;> simp[ZG,SZ]
theorem VW (X:Cx)(s:St)(d:Nat)(nl:Bool)(l:List AV):Yc X s (d+1) (ZG nl l)=some (ZG nl l):=by
 cases nl <;> cases l <;> simp[ZG,Yc]
theorem VR (n:Nat)(nl:Bool)(l:List AV)(k:IntKind)(i:Int)(x:AV)(h0:0<=i)(hx:l[i.toNat]? = some x)(hc:x.cells.length=n)(hn:n≠0):UC n (ZG nl l) (.int k i)=some (.fp x.cells 0):=by
 have hl:l≠[]:=by intro h;rw[h] at hx;simp at hx
 have:ZG nl l=.fz l:=by cases l with
  |nil=>exact absurd rfl hl
  |cons y l=>exact Er ..
 rw[this,lX];simp[h0,hx,ixF,hc,hn]
theorem wrap_i64 {n:Int}(h0 : -2^63<=n)(h1:n<2^63):IntKind.i64.wrap n=n:=by
 rw[IntKind.wrap_i64];omega
end Go.Am
namespace Go.Am
open Go Go.Proofs
variable [ZZ]
set_option maxRecDepth 100000
instance adD:Stat:=⟨fun m c=>∃n,n<=m/\JC U n c=true/\Rg c=true,fun t=>Nat.beq t 150⟩
theorem adE (t:TypeId):U.Zj t=Tryz.prog.underlying t:=by unfold U;rfl
theorem adF (t:TypeId):U.inf t=Tryz.prog.info? t:=by unfold U;rfl
theorem AP (f:FuncId):U.ext f=nM f:=by unfold U;rfl
theorem nL (f:FuncId):U.pure f=!keeps.contains f:=by unfold U;rfl
theorem M_ (g:Nat):U.Na g=dL g:=by unfold U;rfl
theorem IW:U.glob=8:=by unfold U;rfl
theorem adG (f:FuncId):U.fn f=bif Nat.beq f 36 then none else Tryz.prog.funcs[f]? := by unfold U;rfl
noncomputable def Zb (f:FuncId):Option (List ResultVar×RC):=match U.fn f with
 |some fn=>match fn.body with
  |some c=>some (fn.results.toList,rc U c)
  |none=>none
 |none=>none
theorem Ox {f:FuncId}{rs:List ResultVar}{r:RC}(h:Zb f=some (rs,r)):∃fn c,U.fn f=some fn/\fn.body=some c/\fn.results.toList=rs/\rc U c=r:=by
 unfold Zb at h
 split at h
 ·rename_i fn hf
  split at h
  ·rename_i c hb
   cases h
   exact⟨fn,c,hf,hb,rfl,rfl⟩
  ·cases h
 ·cases h
def Pq (f:FuncId):Bool:=!keeps.contains f&&(nM f).isNone
def xJ (f:FuncId):Bool:=keeps.contains f&&(nM f).isNone
theorem Rj {f:FuncId}(h:Pq f=true):U.pure f=true/\U.ext f=none:=by
 rw[Pq,adm,akd] at h;rw[nL,AP];exact h
theorem rW {f:FuncId}(h:xJ f=true):U.pure f=false/\U.ext f=none:=by
 rw[xJ,adm,akd] at h;rw[nL,AP,h.1];exact⟨rfl,h.2⟩
theorem ZI {f:FuncId}{rs:List ResultVar}{r:RC}(h:Zb f=some (rs,r))(hp:Pq f=true){args:List AV}(WY:ZO args=true){v:AV}
  (hg:go U (Oe U rs) [] r (Zc 0 args .nil) (Yl U)=some v):Zw U f args=some v:=by
 obtain⟨fn,c,h1,h2,h3,h4⟩:=Ox h;obtain⟨p1,p2⟩:=Rj hp;exact rV U p2 p1 h1 h2 h3 h4 WY hg
theorem V_ {f:FuncId}{rs:List ResultVar}{r:RC}(h:Zb f=some (rs,r))(hp:xJ f=true){args:List AV}{s:St}{x:AV×St}
  (hg:go U (Rs U rs) [] r (Zc 0 args .nil) s=some x):SH U f args s=some x:=by
 obtain⟨fn,c,h1,h2,h3,h4⟩:=Ox h;obtain⟨p1,p2⟩:=rW hp;unfold SH UG;rw[p2,p1];exact Ma U h1 h2 h3 h4 hg
theorem yP {f:FuncId}(hp:Pq f=true){args:List AV}(s:St)(WY:ZO args=false):XR U (Zw U f args) f args s=Tq U f (YT (Yc U s 40) args) s :=
 nZ U s (Rj hp).2 (Rj hp).1 WY
theorem oq (s:St):∀(d:Nat) (v v':AV),Yc U s d v=some v'->flat v'=true->v=v':=by
 intro d
 induction d with
 |zero=>intro v v' h;simp[Yc] at h
 |succ d ih =>
  intro v v' h hf;have hl:∀(l l':List AV),YT (Yc U s d) l=some l'->Mf l'=true->l=l':=by
   intro l
   induction l with
   |nil=>intro l' h _;simp only[YT] at h;cases h;rfl
   |cons x l Gf =>
    intro l' h hf;simp only[YT] at h
    split at h
    ·rename_i y r h1 h2
     cases h
     simp only[Mf,adm] at hf;rw[ih _ _ h1 hf.1,Gf _ h2 hf.2]
    ·cases h
  cases v with
  |ptr b o =>
   rw[uS] at h;unfold gM at h
   split at h
   ·simp only[fpK,aj6] at h;obtain⟨_,_,rfl⟩:=h;simp[flat] at hf
   ·cases h
  |sl b o len cap Wa =>
   rw[QF] at h;unfold gN A8 fzK at h
   split at h
   ·split at h
    ·split at h
     ·simp only[aj6] at h;obtain⟨_,_,rfl⟩:=h;simp[flat] at hf
     ·cases h
    ·cases h
   ·cases h
  |map r =>
   simp only[Yc] at h
   split at h
   ·split at h
    ·cases h;simp[flat] at hf
    ·cases h
   ·cases h
  |fn f x y =>
   simp only[Yc] at h
   split at h
   ·split at h
    ·rename_i x' y' h1 h2
     cases h
     simp only[flat,adm] at hf;rw[hl _ _ h1 hf.1.2,hl _ _ h2 hf.2]
    ·cases h
   ·cases h
  |iface t x =>
   simp only[Yc] at h
   split at h
   ·rename_i x' h1
    cases h
    simp only[flat] at hf;rw[ih _ _ h1 hf]
   ·cases h
  |agg cs =>
   simp only[Yc] at h
   split at h
   ·rename_i x' h1
    cases h
    simp only[flat] at hf;rw[hl _ _ h1 hf]
   ·cases h
  |XF cs =>
   simp only[Yc] at h
   split at h
   ·rename_i x' h1
    cases h
    simp only[flat] at hf;rw[hl _ _ h1 hf]
   ·cases h
  |_=>simp only[Yc] at h;cases h;rfl
theorem I9 {f:FuncId}(hp:Pq f=true){args:List AV}(WY:ZO args=true){v:AV}(h:UN U (Yo U) f args true=some v):Zw U f args=some v:=by
 refine uG fun s=>?_
 obtain⟨p1,p2⟩:=Rj hp;unfold SH UG;rw[p2];simp only[p1,if_true,PA,VF,WY,h]
theorem adH:U.Zj 3=some (.int .i64):=by kernel_rfl
theorem adI:U.Zj 5=some (.int .u8):=by kernel_rfl
theorem aau:U.Zj 21=some (.int .i32):=by kernel_rfl
theorem DP:YB U 3=some false:=by kernel_rfl
theorem DO:size U 3=some 1:=by kernel_rfl
theorem tg:YB U 4=some false:=by kernel_rfl
theorem tf:size U 4=some 1:=by kernel_rfl
theorem adJ:size U 5=some 1:=by kernel_rfl
theorem dP:YB U 25=some true:=by kernel_rfl
theorem dO:size U 25=some 2:=by kernel_rfl
theorem adK:YB U 26=some false:=by kernel_rfl
theorem adL:size U 26=some 1:=by kernel_rfl
theorem vP:YB U 48=some false:=by kernel_rfl
theorem vO:size U 48=some 1:=by kernel_rfl
theorem vM:YB U 72=some false:=by kernel_rfl
theorem vL:size U 72=some 1:=by kernel_rfl
theorem IZ:YB U 78=some true:=by kernel_rfl
theorem IY:size U 78=some 7:=by kernel_rfl
theorem dN:YB U 42=some true:=by kernel_rfl
theorem dM:size U 42=some 3:=by kernel_rfl
theorem oB:YB U 113=some true:=by kernel_rfl
theorem oA:size U 113=some 9:=by kernel_rfl
theorem pK:YB U 128=some true:=by kernel_rfl
theorem pJ:size U 128=some 3:=by kernel_rfl
attribute [go_sem] Int.reduceBEq Int.reduceBNe Int.reduceAdd IW adH adI aau DP DO tg tf adJ dP dO adK adL vP vO vM vL IZ IY dN dM oB oA pK pJ
abbrev o (d:Nat)(r:N8):RO:=⟨some d,none,none,false,r⟩
abbrev oS (r:N8):RO:=⟨none,none,none,false,r⟩
abbrev om (d t:Nat):RO:=⟨some d,none,none,false,.Qb (.t t)⟩
abbrev oF (d g:Nat)(r:N8):RO:=⟨some d,some (g,false),none,false,r⟩
abbrev oT (d g:Nat)(r:N8):RO:=⟨some d,some (g,true),none,false,r⟩
abbrev vI (n:Int):W_:=.v (.int .i64 n)
abbrev vF:W_:=.v (.bool false)
abbrev vT:W_:=.v (.bool true)
abbrev oP (l:List RO):RC:=.ops l
abbrev sQ (a b:RC):RC:=.seq a b
abbrev sO (l:List RO)(b:RC):RC:=.seq (.ops l) b
abbrev cO (n:Nat)(a b:RC):RC:=.cond (.t n) a b
abbrev cS (n:Nat)(b:RC):RC:=.cond (.t n) .skip b
abbrev cT (n:Nat)(a:RC):RC:=.cond (.t n) a .skip
abbrev ZS (x0 x1):=o x0 (.TB (.t x1))
abbrev ZP (x0 x1 x2):=o x0 (.fa x1 (.t x2))
abbrev Zz (x0 x1):=o x0 (.Qb (vI x1))
abbrev Zh (x0 x1 x2):=o x0 (.P7 x1 (.t x2))
abbrev Y0 (x0 x1 x2 x3):=o x0 (.Ff x1 (.t x2) (.t x3))
abbrev YS (x0 x1):=o x0 (.TK (.t x1))
abbrev Yz (x0 x1 x2 x3):=o x0 (.bin .add x1 true (.t x2) (vI x3))
abbrev Yy (x0 x1 x2):=o x0 (.box x1 (.t x2))
abbrev Yw (x0 x1 x2):=oS (.st x0 (.t x1) (.t x2))
abbrev XW (x0):=o x0 (.Qb vF)
abbrev YQ (x0 x1 x2 x3):=o x0 (.bin .lss x1 false (.t x2) (.t x3))
abbrev YO (x0 x1 x2):=o x0 (.call x1 [(.t x2)])
abbrev YI (x0 x1 x2 x3):=o x0 (.call x1 [(.t x2),(.t x3)])
abbrev Yq (x0 x1 x2 x3):=oT x0 x1 (.fa x2 (.t x3))
abbrev Yp (x0 x1 x2):=oT x0 x1 (.TB (.t x2))
abbrev Yj (x0 x1 x2):=o x0 (.pick (.t x1) vT (.t x2))
abbrev Yi (x0 x1):=o x0 (.raw (.nilCheck (.tmp x1)))
abbrev Yd (x0 x1 x2):=o x0 (.ext (.t x1) x2)
abbrev X8 (x0 x1 x2):=oF x0 x1 (.Qb (.t x2))
abbrev X4 (x0 x1 x2):=o x0 (.pick (.t x1) (.t x2) vF)
abbrev Xk (x0 x1 x2):=oF x0 x1 (.TB (.t x2))
abbrev WS (x0):=o x0 (.Qb (.v .ZM))
abbrev Wj (x0 x1 x2 x3):=o x0 (.call x1 [(.t x2),(vI x3)])
abbrev VP (x0 x1 x2):=oT x0 x1 (.Qb (.t x2))
abbrev VO (x0 x1):=o x0 (.un .not (.t x1))
abbrev VE (x0 x1 x2 x3 x4 x5):=o x0 (.app x1 x2 x3 (.t x4) (.t x5))
abbrev Vv (x0 x1 x2 x3):=oF x0 x1 (.fa x2 (.t x3))
abbrev Vh (x0 x1 x2 x3):=o x0 (.bin .neq x1 true (.t x2) (vI x3))
abbrev U4 (x0 x1 x2 x3):=o x0 (.bin .eql x1 true (.t x2) (vI x3))
abbrev Ut (x0 x1 x2 x3):=o x0 (.bin .gtr x1 true (.t x2) (vI x3))
abbrev Uj (x0 x1 x2):=oF x0 x1 (.un .not (.t x2))
abbrev Tt (x0):=o x0 (.Qb vT)
abbrev Rl (x0 x1 x2 x3 x4):=oT x0 x1 (.bin .neq x2 true (.t x3) (vI x4))
abbrev Rk (x0 x1 x2 x3):=oF x0 x1 (.pick (.t x2) (.t x3) vF)
abbrev Qk (x0 x1 x2 x3 x4 x5):=o x0 (.al [(.str []),(iI x1),(iI x2),(iI x3),(iI x4),(.str []),.ZM] x5)
abbrev Qn (x0 x1 x2 x3 x4 x5 x6 x7):=o x0 (.SE x1 x2 x3 [(iI x4)] [(x5,x6,(.t x7))])
abbrev Pu (x0 x1 x2 x3 x4 x5):=o x0 (.bin .eql x1 true (.t x2) (.v (.str [x3,x4,x5])))
abbrev Ps (x0 x1):=o x0 (.call x1 [])
abbrev Pr (x0 x1 x2 x3):=oT x0 x1 (.P7 x2 (.t x3))
abbrev Pf (x0 x1):=o x0 (.Qb (.t x1))
abbrev NY (x0 x1 x2 x3):=o x0 (.bin .neq x1 false (.t x2) (.t x3))
abbrev Mi (x0 x1):=o x0 (.xS (.t x1))
abbrev Mh (x0 x1 x2 x3 x4):=o x0 (.call x1 [(.t x2),(.t x3),(.t x4)])
abbrev Mg (x0 x1 x2 x3 x4):=oT x0 x1 (.call x2 [(.t x3),(.t x4)])
abbrev MA (x0 x1 x2):=oF x0 x1 (.TK (.t x2))
abbrev MC (x0 x1 x2 x3):=o x0 (.bin .sub x1 true (.t x2) (vI x3))
abbrev MB (x0 x1 x2 x3):=o x0 (.bin .shl x1 true (vI x2) (.t x3))
abbrev L_ (x0 x1 x2):=o x0 (.al [(iI x1),.ZM,.ZM] x2)
abbrev KB (x0 x1 x2 x3 x4):=o x0 (.call x1 [(.t x2),(vI x3),(vI x4)])
abbrev Kx (x0 x1 x2 x3 x4):=o x0 (.ixp x1 x2 (.t x3) (vI x4))
abbrev Kt (x0 x1 x2 x3):=oF x0 x1 (.P7 x2 (.t x3))
abbrev Ig (x0 x1 x2 x3 x4 x5 x6):=o x0 (.bin .eql x1 true (.t x2) (.v (.str [x3,x4,x5,x6])))
abbrev Ie (x0 x1 x2 x3 x4 x5):=oF x0 x1 (.ixp x2 x3 (.t x4) (vI x5))
abbrev HM (x0):=o x0 (.Qb (.v (.str [])))
abbrev E1 (x0 x1 x2 x3 x4 x5 x6 x7):=o x0 (.al [(.str []),(iI x1),(iI x2),(iI x3),(iI x4),(.str []),.ZM,(iI x5),(iI x6)] x7)
abbrev EZ (x0 x1 x2 x3):=o x0 (.bin .add x1 false (.t x2) (.t x3))
abbrev EK (x0 x1 x2):=o x0 (.Ks (.t x1) [(.t x2)])
abbrev EJ (x0 x1 x2 x3):=o x0 (.raw (.lookup x1 (.tmp x2) (.tmp x3) false))
abbrev EI (x0 x1 x2 x3):=o x0 (.bin .mul x1 false (.t x2) (.t x3))
abbrev EH (x0 x1 x2):=oT x0 x1 (.un .not (.t x2))
abbrev Bi (x0 x1 x2 x3 x4 x5 x6 x7):=o x0 (.bin .eql x1 true (.t x2) (.v (.str [x3,x4,x5,x6,x7])))
abbrev Bh (x0 x1 x2 x3 x4):=oF x0 x1 (.bin .gtr x2 true (.t x3) (vI x4))
abbrev AO (x0 x1 x2 x3 x4):=oF x0 x1 (.call x2 [(.t x3),(vI x4)])
abbrev AN (x0 x1 x2 x3 x4):=o x0 (.al [(iI x1),(iI x2),(iI x3)] x4)
abbrev uY (x0 x1 x2 x3 x4 x5):=oT x0 x1 (.call x2 [(.t x3),(vI x4),(vI x5)])
abbrev uX (x0 x1 x2 x3 x4):=oF x0 x1 (.bin .geq x2 false (.t x3) (.t x4))
abbrev uW (x0 x1 x2 x3 x4):=oT x0 x1 (.bin .leq x2 false (.t x3) (.t x4))
abbrev uF (x0 x1):=o x0 (.al [.ZM,.ZM,.ZM] x1)
abbrev vn (x0 x1 x2 x3 x4):=oF x0 x1 (.bin .neq x2 false (.t x3) (.t x4))
abbrev uE (x0 x1 x2 x3):=oS (.raw (.mapUpdate x0 (.tmp x1) (.tmp x2) (.tmp x3)))
abbrev uD (x0 x1 x2 x3):=o x0 (.bin .eql x1 false (.t x2) (.t x3))
abbrev uC (x0 x1 x2 x3):=o x0 (.bin .shr x1 false (.t x2) (.t x3))
abbrev nK (x0 x1 x2 x3 x4):=o x0 (.raw (.call { callee:=.builtin .min,args:=#[(.tmp x1),(.const (.int .i64 x2))],argTypes:=#[x3,x4] }))
abbrev nJ (x0 x1 x2 x3 x4):=o x0 (.raw (.call { callee:=.builtin .min,args:=#[(.tmp x1),(.tmp x2)],argTypes:=#[x3,x4] }))
end Go.Am
namespace Go.Am
open Go
structure Pb where
 lo:Nat
 hi:Nat
 e:Env
 op:N8
 v:AV
def ej (v:AV)(x:Option (AV×St)):Bool:=match x with
 |some (u,_)=>same u v
 |none=>false
section
variable (X:Cx)
noncomputable def eg (base:Nat)(e:Env)(op:N8)(v:AV):List St->Bool
 |[]=>true
 |s::l=>ej v (WU X base none e s op)&&eg base e op v l
noncomputable def Qh (base:Nat)(H:List St):List Pb->Bool
 |[]=>true
 |p::P=>eg X base p.e p.op p.v ((H.take (p.hi+1)).drop p.lo)&&Qh base H P
abbrev nO:=RO×Option (Nat×Nat)
def TQ (base:Nat)(s:St)(l:List nO):Bool:=WA base s (l.map Prod.fst)
def ef (c:Option (Nat×Nat))(e:Env)(op:N8)(v:AV)(P:List Pb):List Pb:=match c with
 |some (lo,hi)=>⟨lo,hi,e,op,v⟩::P
 |none=>P
noncomputable def OW (base:Nat):List nO->Env->St->List St->List Pb->Option (Env×St)
 |[],e,s,H,P=>bif Qh X base H P then some (e,s) else none
 |(o,c)::l,e,s,H,P=>match (bif SL e o.g then WU X base o.at_ e s o.op else some (undef,s)) with
  |some (v,s')=>bif !o.w||TQ base s' l then OW base l (YA e o.d v) s' (bif o.w then H++[s'] else H) (ef c e o.op v P) else none
  |none=>none
def Ee (ops:Array Oper)(i:Nat):Bool :=
 (U8 X 0 ops.toList).all (fun k=>!decide (k<i)||XG ops k i)&&(Zk X ops 0 ops.toList).all (fun k=>XG ops k i||XG ops i k)
def opC (ops:Array Oper)(i:Nat):Option (Nat×Nat):=match ops[i]? with
 |some o=>if ((cls X o.op).dh||(match cls X o.op with|.q=>true|_=>false))&&!Ee X ops i then
   some (Ys (fun j=>XG ops j i) (Zk X ops 0 ops.toList),Ys (fun j=>!XG ops i j) (Zk X ops 0 ops.toList)) else none
 |none=>none
def ec (ops:Array Oper):List (Option (Nat×Nat)):=(List.range ops.size).map (opC X ops)
def kg (ops:Array Oper):Bool :=
 !Oy X ops&&(List.range ops.size).all fun i=>match ops[i]? with
  |some o=>!((cls X o.op).dh||(match cls X o.op with|.q=>true|_=>false))||Ee X ops i ||
   ((cls X o.op).dh&&(o.guard.isNone&&(U8 X 0 ops.toList).all fun k=>!XG ops k i))
  |none=>true
def Rd:Code->Option (Nat×List nO)
 |.region _ ops d=>if d&&kg X ops&&dc X ops then match Ve X ops true 0 ops.toList with
   |some l=>some (ops.size,l.zip (ec X ops))
   |none=>none
   else none
 |_=>none
end
section
variable [Stat]
variable {X:Cx}{ops:Array Oper}{base:Nat}
theorem Qx {b:Bool}:∀(l:List Oper) (i:Nat) (r:List RO),Ve X ops b i l=some r->r.length=l.length
 |[],i,r,h=>by simp only[Ve] at h;cases h;rfl
 |o::l,i,r,h=>by
  simp only[Ve] at h
  split at h
  ·rename_i g r' h1 h2
   cases h
   simp[Qx l (i+1) r' h2]
  ·cases h
theorem tN {r:Env×St}:∀(l:List nO) (e:Env) (s:St) (H:List St) (P:List Pb),OW X base l e s H P=some r->Ra X base (l.map Prod.fst) e s=some r
 |[],e,s,H,P,h=>by
  simp only[OW] at h
  cases hb:Qh X base H P with
  |true=>rw[hb] at h;exact h
  |false=>rw[hb] at h;cases h
 |(o,c)::l,e,s,H,P,h=>by
  simp only[OW] at h;simp only[aju,Ra]
  split at h
  ·rename_i v s' hv;rw[hv];simp only
   cases hb:(!o.w||TQ base s' l) with
   |false=>rw[hb] at h;cases h
   |true =>
    rw[hb] at h;rw[if_pos (by exact hb)];exact tN l _ _ _ _ h
  ·cases h
theorem abT {i:Nat}{o:Oper}{g:Option (Nat×Bool)}{e:Env}{s s1:St}{v:AV}(h1:rcG ops o.guard=some g)
  (hr:(bif SL e g then WU X base (if true&&(cls X o.op).Dc then some i else none) e s (zV X o.op) else some (undef,s))=some (v,s1)) :
  Ts X (Yo X) ops base i o e s=some (YA e o.dst v,s1):=by
 have LN:=G9 h1 e
 cases hw:SL e g with
 |false =>
  rw[hw] at hr LN;simp only[cond_false] at hr
  cases hr
  simp only[Ts,<-LN,ajn,if_false]
 |true =>
  rw[hw] at hr LN;simp only[cond_true,ajF] at hr;simp only[Ts,<-LN,if_true];by_cases ha:(cls X o.op).Dc=true
  ·rw[if_pos ha] at hr;obtain⟨s2,e1,e2⟩:=kL (Xu.1 ha) hr;rw[Xu.1 ha];simp only[e1,e2]
  ·rw[if_neg ha] at hr;have:=OY hr
   cases hk:cls X o.op <;> rw[hk] at ha <;> first|exact absurd rfl ha|simp only[this]
theorem tM {i m:Nat}{tr:List (Env×St)}{s:St}:∀(l:List Nat),(∀k∈l,XG ops k i=false)->Up ops base i m tr l s=s
 |[],_=>rfl
 |j::l,h=>by
  unfold Up;rw[if_neg (by simp[h j (aba ..)])];exact tM l fun k hk=>h k (aab _ hk)
theorem Ed {H:List St}:∀(P:List Pb),Qh X base H P=true->∀p∈P,eg X base p.e p.op p.v ((H.take (p.hi+1)).drop p.lo)=true
 |[],_,p,hp=>by simp at hp
 |q::P,h,p,hp=>by
  simp only[Qh,adm] at h;rcases ajo.1 hp with rfl|hp
  ·exact h.1
  ·exact Ed P h.2 p hp
theorem tL {e:Env}{op:N8}{v:AV}:∀(l:List St),eg X base e op v l=true->∀s∈l,ej v (WU X base none e s op)=true
 |[],_,s,hs=>by simp at hs
 |x::l,h,s,hs=>by
  simp only[eg,adm] at h;rcases ajo.1 hs with rfl|hs
  ·exact h.1
  ·exact tL l h.2 s hs
theorem kd (eb:Oy X ops=false):∀(l:List Oper) (i:Nat) (l':List nO) (e:Env) (s:St) (H:List St) (P:List Pb) (r:Env×St) (tr:List (Env×St)),
  Ve X ops true i l=some (l'.map Prod.fst)->OW X base l' e s H P=some r->zd X (Yo X) ops base i l e s=some tr ->
  ∃P',Qh X base (H++(Zk X ops i l).map (fun j=>Xe tr (j+1-i))) P'=true/\(∀p∈P,p∈P') /\
   ∀(k:Nat) o q lo hi,l[k]? = some o->l'[k]? = some (q,some (lo,hi))->o.guard=none->cls X o.op=.r ->
    ∃v,YK X (Yo X) (To tr k) o.op (Xe tr k)=some (v,Xe tr (k+1))/\(⟨lo,hi,To tr k,zV X o.op,v⟩:Pb)∈P'
 |[],i,l',e,s,H,P,r,tr,h1,h2,h3=>by
  have D3:l'=[]:=by
   simp only[Ve] at h1
   cases l' with
   |nil=>rfl
   |cons x y=>simp at h1
  subst D3;simp only[OW] at h2;refine⟨P,?_,fun p hp=>hp,fun k o q lo hi hk=>by simp at hk⟩;simp only[Zk,List.map_nil,ajG]
  cases hb:Qh X base H P with
  |true=>rfl
  |false=>rw[hb] at h2;cases h2
 |o::l,i,l',e,s,H,P,r,tr,h1,h2,h3=>by
  simp only[Ve] at h1
  split at h1
  ·rename_i g r' e1 e2
   cases l' with
   |nil=>simp at h1
   |cons x l2 =>
    obtain⟨ro,c⟩:=x;simp only[aju,Option.some.injEq,List.cons.injEq] at h1;obtain⟨rfl,rfl⟩:=h1;simp only[OW] at h2
    split at h2
    ·rename_i v s1 hv;have WY:=abT e1 hv;simp only[zd,WY] at h3
     split at h3
     ·rename_i cj g1
      cases h3
      cases hb:(!(true&&(cls X o.op).si)||TQ base s1 l2) with
      |false=>rw[hb] at h2;cases h2
      |true =>
       rw[hb] at h2;simp only[cond_true] at h2;obtain⟨P',q1,q2,q3⟩:=kd eb l (i+1) l2 _ s1 _ _ r cj e2 h2 g1;obtain⟨k1,k2,_⟩:=RG _ _ _ _ _ g1;have gu:∀n,Xe ((e,s)::cj) (n+1)=Xe cj n:=fun n=>by simp[Xe]
       have hte:∀n,To ((e,s)::cj) (n+1)=To cj n:=fun n=>by simp[To]
       have Sq:Xe cj 0=s1:=by simp[Xe,k2]
       have afw:(Zk X ops (i+1) l).map (fun j=>Xe ((e,s)::cj) (j+1-i))=(Zk X ops (i+1) l).map (fun j=>Xe cj (j+1-(i+1))):=by
        refine ajV fun j hj=>?_
        obtain⟨k,_,_,hjk,_⟩:=(RF l (i+1) j).1 hj;rw[show j+1-i=(j+1-(i+1))+1 by omega,gu]
       refine⟨P',?_,fun p hp=>q2 p (by unfold ef;split <;> simp[hp]),fun k o' q lo hi JJ A5 hg hc=>?_⟩
       ·have YH:late X ops i=false:=by simp[late,eb]
        simp only[Zk,YH,ajY,Bool.and_true]
        cases hw:(cls X o.op).si with
        |true =>
         rw[hw] at q1;simp only[if_true,aju];rw[afw,show i+1-i=0+1 by omega,gu,Sq]
         simpa using q1
        |false =>
         rw[hw] at q1;simp only[ajn,if_false];rw[afw]
         simpa using q1
       ·cases k with
        |zero =>
         simp at JJ A5;obtain⟨_,rfl⟩:=A5;subst JJ;have hgn:g=none:=by rw[hg] at e1;simp[rcG] at e1;exact e1.symm
         subst hgn;simp only[SL,cond_true,hc,Cn.Dc,Bool.and_false,ajn,if_false] at hv;have:=OY hv;refine⟨v,?_,?_⟩
         ·rw[gu,Sq];exact this
         ·exact q2 _ (by simp[ef,To])
        |succ k =>
         obtain⟨v',w1,w2⟩:=q3 k o' q lo hi (by simpa using JJ) (by simpa using A5) hg hc;refine⟨v',?_,?_⟩
         ·rw[hte,gu,gu];exact w1
         ·rw[hte];exact w2
     ·cases h3
    ·cases h2
  ·cases h1
theorem ka {l:List RO}{e:Env}{s:St}{r:Env×St}(zU:Ve X ops true 0 ops.toList=some l)(j_:kg X ops=true)(abU:dc X ops=true)(hn:WA s.next s l=true)
  (hrC:OW X s.next (l.zip (ec X ops)) e { s with next:=s.next+ops.size } [{ s with next:=s.next+ops.size }] []=some r):PY X (Yo X) ops e s=some r:=by
 have Ya:=yK abU;have hlen:l.length=ops.size:=by rw[Qx _ _ _ zU];simp
 have zp:(l.zip (ec X ops)).map Prod.fst=l:=by rw[List.map_fst_zip];rw[hlen];simp[ec]
 have hr:Ra X s.next l e { s with next:=s.next+ops.size }=some r:=by
  have:=tN _ _ _ _ _ hrC;rw[zp] at this;exact this
 unfold kg at j_;simp only[adm,aj3,ajq,ajE] at j_;obtain⟨eb,Xv⟩:=j_;obtain⟨tr,g1,g2,g3⟩:=G2 _ _ _ _ _ zU hr;obtain⟨P',hP1,_,hP2⟩:=kd eb ops.toList 0 (l.zip (ec X ops)) e _ _ [] r tr (by rw[zp];exact zU) hrC g1;obtain⟨k1,k2,k3⟩:=RG _ _ _ _ _ g1;have k1:tr.length=ops.size+1:=by simpa using k1
 have ht:Gi X (Yo X) ops s.next (To tr) (Xe tr):=⟨fun i o ho=>by
  have:=k3 i o (by simpa using ho)
  simpa using this⟩
 have Lm:Xe tr 0={ s with next:=s.next+ops.size }:=by simp[Xe,k2]
 have IS:∀i,late X ops i=false:=fun i=>by simp[late,eb]
 have NN:∀j,j∈Zk X ops 0 ops.toList<->∃o,ops[j]? = some o/\cls X o.op=.w:=by
  intro j;rw[RF]
  constructor
  ·rintro⟨k,o,h1,rfl,h3⟩;simp only[adm] at h3;exact⟨o,by simpa using h1,Sy.1 h3.1⟩
  ·rintro⟨o,h1,h3⟩;exact⟨j,o,by simpa using h1,by omega,by simp[Sy.2 h3,IS]⟩
 have abV:∀j,kA X ops j->j∈U8 X 0 ops.toList:=by
  have:∀(l:List Oper) (i k:Nat) o,l[k]? = some o->cls X o.op=.a->i+k∈U8 X i l:=by
   intro l
   induction l with
   |nil=>intro i k o h;simp at h
   |cons x l ih =>
    intro i k o h hc;unfold U8
    cases k with
    |zero=>simp at h;subst h;rw[if_pos (Xu.2 hc)];exact aba ..
    |succ k =>
     have:=ih (i+1) k o (by simpa using h) hc;rw[show i+(k+1)=i+1+k by omega]
     split
     ·exact aab _ this
     ·exact this
  rintro j ⟨o,ho,hc⟩;have:=this ops.toList 0 j o (by simpa using ho) hc
  simpa using this
 have abW:=Nm (tr:=tr) (Zk X ops 0 ops.toList) fun j hj=>by
  obtain⟨o,ho,_⟩:=(NN j).1 hj;have:=(ajd.1 ho).1;omega
 unfold PY;rw[g1];simp only[abW];have GO:∀m,m=0\/(∃j,m=j+1/\j∈Zk X ops 0 ops.toList)->∀i,m<=i->kA X ops i->(Xe tr m).get (s.next+i)=none:=by
  rintro m (rfl|⟨j,rfl,hj⟩) i hi ⟨o,ho,hc⟩
  ·rw[Lm];have:=OX _ _ _ zU hn i o (by simpa using ho) (Xu.2 hc);rw[ajr] at this;exact this
  ·obtain⟨oj,hoj,hcj⟩:=(NN j).1 hj;have:=g3 j oj (by simpa using hoj) (Sy.2 hcj) i (by omega) o (by simpa using ho) (Xu.2 hc)
   simpa using this
 have hss:∀m s1,(m,s1)∈(0,({ s with next:=s.next+ops.size }:St))::((Zk X ops 0 ops.toList).map fun j=>(j+1,Xe tr (j+1)))->(m=0\/∃j,m=j+1/\j∈Zk X ops 0 ops.toList)/\s1=Xe tr m:=by
  intro m s1 hm;rcases ajo.1 hm with e|hm
  ·cases e;exact⟨.inl rfl,Lm.symm⟩
  ·obtain⟨j,hj,e⟩:=ajs.1 hm
   cases e
   exact⟨.inr ⟨j,rfl,hj⟩,rfl⟩
 have hnA:Ti X ops s.next ((0,({ s with next:=s.next+ops.size }:St))::((Zk X ops 0 ops.toList).map fun j=>(j+1,Xe tr (j+1))))=true:=Nl _ fun m s1 hm i hi hk=>by
  obtain⟨h1,rfl⟩:=hss m s1 hm;exact GO m h1 i hi hk
 have Ln:Uf X (Yo X) ops s.next (Zk X ops 0 ops.toList) (U8 X 0 ops.toList) ((0,({ s with next:=s.next+ops.size }:St))::((Zk X ops 0 ops.toList).map fun j=>(j+1,Xe tr (j+1)))) tr 0 ops.toList tr=true:=by
  refine KT _ _ _ fun i o es ho htr hw=>?_
  have VL:ops[i]? = some o:=by simpa using ho
  have hi:i<ops.size:=(ajd.1 VL).1;have hes:es=(To tr i,Xe tr i):=by simp[To,Xe,htr]
  subst hes;simp only at hw;rw[ajr];have zk:cls X o.op≠.a->∃v,YK X (Yo X) (To tr i) o.op (Xe tr i)=some (v,Xe tr (i+1)):=fun Zv=>by
   rcases Vz (ht.step i o VL) with⟨h1,_⟩|⟨_,v,_,⟨hc,_⟩|⟨_,h3⟩⟩
   ·rw[hw] at h1;cases h1
   ·exact absurd (Xu.1 hc) Zv
   ·exact⟨v,h3⟩
  have wS:(cls X o.op=.r\/cls X o.op=.q)->Ee X ops i=true->∃m,UW ops (Zk X ops 0 ops.toList) ((0,({ s with next:=s.next+ops.size }:St))::((Zk X ops 0 ops.toList).map fun j=>(j+1,Xe tr (j+1)))) i=[(m,Xe tr m)] /\
    Up ops s.next i m tr (U8 X 0 ops.toList) (Xe tr m)=Xe tr i:=by
   intro hk j9;unfold Ee at j9;rw[adm] at j9;obtain⟨ha,sY⟩:=j9;rw[ajq] at ha sY;have hab:∀k,k<i->kA X ops k->XG ops k i=true:=fun k GQ za=>by
    have:=ha k (abV k za)
    simpa[GQ] using this
   have qt:∀k∈Zk X ops 0 ops.toList,(XG ops k i=true<->k<i)/\(XG ops i k=true<->i<k):=by
    intro k wu;have:=sY k wu;simp only[akj] at this;rcases this with h1|h1
    ·have:=Ya.S7 i k h1;refine⟨⟨fun _=>this,fun _=>h1⟩,⟨fun h2=>?_,fun h2=>by omega⟩⟩;have:=Ya.S7 k i h2;omega
    ·have:=Ya.S7 k i h1;refine⟨⟨fun h2=>?_,fun h2=>by omega⟩,⟨fun _=>this,fun _=>h1⟩⟩;have:=Ya.S7 i k h2;omega
   have Zv:∀k∈Zk X ops 0 ops.toList,k≠i:=fun k wu e=>by
    obtain⟨o2,KI,zl⟩:=(NN k).1 wu;rw[e,VL] at KI;cases KI;rcases hk with hk|hk <;> rw[hk] at zl <;> cases zl
   have abX:Ys (fun j=>!XG ops i j) (Zk X ops 0 ops.toList)=Ys (fun j=>XG ops j i) (Zk X ops 0 ops.toList):=by
    refine Nat.le_antisymm (VA _ fun x hx h=>?_) (VA _ fun x hx h=>?_)
    ·have h1:XG ops i x=false:=by simpa using h
     refine ((qt x hx).1).2 (Nat.lt_of_not_le fun hle=>?_);have:=((qt x hx).2).2 (by have:=Zv x hx;omega);rw[h1] at this;cases this
    ·have h1:=((qt x hx).1).1 h;simp only[aj3]
     cases hb:XG ops i x with
     |false=>rfl
     |true=>have:=((qt x hx).2).1 hb;omega
   unfold UW;rw[abX];generalize hq:Ys (fun j=>XG ops j i) (Zk X ops 0 ops.toList)=q;have IQ:=List.pairwise_iff_getElem.1 (T0 (X:=X) (ops:=ops) ops.toList 0);have hql:q<=(Zk X ops 0 ops.toList).length:=by
    rw[<-hq];generalize Zk X ops 0 ops.toList=L
    induction L with
    |nil=>exact ajg _
    |cons x L ih=>simp only[Ys,ajk];split <;> omega
   have Nk:∀n (hn:n<(Zk X ops 0 ops.toList).length),(n<q<->(Zk X ops 0 ops.toList)[n]<i):=by
    obtain⟨p,uO,r9,dJ⟩:∃p,p<=(Zk X ops 0 ops.toList).length/\(∀n (hn:n<(Zk X ops 0 ops.toList).length),n<p->(Zk X ops 0 ops.toList)[n]<i)/\(∀n (hn:n<(Zk X ops 0 ops.toList).length),p<=n->¬(Zk X ops 0 ops.toList)[n]<i):=by
     rcases Jx (fun n=>∃hn:n<(Zk X ops 0 ops.toList).length,(Zk X ops 0 ops.toList)[n]<i) (Zk X ops 0 ops.toList).length with h|⟨n0,h1,⟨h2,h3⟩,h4⟩
     ·exact⟨0,aji _,fun n _ hn=>by omega,fun n hn _ YH=>h n hn ⟨hn,YH⟩⟩
     ·refine⟨n0+1,h1,fun n hn YH=>?_,fun n hn hle YH=>h4 n (by omega) hn ⟨hn,YH⟩⟩;by_cases e:n=n0
      ·subst e;exact h3
      ·have:=IQ n n0 hn h2 (by omega);omega
    have p_:p=q:=by
     rw[<-hq];refine (Vp _ p uO (fun x hx=>?_) (fun x hx=>?_)).symm
     ·obtain⟨n,hn,rfl⟩:=ajw.1 hx;rw[List.getElem_take];have tU:n<p/\n<(Zk X ops 0 ops.toList).length:=by rw[aj2] at hn;omega
      exact ((qt _ (ajc tU.2)).1).2 (r9 n tU.2 tU.1)
     ·obtain⟨n,hn,rfl⟩:=ajw.1 hx;rw[List.getElem_drop];rw[List.length_drop] at hn;have:=dJ (p+n) (by omega) (by omega)
      cases hb:XG ops (Zk X ops 0 ops.toList)[p+n] i with
      |false=>rfl
      |true=>exact absurd (((qt _ (ajc (by omega))).1).1 hb) this
    subst p_;exact fun n hn=>⟨r9 n hn,fun YH=>Nat.lt_of_not_le fun hle=>dJ n hn hle YH⟩
   have fin:∀m,(m=0\/∃j,m=j+1/\j∈Zk X ops 0 ops.toList)->m<=i->(∀k∈Zk X ops 0 ops.toList,k<i->k<m) ->
     Up ops s.next i m tr (U8 X 0 ops.toList) (Xe tr m)=Xe tr i:=fun m hm zi hwm =>
    Ec ht k1 Ya hi zi (fun k ok h1 h2 abY hc=>by
     have:=hwm k ((NN k).2 ⟨ok,abY,hc⟩) h2;omega) hab (fun k h1 h2=>GO m hm k h1 h2)
   cases q with
   |zero =>
    refine⟨0,by simp[Lm],fin 0 (.inl rfl) (aji _) fun k wu GQ=>?_⟩;obtain⟨n,hn,rfl⟩:=ajw.1 wu;have:=(Nk n hn).2 GQ;omega
   |succ q =>
    have hqn:q<(Zk X ops 0 ops.toList).length:=by omega
    have hqi:=(Nk q hqn).1 (by omega);refine⟨(Zk X ops 0 ops.toList)[q]+1,?_,fin _ (.inr ⟨_,rfl,ajc _⟩) (by omega) fun k wu GQ=>?_⟩
    ·rw[List.drop_take];rw[show q+1+1-(q+1)=1 by omega,List.drop_succ_cons,abc (by simpa using hqn)];simp
    ·obtain⟨n,hn,rfl⟩:=ajw.1 wu;have hnq:=(Nk n hn).2 GQ;by_cases e:n=q
     ·subst e;omega
     ·have:=IQ n q hn hqn (by omega);omega
  have GN:=Xv i hi;rw[VL] at GN;simp only at GN;refine⟨fun hk=>?_,fun hk=>?_⟩
  ·cases Gy:Ee X ops i with
   |true =>
    obtain⟨v,hv⟩:=zk (by rw[hk];simp);obtain⟨m,ze,eH⟩:=wS (.inl hk) Gy;refine⟨v,_,hv,?_⟩;rw[ze];simp only[Xa,eH,hv,Q7,Bool.and_self]
   |false =>
    rw[hk,Gy] at GN;simp only[Cn.dh,Bool.true_or,ajT,ajU,ajF,adm,akd,ajq,aj3] at GN;obtain⟨hgn,Tb⟩:=GN;have Fm:(l.zip (ec X ops))[i]? = some ((l[i]'(by omega)),some (Ys (fun j=>XG ops j i) (Zk X ops 0 ops.toList),Ys (fun j=>!XG ops i j) (Zk X ops 0 ops.toList))):=by
     rw[List.getElem?_zip_eq_some];refine⟨by simp[aaa (show i<l.length by omega)],?_⟩;simp only[ec,ajv,List.getElem?_range hi,aki,opC,VL,hk,Gy,Cn.dh];rfl
    obtain⟨v,hv,Sh⟩:=hP2 i o _ _ _ (by simpa using VL) Fm hgn hk;refine⟨v,_,hv,?_⟩;have Tz:=Ed _ hP1 _ Sh;simp only at Tz;have abZ:∀x∈UW ops (Zk X ops 0 ops.toList) ((0,({ s with next:=s.next+ops.size }:St))::((Zk X ops 0 ops.toList).map fun j=>(j+1,Xe tr (j+1)))) i,ej v (WU X s.next none (To tr i) x.2 (zV X o.op))=true:=by
     intro x hx;refine tL _ Tz x.2 ?_;have:(([{ s with next:=s.next+ops.size }]:List St)++(Zk X ops 0 ops.toList).map (fun j=>Xe tr (j+1-0)))=((0,({ s with next:=s.next+ops.size }:St))::((Zk X ops 0 ops.toList).map fun j=>(j+1,Xe tr (j+1)))).map Prod.snd:=by
      simp[Function.comp_def]
     rw[this,<-List.map_take,<-List.map_drop];exact List.mem_map_of_mem hx
    generalize UW ops (Zk X ops 0 ops.toList) ((0,({ s with next:=s.next+ops.size }:St))::((Zk X ops 0 ops.toList).map fun j=>(j+1,Xe tr (j+1)))) i=L at abZ
    induction L with
    |nil=>rfl
    |cons x L ih =>
     obtain⟨m,s1⟩:=x;have h0:=abZ (m,s1) (aba ..);simp only[Xa];rw[tM _ Tb];unfold ej at h0
     split at h0
     ·rename_i u s2 hu;simp only at hu;simp only[OY hu,h0,ajF];exact ih fun x hx=>abZ x (aab _ hx)
     ·cases h0
  ·cases Gy:Ee X ops i with
   |true =>
    obtain⟨v,hv⟩:=zk (by rw[hk];simp);obtain⟨m,ze,eH⟩:=wS (.inr hk) Gy;obtain⟨_,c,vs,us,e1,e2,e3,_⟩:=FD hk hv;refine⟨c,vs,us,e1,e2,e3,?_⟩;rw[ze];simp only[TR,eH,e3,WW,Bool.and_self]
   |false =>
    rw[hk,Gy] at GN;simp[Cn.dh] at GN
 rw[OV eb];simp only[Pn,Ln,hnA,Bool.and_self,if_true];exact g2
end
section
variable (X:Cx){β:Type}(back:β)(fin:Fl->β)(ks:List K)
noncomputable def nN (base:Nat)(l:List nO)(e:Env)(s:St)(H:List St)(P:List Pb):β:=match OW X base l e s H P with
 |some (e,s)=>goN X fin ks e s
 |none=>back
noncomputable def wq (base:Nat)(x:Option (AV×St))(d:Option Nat)(w:Bool)(c:Option (Nat×Nat))(op:N8)(l:List nO)(e:Env)(H:List St)(P:List Pb):β:=match x with
 |some (v,s)=>bif !w||TQ base s l then nN X back fin ks base l (YA e d v) s (bif w then H++[s] else H) (ef c e op v P) else back
 |none=>back
noncomputable def uI (c:Code)(e:Env)(s:St):β:=pop X fin ks (Yo X c e s)
variable (base:Nat)(e:Env)(s:St)(H:List St)(P:List Pb)(l:List nO)
theorem ea:nN X back fin ks base [] e s H P=bif Qh X base H P then goN X fin ks e s else back:=by
 simp only[nN,OW]
 cases Qh X base H P <;> rfl
theorem j8 (d:Option Nat)(a:Option Nat)(w:Bool)(op:N8)(c:Option (Nat×Nat)) :
  nN X back fin ks base ((⟨d,none,a,w,op⟩,c)::l) e s H P=wq X back fin ks base (WU X base a e s op) d w c op l e H P:=by
 simp only[nN,OW,wq,SL,cond_true]
 cases WU X base a e s op with
 |none=>rfl
 |some x =>
  simp only
  cases (!w||TQ base x.2 l) <;> rfl
theorem wo (v:AV)(d:Option Nat)(op:N8):wq X back fin ks base (some (v,s)) d false none op l e H P=nN X back fin ks base l (YA e d v) s H P:=(fun h=>h) rfl
theorem zG (v:AV)(d:Option Nat)(lo hi:Nat)(op:N8):wq X back fin ks base (some (v,s)) d false (some (lo,hi)) op l e H P=nN X back fin ks base l (YA e d v) s H (⟨lo,hi,e,op,v⟩::P):=(fun h=>h) rfl
theorem wm (v:AV)(d:Option Nat)(op:N8):wq X back fin ks base (some (v,s)) d true none op l e H P=bif TQ base s l then nN X back fin ks base l (YA e d v) s (H++[s]) P else back:=(fun h=>h) rfl
theorem qq:TQ base s []=true:=(fun h=>h) rfl
theorem zF (d:Option Nat)(g:Option (Nat×Bool))(w:Bool)(op:N8)(c:Option (Nat×Nat)):TQ base s ((⟨d,g,none,w,op⟩,c)::l)=TQ base s l:=by
 simp[TQ,WA]
theorem zE (i:Nat)(d:Option Nat)(g:Option (Nat×Bool))(w:Bool)(op:N8)(c:Option (Nat×Nat)):TQ base s ((⟨d,g,some i,w,op⟩,c)::l)=((s.get (base+i)).isNone&&TQ base s l):=by
 simp[TQ,WA]
theorem qp:Qh X base H []=true:=(fun h=>h) rfl
theorem wk (lo hi:Nat)(op:N8)(v:AV):Qh X base H (⟨lo,hi,e,op,v⟩::P)=(eg X base e op v ((H.take (hi+1)).drop lo)&&Qh X base H P):=(fun h=>h) rfl
theorem d_ (op:N8)(v:AV):eg X base e op v []=true:=(fun h=>h) rfl
theorem j7 (op:N8)(v:AV)(L:List St):eg X base e op v (s::L)=(ej v (WU X base none e s op)&&eg X base e op v L):=(fun h=>h) rfl
def pbO (v:AV)(x:Option AV):Bool:=match x with
 |some u=>same u v
 |none=>false
theorem GM (v:AV)(x:Option AV):ej v (Zm x s)=pbO v x:=by cases x <;> rfl
theorem j6 (u v:AV):pbO v (some u)=same u v:=(fun h=>h) rfl
theorem ab0 (v:AV)(x:W_):ej v (WU X base none e s (.TB x))=pbO v (TB (XP e x) s):=GM s v _
theorem ab1 (v:AV)(n:Nat)(x:W_):ej v (WU X base none e s (.P7 n x))=pbO v (P7 n (XP e x) s):=GM s v _
theorem dZ (v:AV)(x:W_):ej v (WU X base none e s (.TK x))=pbO v (SZ (XP e x)):=GM s v _
theorem j5 {α:Type}(x:α)(l m:List α):(x::l)++m=x::(l++m):=(fun h=>h) rfl
theorem dY {α:Type}(m:List α):([]:List α)++m=m:=(fun h=>h) rfl
theorem aap [Stat] {c:Code}{n:Nat}{l:List nO}(h:Rd X c=some (n,l))(fin:Fl->β)(ks:List K)(e:Env)(s:St):go X fin ks (.raw c) e s =
  bif TQ s.next s l then nN X (uI X fin ks c e s) fin ks s.next l e { s with next:=s.next+n } [{ s with next:=s.next+n }] [] else uI X fin ks c e s:=by
 unfold Rd at h
 split at h
 ·rename_i id ops d
  split at h
  ·rename_i hc;simp only[adm] at hc
   split at h
   ·rename_i l0 hl
    cases h
    have hz:TQ s.next s (l0.zip (ec X ops))=WA s.next s l0:=by
     unfold TQ;rw[List.map_fst_zip];rw[Qx _ _ _ hl];simp[ec]
    rw[hz]
    cases hn:WA s.next s l0 with
    |false=>rfl
    |true =>
     simp only[cond_true,nN]
     split
     ·rename_i e1 s1 h1;have:=ka hl hc.1.2 hc.2 hn h1;simp only[go,den,goN];rw[VN];simp only[Xj,hc.1.1,if_true,this]
     ·rfl
   ·cases h
  ·cases h
 ·cases h
end
@[congr] theorem ab2 {X:Cx} {β:Type} {back:β} {fin:Fl->β} {ks:List K} {base:Nat} {x x':Option (AV×St)} {d:Option Nat} {w:Bool} {c:Option (Nat×Nat)} {op:N8} {l:List nO} {e:Env} {H:List St} {P:List Pb} (h:x=x'):wq X back fin ks base x d w c op l e H P=wq X back fin ks base x' d w c op l e H P:=by rw[h]
attribute [go_sem ↓] ea j8 wo zG wm qq zF zE qp wk d_ j7 ab0 ab1 dZ j5 dY List.take_succ_cons List.take_zero List.drop_succ_cons ajS
attribute [go_sem] j6 Q7
end Go.Am
namespace Go.Am
open Go
variable [ZZ]
set_option maxRecDepth 100000
set_option maxHeartbeats 8000000
def wB:RC->List Code
 |.seq a b=>wB a++wB b
 |.cond _ a b=>wB a++wB b
 |.block _ b=>wB b
 |.loop b=>wB b
 |.raw c=>[c]
 |_=>[]
noncomputable def NT (f k:Nat):Code:=match U.fn f with
 |some fn=>match fn.body with
  |some c=>((wB (rc U c))[k]?).getD .skip
  |none=>.skip
 |none=>.skip
def r91:RC:=(sO [Yy 2 3 0,Zz 4 0] (sQ (sO [om 5 1,YS 6 5,Ut 7 3 6 4096] (cT 7 (sO [Zz 4 5] .ret))) (sO [om 8 1,o 9 (.aE 135 [] [(.t 2)]),YI 10 134 8 9,Wj 11 85 10 3,om 4 11] .ret)))
theorem k91:Zb 66=some ([.tmp 4],r91):=by kernel_rfl
def C':RC:=(sQ (sO [om 11 5,om 12 0,YS 13 12,YQ 14 3 11 13] (cS 14 (.exit 0))) (sQ (.block 1 (sQ (.Sf 9 [om 17 0,om 18 5,Y0 19 1 17 18,ZS 20 19,om 21 1,om 22 5,Y0 23 1 21 22,ZS 24 23,NY 25 3 20 24]) (cT 25 (sO [XW 4] .ret)))) (oP [om 15 5,Yz 16 3 15 1,om 5 16])))
def aas:RC:=(sO [XW 4] (sQ (sO [om 6 0,YS 7 6,om 8 1,YS 9 8,NY 10 3 7 9] (cT 10 (sO [XW 4] .ret))) (sQ (sO [Zz 5 0] (.block 0 (.loop C'))) (sO [Tt 4] .ret))))
def aar:RC:=(sO [XW 4] (sO [om 5 0,om 6 1,YI 7 173 5 6,o 8 (.bin .geq 3 true (.t 7) (vI 0)),om 4 8] .ret))
theorem adv:Zb 134=some ([.tmp 4],aar):=by kernel_rfl
def adt:RC:=(sO [XW 3] (sO [om 4 0,o 5 (.bin .lss 3 true (.t 4) (vI 0)),om 6 5,X8 7 6 0,Xk 8 6 1,oF 9 6 (.bin .shl 3 true (vI 1) (.t 8)),uX 10 6 3 7 9,Yj 11 6 10,om 3 11] .ret))
theorem agD:Zb 135=some ([.tmp 3],adt):=by kernel_rfl
def Ow:RC:=(sO [YQ 9 3 8 7] (sQ (cS 9 (.exit 0)) (sQ (.block 1 (sO [om 10 8,om 5 10] (sO [om 11 1,om 12 0,om 13 5,Y0 14 1 12 13,ZS 15 14,EK 16 11 15] (cT 16 (sO [om 17 5,om 4 17] .ret))))) (oP [Yz 18 3 8 1,om 8 18]))))
def aaq:RC:=(sO [Zz 4 0] (sQ (sO [om 6 0,YS 7 6,Zz 8 0] (.block 0 (.loop Ow))) (sO [o 4 (.Qb (vI (-1)))] .ret)))
theorem adu:Zb 173=some ([.tmp 4],aaq):=by kernel_rfl
end Go.Am
