/- A part of the proof of a statement of this seat: the machine on which the program is read, and what it computes; for every input. -/
import Derived.Test.YtikiipfbkfgmbaaGreatDoorM02
import Derived.Test.YtikiipfbkfgmbaaGreatDoorM03
import Derived.Laws.BitsLemmas
set_option linter.all false
namespace Go.Am
open Go
abbrev XV:=List UInt8
inductive Z5 where
 |mk (kind:XV) (a b mi ma:Int) (pat:XV) (nl:Bool) (kids:List Z5)
def ZG (nl:Bool)(l:List AV):AV:=match nl,l with
 |true,[]=>.ZW
 |_,l=>.fz l
mutual
def Zw:Z5->AV
 |.mk k a b mi ma p nl kids=>.agg [.str k,.int .i64 a,.int .i64 b,.int .i64 mi,.int .i64 ma,.str p,ZG nl (WW kids)]
def WW:List Z5->List AV
 |[]=>[]
 |c::l=>Zw c::WW l
end
theorem Oc:∀l,WW l=l.map Zw
 |[]=>by simp[WW]
 |c::l=>by simp[WW,Oc l]
theorem Vb (l:List Z5)(i:Nat):(WW l)[i]? = (l[i]?).map Zw:=by rw[Oc];simp
theorem Yd (l:List Z5):(WW l).length=l.length:=by rw[Oc];simp
def Z5.kind:Z5->XV|.mk k _ _ _ _ _ _ _=>k
def Z5.a:Z5->Int|.mk _ a _ _ _ _ _ _=>a
def Z5.b:Z5->Int|.mk _ _ b _ _ _ _ _=>b
def Z5.mi:Z5->Int|.mk _ _ _ m _ _ _ _=>m
def Z5.ma:Z5->Int|.mk _ _ _ _ m _ _ _=>m
def Z5.pat:Z5->XV|.mk _ _ _ _ _ p _ _=>p
def Z5.nl:Z5->Bool|.mk _ _ _ _ _ _ n _=>n
def Z5.kids:Z5->List Z5|.mk _ _ _ _ _ _ _ l=>l
def Z5.cells (c:Z5):List AV:=[.str c.kind,.int .i64 c.a,.int .i64 c.b,.int .i64 c.mi,.int .i64 c.ma,.str c.pat,ZG c.nl (WW c.kids)]
theorem ZV (c:Z5):Zw c=.agg c.cells:=by cases c;simp[Zw,Z5.cells,Z5.kind,Z5.a,Z5.b,Z5.mi,Z5.ma,Z5.pat,Z5.nl,Z5.kids]
structure Step where
 cond:Z5
 times:Int
 within:Int
def Step.cells (s:Step):List AV:=s.cond.cells++[.int .i64 s.times,.int .i64 s.within]
def YL (s:Step):AV:=.agg [.str s.cond.kind,.int .i64 s.cond.a,.int .i64 s.cond.b,.int .i64 s.cond.mi,.int .i64 s.cond.ma,.str s.cond.pat,ZG s.cond.nl (WW s.cond.kids),.int .i64 s.times,.int .i64 s.within]
structure Prog where
 lines:Int
 nl:Bool
 steps:List Step
def Vw (p:Prog):AV:=.agg [.int .i64 p.lines,ZG p.nl (p.steps.map YL)]
def ints (l:List Int):List AV:=l.map (.int .i64 ·)
def ZM (l:List Bool):List AV:=l.map .bool
structure Yi where
 lines:Int
 TH:Bool
 next:List (Bool×List Int)
 S6:Bool
 ZD:List (Bool×List Bool)
def Zn (r:Bool×List Int):AV:=ZG r.1 (ints r.2)
def Zv (r:Bool×List Bool):AV:=ZG r.1 (ZM r.2)
def Wd (a:Yi):AV:=.agg [.int .i64 a.lines,ZG a.TH (a.next.map Zn),ZG a.S6 (a.ZD.map Zv)]
theorem WH (l:List AV):ZG false l=.fz l:=by cases l <;> rfl
theorem JA (nl:Bool)(x:AV)(l:List AV):ZG nl (x::l)=.fz (x::l):=by cases nl <;> rfl
theorem X7 (nl:Bool)(l:List AV):still (ZG nl l)=true:=by
 cases nl <;> cases l <;> simp[ZG,still]
theorem ZL (nl:Bool)(l:List AV):Zz (ZG nl l)=true:=by
 cases nl <;> cases l <;> simp[ZG,Zz]
theorem Zu (nl:Bool)(l:List AV):(ZG nl l).cells=[ZG nl l]:=by
 cases nl <;> cases l <;> simp[ZG,AV.cells]
theorem ZI (nl:Bool)(l:List AV):Ti (ZG nl l)=some (.int .i64 l.length):=by
 cases nl <;> cases l <;> simp[ZG,Ti]
theorem UL (X:Cx)(s:St)(d:Nat)(nl:Bool)(l:List AV):Yn X s (d+1) (ZG nl l)=some (ZG nl l):=by
 cases nl <;> cases l <;> simp[ZG,Yn]
theorem Vr (n:Nat)(nl:Bool)(l:List AV)(k:IntKind)(i:Int)(x:AV)(h0:0<=i)(hx:l[i.toNat]? = some x)(hc:x.cells.length=n)(hn:n≠0):Ud n (ZG nl l) (.int k i)=some (.fp x.cells 0):=by
 have hl:l≠[]:=by intro h;rw[h] at hx;simp at hx
 have:ZG nl l=.fz l:=by cases l with
  |nil=>exact absurd rfl hl
  |cons y l=>exact JA ..
 rw[this,jz];simp[h0,hx,ixF,hc,hn]
theorem wrap_i64 {n:Int}(h0 : -2^63<=n)(h1:n<2^63):IntKind.i64.wrap n=n:=by
 rw[IntKind.wrap_i64];omega
end Go.Am
namespace Go.Am
open Go Go.Proofs
variable [Z4]
set_option maxRecDepth 100000
instance aeW:Stat:=⟨fun m c=>∃n,n<=m/\HK U n c=true/\Qh c=true,fun t=>Nat.beq t 207⟩
theorem aeX (t:TypeId):U.Zd t=Tryz.prog.underlying t:=by unfold U;rfl
theorem aeY (t:TypeId):U.inf t=Tryz.prog.info? t:=by unfold U;rfl
theorem zq (f:FuncId):U.ext f=lg f:=by unfold U;rfl
theorem ld (f:FuncId):U.pure f=!keeps.contains f:=by unfold U;rfl
theorem LJ (g:Nat):U.LK g=aJ g:=by unfold U;rfl
theorem He:U.glob=8:=by unfold U;rfl
theorem aeZ (f:FuncId):U.fn f=bif Nat.beq f 75 then none else Tryz.prog.funcs[f]? := by unfold U;rfl
noncomputable def Ze (f:FuncId):Option (List ResultVar×RC):=match U.fn f with
 |some fn=>match fn.body with
  |some c=>some (fn.results.toList,rc U c)
  |none=>none
 |none=>none
theorem Nt {f:FuncId}{rs:List ResultVar}{r:RC}(h:Ze f=some (rs,r)):∃fn c,U.fn f=some fn/\fn.body=some c/\fn.results.toList=rs/\rc U c=r:=by
 unfold Ze at h
 split at h
 ·rename_i fn hf
  split at h
  ·rename_i c hb
   cases h
   exact⟨fn,c,hf,hb,rfl,rfl⟩
  ·cases h
 ·cases h
def Me (f:FuncId):Bool:=!keeps.contains f&&(lg f).isNone
def vM (f:FuncId):Bool:=keeps.contains f&&(lg f).isNone
theorem Qk {f:FuncId}(h:Me f=true):U.pure f=true/\U.ext f=none:=by
 rw[Me,agw,amz] at h;rw[ld,zq];exact h
theorem qo {f:FuncId}(h:vM f=true):U.pure f=false/\U.ext f=none:=by
 rw[vM,agw,amz] at h;rw[ld,zq,h.1];exact⟨rfl,h.2⟩
theorem ZR {f:FuncId}{rs:List ResultVar}{r:RC}(h:Ze f=some (rs,r))(hp:Me f=true){args:List AV}(Xz:ZU args=true){v:AV}
  (hg:go U (Mt U rs) [] r (YX 0 args .nil) (X8 U)=some v):ZE U f args=some v:=by
 obtain⟨fn,c,h1,h2,h3,h4⟩:=Nt h;obtain⟨p1,p2⟩:=Qk hp;exact ql U p2 p1 h1 h2 h3 h4 Xz hg
theorem VE {f:FuncId}{rs:List ResultVar}{r:RC}(h:Ze f=some (rs,r))(hp:vM f=true){args:List AV}{s:St}{x:AV×St}
  (hg:go U (Sx U rs) [] r (YX 0 args .nil) s=some x):Rl U f args s=some x:=by
 obtain⟨fn,c,h1,h2,h3,h4⟩:=Nt h;obtain⟨p1,p2⟩:=qo hp;unfold Rl Uk;rw[p2,p1];exact KV U h1 h2 h3 h4 hg
theorem Ke {f:FuncId}(hp:Me f=true){args:List AV}(s:St)(Xz:ZU args=false):X6 U (ZE U f args) f args s=UR U f (Y' (Yn U s 40) args) s :=
 lK U s (Qk hp).2 (Qk hp).1 Xz
def Dw (p:Bool)(x:Option (AV×St))(s:St):Option (AV×St):=bif p then x else some (undef,s)
theorem vL (x:Option (AV×St))(s:St):Dw true x s=x:=(fun h=>h) rfl
theorem lr {f:FuncId}(hp:Me f=true){p:Bool}{args:List AV}(s:St)(Xz:ZU args=false):OU U p (ZE U f args) f args s=Dw p (UR U f (Y' (Yn U s 40) args) s) s:=by
 unfold OU Dw;rw[Ke hp s Xz]
theorem lU (s:St):∀(d:Nat) (v v':AV),Yn U s d v=some v'->flat v'=true->v=v':=by
 intro d
 induction d with
 |zero=>intro v v' h;simp[Yn] at h
 |succ d ih =>
  intro v v' h hf;have hl:∀(l l':List AV),Y' (Yn U s d) l=some l'->K4 l'=true->l=l':=by
   intro l
   induction l with
   |nil=>intro l' h _;simp only[Y'] at h;cases h;rfl
   |cons x l EJ =>
    intro l' h hf;simp only[Y'] at h
    split at h
    ·rename_i y r h1 h2
     cases h
     simp only[K4,agw] at hf;rw[ih _ _ h1 hf.1,EJ _ h2 hf.2]
    ·cases h
  cases v with
  |ptr b o =>
   rw[sX] at h;unfold ea at h
   split at h
   ·simp only[fpK,amB] at h;obtain⟨_,_,rfl⟩:=h;simp[flat] at hf
   ·cases h
  |sl b o len cap VH =>
   rw[VD] at h;unfold lG zC fzK at h
   split at h
   ·split at h
    ·split at h
     ·simp only[amB] at h;obtain⟨_,_,rfl⟩:=h;simp[flat] at hf
     ·cases h
    ·cases h
   ·cases h
  |map r =>
   simp only[Yn] at h
   split at h
   ·split at h
    ·cases h;simp[flat] at hf
    ·cases h
   ·cases h
  |fn f x y =>
   simp only[Yn] at h
   split at h
   ·split at h
    ·rename_i x' y' h1 h2
     cases h
     simp only[flat,agw] at hf;rw[hl _ _ h1 hf.1.2,hl _ _ h2 hf.2]
    ·cases h
   ·cases h
  |iface t x =>
   simp only[Yn] at h
   split at h
   ·rename_i x' h1
    cases h
    simp only[flat] at hf;rw[ih _ _ h1 hf]
   ·cases h
  |agg cs =>
   simp only[Yn] at h
   split at h
   ·rename_i x' h1
    cases h
    simp only[flat] at hf;rw[hl _ _ h1 hf]
   ·cases h
  |XU cs =>
   simp only[Yn] at h
   split at h
   ·rename_i x' h1
    cases h
    simp only[flat] at hf;rw[hl _ _ h1 hf]
   ·cases h
  |_=>simp only[Yn] at h;cases h;rfl
theorem VL {f:FuncId}(hp:Me f=true){args:List AV}(Xz:ZU args=true){v:AV}(h:Yg U (Yf U) f args true=some v):ZE U f args=some v:=by
 refine sL fun s=>?_
 obtain⟨p1,p2⟩:=Qk hp;unfold Rl Uk;rw[p2];simp only[p1,if_true,Ox,Vf,Xz,h]
theorem ae0:U.Zd 3=some (.int .i64):=by kernel_rfl
theorem abE:U.Zd 21=some (.int .i32):=by kernel_rfl
theorem Ka:YC U 3=some false:=by kernel_rfl
theorem J':size U 3=some 1:=by kernel_rfl
theorem AI:YC U 4=some false:=by kernel_rfl
theorem AH:size U 4=some 1:=by kernel_rfl
theorem ae1:size U 5=some 1:=by kernel_rfl
theorem aP:YC U 25=some true:=by kernel_rfl
theorem aO:size U 25=some 2:=by kernel_rfl
theorem ae2:YC U 26=some false:=by kernel_rfl
theorem ae3:size U 26=some 1:=by kernel_rfl
theorem Ed:YC U 40=some false:=by kernel_rfl
theorem Ec:size U 40=some 1:=by kernel_rfl
theorem Eb:YC U 43=some false:=by kernel_rfl
theorem Ea:size U 43=some 1:=by kernel_rfl
theorem Ej:YC U 48=some true:=by kernel_rfl
theorem Ei:size U 48=some 7:=by kernel_rfl
theorem aN:YC U 69=some true:=by kernel_rfl
theorem aM:size U 69=some 3:=by kernel_rfl
theorem aL:YC U 72=some true:=by kernel_rfl
theorem aK:size U 72=some 3:=by kernel_rfl
theorem me:YC U 144=some true:=by kernel_rfl
theorem mc:size U 144=some 9:=by kernel_rfl
theorem nN:YC U 152=some true:=by kernel_rfl
theorem nM:size U 152=some 3:=by kernel_rfl
theorem nH:YC U 176=some true:=by kernel_rfl
theorem nG:size U 176=some 5:=by kernel_rfl
attribute [go_sem ↓] vL
attribute [go_sem] Int.reduceBEq Int.reduceBNe Int.reduceAdd He ae0 abE Ka J' AI AH ae1 aP aO ae2 ae3 Ed Ec Eb Ea Ej Ei aN aM aL aK me mc nN nM nH nG
abbrev o (d:Nat)(r:MN):RO:=⟨some d,none,none,false,r⟩
abbrev oS (r:MN):RO:=⟨none,none,none,false,r⟩
abbrev om (d t:Nat):RO:=⟨some d,none,none,false,.O9 (.t t)⟩
abbrev oF (d g:Nat)(r:MN):RO:=⟨some d,some (g,false),none,false,r⟩
abbrev oT (d g:Nat)(r:MN):RO:=⟨some d,some (g,true),none,false,r⟩
abbrev vI (n:Int):WB:=.v (.int .i64 n)
abbrev vF:WB:=.v (.bool false)
abbrev vT:WB:=.v (.bool true)
abbrev oP (l:List RO):RC:=.ops l
abbrev sQ (a b:RC):RC:=.seq a b
abbrev sO (l:List RO)(b:RC):RC:=.seq (.ops l) b
abbrev cO (n:Nat)(a b:RC):RC:=.cond (.t n) a b
abbrev cS (n:Nat)(b:RC):RC:=.cond (.t n) .skip b
abbrev cT (n:Nat)(a:RC):RC:=.cond (.t n) a .skip
abbrev Z0 (x0 x1):=o x0 (.SL (.t x1))
abbrev ZX (x0 x1 x2):=o x0 (.fa x1 (.t x2))
abbrev ZA (x0 x1):=o x0 (.O9 (vI x1))
abbrev Zr (x0 x1 x2):=o x0 (.NQ x1 (.t x2))
abbrev Zk (x0 x1 x2 x3):=o x0 (.Jb x1 (.t x2) (.t x3))
abbrev YU (x0 x1 x2):=oS (.st x0 (.t x1) (.t x2))
abbrev YT (x0 x1 x2 x3):=o x0 (.bin .add x1 true (.t x2) (vI x3))
abbrev YO (x0 x1):=o x0 (.SW (.t x1))
abbrev YJ (x0 x1 x2):=oT x0 x1 (.SL (.t x2))
abbrev YE (x0 x1 x2):=oT x0 x1 (.O9 (.t x2))
abbrev Zp (x0 x1 x2):=o x0 (.box x1 (.t x2))
abbrev Zi (x0 x1 x2):=o x0 (.ext (.t x1) x2)
abbrev Zj (x0 x1 x2):=o x0 (.pick (.t x1) (.t x2) vF)
abbrev Zc (x0):=o x0 (.O9 vF)
abbrev Zb (x0 x1 x2 x3):=oT x0 x1 (.fa x2 (.t x3))
abbrev YV (x0 x1 x2 x3):=o x0 (.call x1 [(.t x2),(.t x3)])
abbrev YW (x0 x1 x2 x3):=o x0 (.bin .lss x1 false (.t x2) (.t x3))
abbrev YN (x0 x1 x2):=o x0 (.call x1 [(.t x2)])
abbrev Yp (x0 x1 x2):=oF x0 x1 (.O9 (.t x2))
abbrev Yo (x0 x1 x2):=o x0 (.pick (.t x1) vT (.t x2))
abbrev Yb (x0 x1):=o x0 (.raw (.nilCheck (.tmp x1)))
abbrev XH (x0 x1 x2):=oF x0 x1 (.SL (.t x2))
abbrev WY (x0 x1 x2 x3 x4):=oT x0 x1 (.call x2 [(.t x3),(.t x4)])
abbrev WZ (x0 x1 x2 x3 x4 x5):=o x0 (.app x1 x2 x3 (.t x4) (.t x5))
abbrev Wh (x0 x1):=o x0 (.un .not (.t x1))
abbrev VT (x0 x1 x2 x3):=o x0 (.bin .eql x1 true (.t x2) (vI x3))
abbrev VR (x0):=o x0 (.O9 (.v .ZW))
abbrev VM (x0 x1 x2 x3):=oF x0 x1 (.fa x2 (.t x3))
abbrev UA (x0 x1 x2 x3):=o x0 (.bin .gtr x1 true (.t x2) (vI x3))
abbrev Un (x0):=o x0 (.O9 vT)
abbrev Uj (x0 x1 x2 x3):=o x0 (.call x1 [(.t x2),(vI x3)])
abbrev TY (x0 x1 x2 x3 x4 x5):=o x0 (.bin .eql x1 true (.t x2) (.v (.str [x3,x4,x5])))
abbrev TK (x0 x1 x2 x3):=o x0 (.bin .add x1 false (.t x2) (.t x3))
abbrev TM (x0 x1 x2):=oF x0 x1 (.un .not (.t x2))
abbrev TL (x0 x1 x2 x3 x4):=oT x0 x1 (.bin .eql x2 true (.t x3) (vI x4))
abbrev Tg (x0 x1 x2):=o x0 (.al [(iI x1),.ZW,.ZW] x2)
abbrev Tf (x0 x1 x2 x3):=oT x0 x1 (.NQ x2 (.t x3))
abbrev Td (x0 x1 x2 x3):=oF x0 x1 (.pick (.t x2) (.t x3) vF)
abbrev RE (x0 x1 x2 x3 x4):=oT x0 x1 (.bin .neq x2 true (.t x3) (vI x4))
abbrev RQ (x0 x1 x2 x3 x4 x5 x6 x7):=o x0 (.U3 x1 x2 x3 [(iI x4)] [(x5,x6,(.t x7))])
abbrev Q6 (x0 x1 x2 x3 x4 x5 x6):=o x0 (.bin .eql x1 true (.t x2) (.v (.str [x3,x4,x5,x6])))
abbrev Qq (x0 x1 x2 x3):=o x0 (.bin .neq x1 true (.t x2) (vI x3))
abbrev Qc (x0 x1 x2 x3 x4):=oT x0 x1 (.Jb x2 (.t x3) (.t x4))
abbrev Pa (x0 x1 x2 x3 x4):=o x0 (.call x1 [(.t x2),(.t x3),(.t x4)])
abbrev O8 (x0 x1 x2 x3):=o x0 (.bin .sub x1 true (.t x2) (vI x3))
abbrev O7 (x0 x1 x2):=oT x0 x1 (.un .not (.t x2))
abbrev OD (x0 x1 x2 x3):=o x0 (.bin .neq x1 false (.t x2) (.t x3))
abbrev Om (x0 x1 x2 x3 x4 x5):=o x0 (.al [(.str []),(iI x1),(iI x2),(iI x3),(iI x4),(.str []),.ZW] x5)
abbrev Oe (x0 x1):=o x0 (.O9 (.t x1))
abbrev MQ (x0 x1 x2 x3 x4 x5 x6 x7):=o x0 (.bin .eql x1 true (.t x2) (.v (.str [x3,x4,x5,x6,x7])))
abbrev MP (x0 x1):=o x0 (.wk (.t x1))
abbrev MS (x0 x1 x2 x3):=o x0 (.bin .shl x1 true (vI x2) (.t x3))
abbrev ML (x0 x1 x2 x3):=o x0 (.bin .eql x1 false (.t x2) (.t x3))
abbrev KX (x0 x1 x2 x3 x4):=oF x0 x1 (.call x2 [(.t x3),(.t x4)])
abbrev KW (x0 x1 x2 x3):=oF x0 x1 (.NQ x2 (.t x3))
abbrev K5 (x0 x1):=o x0 (.call x1 [])
abbrev Lg (x0 x1 x2 x3):=o x0 (.raw (.makeSlice x1 (.tmp x2) (.tmp x3)))
abbrev IZ (x0 x1 x2 x3 x4):=o x0 (.aw x1 x2 (.t x3) (vI x4))
abbrev Ja (x0 x1 x2 x3 x4):=oT x0 x1 (.bin .eql x2 false (.t x3) (.t x4))
abbrev Gu (x0 x1 x2):=oT x0 x1 (.SW (.t x2))
abbrev Gv (x0 x1 x2 x3 x4 x5):=oF x0 x1 (.aw x2 x3 (.t x4) (vI x5))
abbrev Gg (x0 x1 x2):=oS (.st x0 (.t x1) (vI x2))
abbrev Gf (x0):=o x0 (.O9 (.v (.str [])))
abbrev DB (x0 x1 x2):=o x0 (.al [(iI x1),.ZW] x2)
abbrev DC (x0 x1 x2 x3 x4):=oT x0 x1 (.bin .gtr x2 true (.t x3) (vI x4))
abbrev DP (x0 x1 x2 x3):=o x0 (.bin .lss x1 true (.t x2) (vI x3))
abbrev zQ (x0 x1 x2 x3 x4):=o x0 (.call x1 [(.t x2),(vI x3),(vI x4)])
abbrev zP (x0 x1 x2 x3 x4 x5 x6 x7):=o x0 (.al [(.str []),(iI x1),(iI x2),(iI x3),(iI x4),(.str []),.ZW,(iI x5),(iI x6)] x7)
abbrev zO (x0 x1 x2 x3 x4):=oF x0 x1 (.bin .gtr x2 true (.t x3) (vI x4))
abbrev zp (x0 x1 x2 x3 x4):=oF x0 x1 (.call x2 [(.t x3),(vI x4)])
abbrev zo (x0 x1 x2):=o x0 (.IU (.t x1) [(.t x2)])
abbrev Ag (x0 x1 x2 x3 x4):=oF x0 x1 (.bin .neq x2 false (.t x3) (.t x4))
abbrev zm (x0 x1 x2 x3):=o x0 (.raw (.lookup x1 (.tmp x2) (.tmp x3) false))
abbrev zl (x0 x1 x2 x3 x4 x5 x6):=oF x0 x1 (.bin .eql x2 true (.t x3) (.v (.str [x4,x5,x6])))
abbrev zk (x0 x1 x2 x3 x4):=o x0 (.raw (.call { callee:=.builtin .min,args:=#[(.tmp x1),(.tmp x2)],argTypes:=#[x3,x4] }))
abbrev sY (x0 x1 x2 x3 x4 x5):=oT x0 x1 (.call x2 [(.t x3),(vI x4),(vI x5)])
abbrev sK (x0 x1 x2 x3 x4 x5):=o x0 (.call x1 [(.t x2),(.t x3),(.t x4),(.t x5)])
abbrev tw (x0 x1 x2 x3 x4):=o x0 (.On [(iI x1),.ZW,.ZW] [(x2,x3,(.t x4))])
abbrev tu (x0 x1):=o x0 (.On [(iI x1),.ZW,.ZW] [])
abbrev sJ (x0 x1 x2 x3):=o x0 (.bin .mul x1 false (.t x2) (.t x3))
abbrev sI (x0 x1 x2 x3 x4 x5):=oT x0 x1 (.call x2 [(.t x3),(.t x4),(.t x5)])
abbrev sH (x0 x1 x2 x3):=o x0 (.bin .shr x1 false (.t x2) (.t x3))
abbrev sG (x0 x1 x2 x3):=o x0 (.bin .and x1 true (.t x2) (vI x3))
abbrev k_ (x0 x1 x2 x3):=oS (.raw (.mapUpdate x0 (.tmp x1) (.tmp x2) (.tmp x3)))
abbrev kZ (x0 x1 x2 x3 x4):=o x0 (.raw (.call { callee:=.builtin .min,args:=#[(.tmp x1),(.const (.int .i64 x2))],argTypes:=#[x3,x4] }))
end Go.Am
namespace Go.Am
open Go
structure Pb where
 lo:Nat
 hi:Nat
 e:Env
 op:MN
 v:AV
def SE (v:AV)(x:Option (AV×St)):Bool:=match x with
 |some (u,_)=>same u v
 |none=>false
section
variable (X:Cx)
noncomputable def bA (base:Nat)(e:Env)(op:MN)(v:AV):List St->Bool
 |[]=>true
 |s::l=>SE v (WG X base none e s op)&&bA base e op v l
noncomputable def O2 (base:Nat)(H:List St):List Pb->Bool
 |[]=>true
 |p::P=>bA X base p.e p.op p.v ((H.take (p.hi+1)).drop p.lo)&&O2 base H P
abbrev lq:=RO×Option (Nat×Nat)
def S_ (base:Nat)(s:St)(l:List lq):Bool:=Wm base s (l.map Prod.fst)
def bu (c:Option (Nat×Nat))(e:Env)(op:MN)(v:AV)(P:List Pb):List Pb:=match c with
 |some (lo,hi)=>⟨lo,hi,e,op,v⟩::P
 |none=>P
noncomputable def NZ (base:Nat):List lq->Env->St->List St->List Pb->Option (Env×St)
 |[],e,s,H,P=>bif O2 X base H P then some (e,s) else none
 |(o,c)::l,e,s,H,P=>match (bif Rt e o.g then WG X base o.at_ e s o.op else some (undef,s)) with
  |some (v,s')=>bif !o.w||S_ base s' l then NZ base l (Yt e o.d v) s' (bif o.w then H++[s'] else H) (bu c e o.op v P) else none
  |none=>none
def CY (ops:Array Oper)(i:Nat):Bool :=
 (UI X 0 ops.toList).all (fun k=>!decide (k<i)||Xy ops k i)&&(Zh X ops 0 ops.toList).all (fun k=>Xy ops k i||Xy ops i k)
def opC (ops:Array Oper)(i:Nat):Option (Nat×Nat):=match ops[i]? with
 |some o=>if ((cls X o.op).Ye||(match cls X o.op with|.q=>true|_=>false))&&!CY X ops i then
   some (Yk (fun j=>Xy ops j i) (Zh X ops 0 ops.toList),Yk (fun j=>!Xy ops i j) (Zh X ops 0 ops.toList)) else none
 |none=>none
def bh (ops:Array Oper):List (Option (Nat×Nat)):=(List.range ops.size).map (opC X ops)
def gZ (ops:Array Oper):Bool :=
 !Nu X ops&&(List.range ops.size).all fun i=>match ops[i]? with
  |some o=>!((cls X o.op).Ye||(match cls X o.op with|.q=>true|_=>false))||CY X ops i ||
   ((cls X o.op).Ye&&(o.guard.isNone&&(UI X 0 ops.toList).all fun k=>!Xy ops k i))
  |none=>true
def O_:Code->Option (Nat×List lq)
 |.region _ ops d=>if d&&gZ X ops&&Xw X ops then match UT X ops true 0 ops.toList with
   |some l=>some (ops.size,l.zip (bh X ops))
   |none=>none
   else none
 |_=>none
end
section
variable [Stat]
variable {X:Cx}{ops:Array Oper}{base:Nat}
theorem Pn {b:Bool}:∀(l:List Oper) (i:Nat) (r:List RO),UT X ops b i l=some r->r.length=l.length
 |[],i,r,h=>by simp only[UT] at h;cases h;rfl
 |o::l,i,r,h=>by
  simp only[UT] at h
  split at h
  ·rename_i g r' h1 h2
   cases h
   simp[Pn l (i+1) r' h2]
  ·cases h
theorem rV {r:Env×St}:∀(l:List lq) (e:Env) (s:St) (H:List St) (P:List Pb),NZ X base l e s H P=some r->P_ X base (l.map Prod.fst) e s=some r
 |[],e,s,H,P,h=>by
  simp only[NZ] at h
  cases hb:O2 X base H P with
  |true=>rw[hb] at h;exact h
  |false=>rw[hb] at h;cases h
 |(o,c)::l,e,s,H,P,h=>by
  simp only[NZ] at h;simp only[alT,P_]
  split at h
  ·rename_i v s' hv;rw[hv];simp only
   cases hb:(!o.w||S_ base s' l) with
   |false=>rw[hb] at h;cases h
   |true =>
    rw[hb] at h;rw[if_pos (by exact hb)];exact rV l _ _ _ _ h
  ·cases h
theorem ac7 {i:Nat}{o:Oper}{g:Option (Nat×Bool)}{e:Env}{s s1:St}{v:AV}(h1:rcG ops o.guard=some g)
  (hr:(bif Rt e g then WG X base (if true&&(cls X o.op).BY then some i else none) e s (yl X o.op) else some (undef,s))=some (v,s1)) :
  SF X (Yf X) ops base i o e s=some (Yt e o.dst v,s1):=by
 have Kv:=Fz h1 e
 cases hw:Rt e g with
 |false =>
  rw[hw] at hr Kv;simp only[cond_false] at hr
  cases hr
  simp only[SF,<-Kv,ali,if_false]
 |true =>
  rw[hw] at hr Kv;simp only[cond_true,al9] at hr;simp only[SF,<-Kv,if_true];by_cases ha:(cls X o.op).BY=true
  ·rw[if_pos ha] at hr;obtain⟨s2,e1,e2⟩:=iy (Xp.1 ha) hr;rw[Xp.1 ha];simp only[e1,e2]
  ·rw[if_neg ha] at hr;have:=N1 hr
   cases hk:cls X o.op <;> rw[hk] at ha <;> first|exact absurd rfl ha|simp only[this]
theorem rU {i m:Nat}{tr:List (Env×St)}{s:St}:∀(l:List Nat),(∀k∈l,Xy ops k i=false)->TU ops base i m tr l s=s
 |[],_=>rfl
 |j::l,h=>by
  unfold TU;rw[if_neg (by simp[h j (aba ..)])];exact rU l fun k hk=>h k (aab _ hk)
theorem CX {H:List St}:∀(P:List Pb),O2 X base H P=true->∀p∈P,bA X base p.e p.op p.v ((H.take (p.hi+1)).drop p.lo)=true
 |[],_,p,hp=>by simp at hp
 |q::P,h,p,hp=>by
  simp only[O2,agw] at h;rcases alL.1 hp with rfl|hp
  ·exact h.1
  ·exact CX P h.2 p hp
theorem rT {e:Env}{op:MN}{v:AV}:∀(l:List St),bA X base e op v l=true->∀s∈l,SE v (WG X base none e s op)=true
 |[],_,s,hs=>by simp at hs
 |x::l,h,s,hs=>by
  simp only[bA,agw] at h;rcases alL.1 hs with rfl|hs
  ·exact h.1
  ·exact rT l h.2 s hs
theorem gY (a_:Nu X ops=false):∀(l:List Oper) (i:Nat) (l':List lq) (e:Env) (s:St) (H:List St) (P:List Pb) (r:Env×St) (tr:List (Env×St)),
  UT X ops true i l=some (l'.map Prod.fst)->NZ X base l' e s H P=some r->xD X (Yf X) ops base i l e s=some tr ->
  ∃P',O2 X base (H++(Zh X ops i l).map (fun j=>W_ tr (j+1-i))) P'=true/\(∀p∈P,p∈P') /\
   ∀(k:Nat) o q lo hi,l[k]? = some o->l'[k]? = some (q,some (lo,hi))->o.guard=none->cls X o.op=.r ->
    ∃v,YI X (Yf X) (SB tr k) o.op (W_ tr k)=some (v,W_ tr (k+1))/\(⟨lo,hi,SB tr k,yl X o.op,v⟩:Pb)∈P'
 |[],i,l',e,s,H,P,r,tr,h1,h2,h3=>by
  have CM:l'=[]:=by
   simp only[UT] at h1
   cases l' with
   |nil=>rfl
   |cons x y=>simp at h1
  subst CM;simp only[NZ] at h2;refine⟨P,?_,fun p hp=>hp,fun k o q lo hi hk=>by simp at hk⟩;simp only[Zh,List.map_nil,alZ]
  cases hb:O2 X base H P with
  |true=>rfl
  |false=>rw[hb] at h2;cases h2
 |o::l,i,l',e,s,H,P,r,tr,h1,h2,h3=>by
  simp only[UT] at h1
  split at h1
  ·rename_i g r' e1 e2
   cases l' with
   |nil=>simp at h1
   |cons x l2 =>
    obtain⟨ro,c⟩:=x;simp only[alT,Option.some.injEq,List.cons.injEq] at h1;obtain⟨rfl,rfl⟩:=h1;simp only[NZ] at h2
    split at h2
    ·rename_i v s1 hv;have Xz:=ac7 e1 hv;simp only[xD,Xz] at h3
     split at h3
     ·rename_i Rn g1
      cases h3
      cases hb:(!(true&&(cls X o.op).qA)||S_ base s1 l2) with
      |false=>rw[hb] at h2;cases h2
      |true =>
       rw[hb] at h2;simp only[cond_true] at h2;obtain⟨P',q1,q2,q3⟩:=gY a_ l (i+1) l2 _ s1 _ _ r Rn e2 h2 g1;obtain⟨k1,k2,_⟩:=QA _ _ _ _ _ g1;have dQ:∀n,W_ ((e,s)::Rn) (n+1)=W_ Rn n:=fun n=>by simp[W_]
       have hte:∀n,SB ((e,s)::Rn) (n+1)=SB Rn n:=fun n=>by simp[SB]
       have QK:W_ Rn 0=s1:=by simp[W_,k2]
       have ag4:(Zh X ops (i+1) l).map (fun j=>W_ ((e,s)::Rn) (j+1-i))=(Zh X ops (i+1) l).map (fun j=>W_ Rn (j+1-(i+1))):=by
        refine amc fun j hj=>?_
        obtain⟨k,_,_,hjk,_⟩:=(Qz l (i+1) j).1 hj;rw[show j+1-i=(j+1-(i+1))+1 by omega,dQ]
       refine⟨P',?_,fun p hp=>q2 p (by unfold bu;split <;> simp[hp]),fun k o' q lo hi Jd BW hg hc=>?_⟩
       ·have Yh:late X ops i=false:=by simp[late,a_]
        simp only[Zh,Yh,amp,Bool.and_true]
        cases hw:(cls X o.op).qA with
        |true =>
         rw[hw] at q1;simp only[if_true,alT];rw[ag4,show i+1-i=0+1 by omega,dQ,QK]
         simpa using q1
        |false =>
         rw[hw] at q1;simp only[ali,if_false];rw[ag4]
         simpa using q1
       ·cases k with
        |zero =>
         simp at Jd BW;obtain⟨_,rfl⟩:=BW;subst Jd;have hgn:g=none:=by rw[hg] at e1;simp[rcG] at e1;exact e1.symm
         subst hgn;simp only[Rt,cond_true,hc,Bd.BY,Bool.and_false,ali,if_false] at hv;have:=N1 hv;refine⟨v,?_,?_⟩
         ·rw[dQ,QK];exact this
         ·exact q2 _ (by simp[bu,SB])
        |succ k =>
         obtain⟨v',w1,w2⟩:=q3 k o' q lo hi (by simpa using Jd) (by simpa using BW) hg hc;refine⟨v',?_,?_⟩
         ·rw[hte,dQ,dQ];exact w1
         ·rw[hte];exact w2
     ·cases h3
    ·cases h2
  ·cases h1
theorem gW {l:List RO}{e:Env}{s:St}{r:Env×St}(yj:UT X ops true 0 ops.toList=some l)(gV:gZ X ops=true)(ac8:Xw X ops=true)(hn:Wm s.next s l=true)
  (hrC:NZ X s.next (l.zip (bh X ops)) e { s with next:=s.next+ops.size } [{ s with next:=s.next+ops.size }] []=some r):OQ X (Yf X) ops e s=some r:=by
 have X5:=w_ ac8;have hlen:l.length=ops.size:=by rw[Pn _ _ _ yj];simp
 have tV:(l.zip (bh X ops)).map Prod.fst=l:=by rw[List.map_fst_zip];rw[hlen];simp[bh]
 have hr:P_ X s.next l e { s with next:=s.next+ops.size }=some r:=by
  have:=rV _ _ _ _ _ hrC;rw[tV] at this;exact this
 unfold gZ at gV;simp only[agw,ams,alK,al4] at gV;obtain⟨a_,Xa⟩:=gV;obtain⟨tr,g1,g2,g3⟩:=Fy _ _ _ _ _ yj hr;obtain⟨P',hP1,_,hP2⟩:=gY a_ ops.toList 0 (l.zip (bh X ops)) e _ _ [] r tr (by rw[tV];exact yj) hrC g1;obtain⟨k1,k2,k3⟩:=QA _ _ _ _ _ g1;have k1:tr.length=ops.size+1:=by simpa using k1
 have ht:EP X (Yf X) ops s.next (SB tr) (W_ tr):=⟨fun i o ho=>by
  have:=k3 i o (by simpa using ho)
  simpa using this⟩
 have J8:W_ tr 0={ s with next:=s.next+ops.size }:=by simp[W_,k2]
 have G8:∀i,late X ops i=false:=fun i=>by simp[late,a_]
 have Mu:∀j,j∈Zh X ops 0 ops.toList<->∃o,ops[j]? = some o/\cls X o.op=.w:=by
  intro j;rw[Qz]
  constructor
  ·rintro⟨k,o,h1,rfl,h3⟩;simp only[agw] at h3;exact⟨o,by simpa using h1,Rb.1 h3.1⟩
  ·rintro⟨o,h1,h3⟩;exact⟨j,o,by simpa using h1,by omega,by simp[Rb.2 h3,G8]⟩
 have ac9:∀j,kA X ops j->j∈UI X 0 ops.toList:=by
  have:∀(l:List Oper) (i k:Nat) o,l[k]? = some o->cls X o.op=.a->i+k∈UI X i l:=by
   intro l
   induction l with
   |nil=>intro i k o h;simp at h
   |cons x l ih =>
    intro i k o h hc;unfold UI
    cases k with
    |zero=>simp at h;subst h;rw[if_pos (Xp.2 hc)];exact aba ..
    |succ k =>
     have:=ih (i+1) k o (by simpa using h) hc;rw[show i+(k+1)=i+1+k by omega]
     split
     ·exact aab _ this
     ·exact this
  rintro j ⟨o,ho,hc⟩;have:=this ops.toList 0 j o (by simpa using ho) hc
  simpa using this
 have ac_:=LZ (tr:=tr) (Zh X ops 0 ops.toList) fun j hj=>by
  obtain⟨o,ho,_⟩:=(Mu j).1 hj;have:=(agz.1 ho).1;omega
 unfold OQ;rw[g1];simp only[ac_];have Fj:∀m,m=0\/(∃j,m=j+1/\j∈Zh X ops 0 ops.toList)->∀i,m<=i->kA X ops i->(W_ tr m).get (s.next+i)=none:=by
  rintro m (rfl|⟨j,rfl,hj⟩) i hi ⟨o,ho,hc⟩
  ·rw[J8];have:=N0 _ _ _ yj hn i o (by simpa using ho) (Xp.2 hc);rw[ald] at this;exact this
  ·obtain⟨oj,hoj,hcj⟩:=(Mu j).1 hj;have:=g3 j oj (by simpa using hoj) (Rb.2 hcj) i (by omega) o (by simpa using ho) (Xp.2 hc)
   simpa using this
 have hss:∀m s1,(m,s1)∈(0,({ s with next:=s.next+ops.size }:St))::((Zh X ops 0 ops.toList).map fun j=>(j+1,W_ tr (j+1)))->(m=0\/∃j,m=j+1/\j∈Zh X ops 0 ops.toList)/\s1=W_ tr m:=by
  intro m s1 hm;rcases alL.1 hm with e|hm
  ·cases e;exact⟨.inl rfl,J8.symm⟩
  ·obtain⟨j,hj,e⟩:=alN.1 hm
   cases e
   exact⟨.inr ⟨j,rfl,hj⟩,rfl⟩
 have hnA:Ss X ops s.next ((0,({ s with next:=s.next+ops.size }:St))::((Zh X ops 0 ops.toList).map fun j=>(j+1,W_ tr (j+1))))=true:=LY _ fun m s1 hm i hi hk=>by
  obtain⟨h1,rfl⟩:=hss m s1 hm;exact Fj m h1 i hi hk
 have J9:TD X (Yf X) ops s.next (Zh X ops 0 ops.toList) (UI X 0 ops.toList) ((0,({ s with next:=s.next+ops.size }:St))::((Zh X ops 0 ops.toList).map fun j=>(j+1,W_ tr (j+1)))) tr 0 ops.toList tr=true:=by
  refine Js _ _ _ fun i o es ho htr hw=>?_
  have Vo:ops[i]? = some o:=by simpa using ho
  have hi:i<ops.size:=(agz.1 Vo).1;have fR:es=(SB tr i,W_ tr i):=by simp[SB,W_,htr]
  subst fR;simp only at hw;rw[ald];have xI:cls X o.op≠.a->∃v,YI X (Yf X) (SB tr i) o.op (W_ tr i)=some (v,W_ tr (i+1)):=fun ZC=>by
   rcases U9 (ht.step i o Vo) with⟨h1,_⟩|⟨_,v,_,⟨hc,_⟩|⟨_,h3⟩⟩
   ·rw[hw] at h1;cases h1
   ·exact absurd (Xp.1 hc) ZC
   ·exact⟨v,h3⟩
  have uL:(cls X o.op=.r\/cls X o.op=.q)->CY X ops i=true->∃m,Uu ops (Zh X ops 0 ops.toList) ((0,({ s with next:=s.next+ops.size }:St))::((Zh X ops 0 ops.toList).map fun j=>(j+1,W_ tr (j+1)))) i=[(m,W_ tr m)] /\
    TU ops s.next i m tr (UI X 0 ops.toList) (W_ tr m)=W_ tr i:=by
   intro hk gU;unfold CY at gU;rw[agw] at gU;obtain⟨ha,rk⟩:=gU;rw[alK] at ha rk;have hab:∀k,k<i->kA X ops k->Xy ops k i=true:=fun k Fo xC=>by
    have:=ha k (ac9 k xC)
    simpa[Fo] using this
   have oG:∀k∈Zh X ops 0 ops.toList,(Xy ops k i=true<->k<i)/\(Xy ops i k=true<->i<k):=by
    intro k ur;have:=rk k ur;simp only[amE] at this;rcases this with h1|h1
    ·have:=X5.RZ i k h1;refine⟨⟨fun _=>this,fun _=>h1⟩,⟨fun h2=>?_,fun h2=>by omega⟩⟩;have:=X5.RZ k i h2;omega
    ·have:=X5.RZ k i h1;refine⟨⟨fun h2=>?_,fun h2=>by omega⟩,⟨fun _=>this,fun _=>h1⟩⟩;have:=X5.RZ i k h2;omega
   have ZC:∀k∈Zh X ops 0 ops.toList,k≠i:=fun k ur e=>by
    obtain⟨o2,G9,xJ⟩:=(Mu k).1 ur;rw[e,Vo] at G9;cases G9;rcases hk with hk|hk <;> rw[hk] at xJ <;> cases xJ
   have ac':Yk (fun j=>!Xy ops i j) (Zh X ops 0 ops.toList)=Yk (fun j=>Xy ops j i) (Zh X ops 0 ops.toList):=by
    refine Nat.le_antisymm (U_ _ fun x hx h=>?_) (U_ _ fun x hx h=>?_)
    ·have h1:Xy ops i x=false:=by simpa using h
     refine ((oG x hx).1).2 (Nat.lt_of_not_le fun hle=>?_);have:=((oG x hx).2).2 (by have:=ZC x hx;omega);rw[h1] at this;cases this
    ·have h1:=((oG x hx).1).1 h;simp only[ams]
     cases hb:Xy ops i x with
     |false=>rfl
     |true=>have:=((oG x hx).2).1 hb;omega
   unfold Uu;rw[ac'];generalize hq:Yk (fun j=>Xy ops j i) (Zh X ops 0 ops.toList)=q;have G7:=List.pairwise_iff_getElem.1 (To (X:=X) (ops:=ops) ops.toList 0);have hql:q<=(Zh X ops 0 ops.toList).length:=by
    rw[<-hq];generalize Zh X ops 0 ops.toList=L
    induction L with
    |nil=>exact agB _
    |cons x L ih=>simp only[Yk,akd];split <;> omega
   have LX:∀n (hn:n<(Zh X ops 0 ops.toList).length),(n<q<->(Zh X ops 0 ops.toList)[n]<i):=by
    obtain⟨p,sV,EF,G'⟩:∃p,p<=(Zh X ops 0 ops.toList).length/\(∀n (hn:n<(Zh X ops 0 ops.toList).length),n<p->(Zh X ops 0 ops.toList)[n]<i)/\(∀n (hn:n<(Zh X ops 0 ops.toList).length),p<=n->¬(Zh X ops 0 ops.toList)[n]<i):=by
     rcases HF (fun n=>∃hn:n<(Zh X ops 0 ops.toList).length,(Zh X ops 0 ops.toList)[n]<i) (Zh X ops 0 ops.toList).length with h|⟨n0,h1,⟨h2,h3⟩,h4⟩
     ·exact⟨0,aic _,fun n _ hn=>by omega,fun n hn _ Yh=>h n hn ⟨hn,Yh⟩⟩
     ·refine⟨n0+1,h1,fun n hn Yh=>?_,fun n hn hle Yh=>h4 n (by omega) hn ⟨hn,Yh⟩⟩;by_cases e:n=n0
      ·subst e;exact h3
      ·have:=G7 n n0 hn h2 (by omega);omega
    have tH:p=q:=by
     rw[<-hq];refine (U1 _ p sV (fun x hx=>?_) (fun x hx=>?_)).symm
     ·obtain⟨n,hn,rfl⟩:=alP.1 hx;rw[List.getElem_take];have r9:n<p/\n<(Zh X ops 0 ops.toList).length:=by rw[amr] at hn;omega
      exact ((oG _ (adm r9.2)).1).2 (EF n r9.2 r9.1)
     ·obtain⟨n,hn,rfl⟩:=alP.1 hx;rw[List.getElem_drop];rw[List.length_drop] at hn;have:=G' (p+n) (by omega) (by omega)
      cases hb:Xy ops (Zh X ops 0 ops.toList)[p+n] i with
      |false=>rfl
      |true=>exact absurd (((oG _ (adm (by omega))).1).1 hb) this
    subst tH;exact fun n hn=>⟨EF n hn,fun Yh=>Nat.lt_of_not_le fun hle=>G' n hn hle Yh⟩
   have fin:∀m,(m=0\/∃j,m=j+1/\j∈Zh X ops 0 ops.toList)->m<=i->(∀k∈Zh X ops 0 ops.toList,k<i->k<m) ->
     TU ops s.next i m tr (UI X 0 ops.toList) (W_ tr m)=W_ tr i:=fun m hm Bi hwm =>
    CW ht k1 X5 hi Bi (fun k ok h1 h2 ada hc=>by
     have:=hwm k ((Mu k).2 ⟨ok,ada,hc⟩) h2;omega) hab (fun k h1 h2=>Fj m hm k h1 h2)
   cases q with
   |zero =>
    refine⟨0,by simp[J8],fin 0 (.inl rfl) (aic _) fun k ur Fo=>?_⟩;obtain⟨n,hn,rfl⟩:=alP.1 ur;have:=(LX n hn).2 Fo;omega
   |succ q =>
    have hqn:q<(Zh X ops 0 ops.toList).length:=by omega
    have hqi:=(LX q hqn).1 (by omega);refine⟨(Zh X ops 0 ops.toList)[q]+1,?_,fin _ (.inr ⟨_,rfl,adm _⟩) (by omega) fun k ur Fo=>?_⟩
    ·rw[List.drop_take];rw[show q+1+1-(q+1)=1 by omega,List.drop_succ_cons,abc (by simpa using hqn)];simp
    ·obtain⟨n,hn,rfl⟩:=alP.1 ur;have hnq:=(LX n hn).2 Fo;by_cases e:n=q
     ·subst e;omega
     ·have:=G7 n q hn hqn (by omega);omega
  have Fi:=Xa i hi;rw[Vo] at Fi;simp only at Fi;refine⟨fun hk=>?_,fun hk=>?_⟩
  ·cases Ef:CY X ops i with
   |true =>
    obtain⟨v,hv⟩:=xI (by rw[hk];simp);obtain⟨m,Be,bR⟩:=uL (.inl hk) Ef;refine⟨v,_,hv,?_⟩;rw[Be];simp only[WS,bR,hv,P0,Bool.and_self]
   |false =>
    rw[hk,Ef] at Fi;simp only[Bd.Ye,Bool.true_or,ama,amf,al9,agw,amz,alK,ams] at Fi;obtain⟨hgn,SX⟩:=Fi;have MT:(l.zip (bh X ops))[i]? = some ((l[i]'(by omega)),some (Yk (fun j=>Xy ops j i) (Zh X ops 0 ops.toList),Yk (fun j=>!Xy ops i j) (Zh X ops 0 ops.toList))):=by
     rw[List.getElem?_zip_eq_some];refine⟨by simp[aaa (show i<l.length by omega)],?_⟩;simp only[bh,alV,List.getElem?_range hi,amo,opC,Vo,hk,Ef,Bd.Ye];rfl
    obtain⟨v,hv,SY⟩:=hP2 i o _ _ _ (by simpa using Vo) MT hgn hk;refine⟨v,_,hv,?_⟩;have Mw:=CX _ hP1 _ SY;simp only at Mw;have adb:∀x∈Uu ops (Zh X ops 0 ops.toList) ((0,({ s with next:=s.next+ops.size }:St))::((Zh X ops 0 ops.toList).map fun j=>(j+1,W_ tr (j+1)))) i,SE v (WG X s.next none (SB tr i) x.2 (yl X o.op))=true:=by
     intro x hx;refine rT _ Mw x.2 ?_;have:(([{ s with next:=s.next+ops.size }]:List St)++(Zh X ops 0 ops.toList).map (fun j=>W_ tr (j+1-0)))=((0,({ s with next:=s.next+ops.size }:St))::((Zh X ops 0 ops.toList).map fun j=>(j+1,W_ tr (j+1)))).map Prod.snd:=by
      simp[Function.comp_def]
     rw[this,<-List.map_take,<-List.map_drop];exact List.mem_map_of_mem hx
    generalize Uu ops (Zh X ops 0 ops.toList) ((0,({ s with next:=s.next+ops.size }:St))::((Zh X ops 0 ops.toList).map fun j=>(j+1,W_ tr (j+1)))) i=L at adb
    induction L with
    |nil=>rfl
    |cons x L ih =>
     obtain⟨m,s1⟩:=x;have h0:=adb (m,s1) (aba ..);simp only[WS];rw[rU _ SX];unfold SE at h0
     split at h0
     ·rename_i u s2 hu;simp only at hu;simp only[N1 hu,h0,al9];exact ih fun x hx=>adb x (aab _ hx)
     ·cases h0
  ·cases Ef:CY X ops i with
   |true =>
    obtain⟨v,hv⟩:=xI (by rw[hk];simp);obtain⟨m,Be,bR⟩:=uL (.inr hk) Ef;obtain⟨_,c,vs,us,e1,e2,e3,_⟩:=D4 hk hv;refine⟨c,vs,us,e1,e2,e3,?_⟩;rw[Be];simp only[Ta,bR,e3,WK,Bool.and_self]
   |false =>
    rw[hk,Ef] at Fi;simp[Bd.Ye] at Fi
 rw[NY a_];simp only[Oi,J9,hnA,Bool.and_self,if_true];exact g2
end
section
variable (X:Cx){β:Type}(back:β)(fin:Fl->β)(ks:List K)
noncomputable def lj (base:Nat)(l:List lq)(e:Env)(s:St)(H:List St)(P:List Pb):β:=match NZ X base l e s H P with
 |some (e,s)=>goN X fin ks e s
 |none=>back
noncomputable def uj (base:Nat)(x:Option (AV×St))(d:Option Nat)(w:Bool)(c:Option (Nat×Nat))(op:MN)(l:List lq)(e:Env)(H:List St)(P:List Pb):β:=match x with
 |some (v,s)=>bif !w||S_ base s l then lj X back fin ks base l (Yt e d v) s (bif w then H++[s] else H) (bu c e op v P) else back
 |none=>back
noncomputable def sN (c:Code)(e:Env)(s:St):β:=pop X fin ks (Yf X c e s)
variable (base:Nat)(e:Env)(s:St)(H:List St)(P:List Pb)(l:List lq)
theorem a8:lj X back fin ks base [] e s H P=bif O2 X base H P then goN X fin ks e s else back:=by
 simp only[lj,NZ]
 cases O2 X base H P <;> rfl
theorem gT (d:Option Nat)(a:Option Nat)(w:Bool)(op:MN)(c:Option (Nat×Nat)) :
  lj X back fin ks base ((⟨d,none,a,w,op⟩,c)::l) e s H P=uj X back fin ks base (WG X base a e s op) d w c op l e H P:=by
 simp only[lj,NZ,uj,Rt,cond_true]
 cases WG X base a e s op with
 |none=>rfl
 |some x =>
  simp only
  cases (!w||S_ base x.2 l) <;> rfl
theorem ui (v:AV)(d:Option Nat)(op:MN):uj X back fin ks base (some (v,s)) d false none op l e H P=lj X back fin ks base l (Yt e d v) s H P:=(fun h=>h) rfl
theorem x9 (v:AV)(d:Option Nat)(lo hi:Nat)(op:MN):uj X back fin ks base (some (v,s)) d false (some (lo,hi)) op l e H P=lj X back fin ks base l (Yt e d v) s H (⟨lo,hi,e,op,v⟩::P):=(fun h=>h) rfl
theorem ug (v:AV)(d:Option Nat)(op:MN):uj X back fin ks base (some (v,s)) d true none op l e H P=bif S_ base s l then lj X back fin ks base l (Yt e d v) s (H++[s]) P else back:=(fun h=>h) rfl
theorem oE:S_ base s []=true:=(fun h=>h) rfl
theorem x8 (d:Option Nat)(g:Option (Nat×Bool))(w:Bool)(op:MN)(c:Option (Nat×Nat)):S_ base s ((⟨d,g,none,w,op⟩,c)::l)=S_ base s l:=by
 simp[S_,Wm]
theorem xZ (i:Nat)(d:Option Nat)(g:Option (Nat×Bool))(w:Bool)(op:MN)(c:Option (Nat×Nat)):S_ base s ((⟨d,g,some i,w,op⟩,c)::l)=((s.get (base+i)).isNone&&S_ base s l):=by
 simp[S_,Wm]
theorem oD:O2 X base H []=true:=(fun h=>h) rfl
theorem ue (lo hi:Nat)(op:MN)(v:AV):O2 X base H (⟨lo,hi,e,op,v⟩::P)=(bA X base e op v ((H.take (hi+1)).drop lo)&&O2 X base H P):=(fun h=>h) rfl
theorem a0 (op:MN)(v:AV):bA X base e op v []=true:=(fun h=>h) rfl
theorem gS (op:MN)(v:AV)(L:List St):bA X base e op v (s::L)=(SE v (WG X base none e s op)&&bA X base e op v L):=(fun h=>h) rfl
def pbO (v:AV)(x:Option AV):Bool:=match x with
 |some u=>same u v
 |none=>false
theorem xY (v:AV)(x:Option AV):SE v (Zm x s)=pbO v x:=by cases x <;> rfl
theorem gR (u v:AV):pbO v (some u)=same u v:=(fun h=>h) rfl
theorem ade (v:AV)(x:WB):SE v (WG X base none e s (.SL x))=pbO v (SL (XE e x) s):=xY s v _
theorem aZ (v:AV)(x:WB):SE v (WG X base none e s (.SW x))=pbO v (Ti (XE e x)):=xY s v _
theorem gQ {α:Type}(x:α)(l m:List α):(x::l)++m=x::(l++m):=(fun h=>h) rfl
theorem aY {α:Type}(m:List α):([]:List α)++m=m:=(fun h=>h) rfl
theorem abA [Stat] {c:Code}{n:Nat}{l:List lq}(h:O_ X c=some (n,l))(fin:Fl->β)(ks:List K)(e:Env)(s:St):go X fin ks (.raw c) e s =
  bif S_ s.next s l then lj X (sN X fin ks c e s) fin ks s.next l e { s with next:=s.next+n } [{ s with next:=s.next+n }] [] else sN X fin ks c e s:=by
 unfold O_ at h
 split at h
 ·rename_i id ops d
  split at h
  ·rename_i hc;simp only[agw] at hc
   split at h
   ·rename_i l0 hl
    cases h
    have hz:S_ s.next s (l0.zip (bh X ops))=Wm s.next s l0:=by
     unfold S_;rw[List.map_fst_zip];rw[Pn _ _ _ hl];simp[bh]
    rw[hz]
    cases hn:Wm s.next s l0 with
    |false=>rfl
    |true =>
     simp only[cond_true,lj]
     split
     ·rename_i e1 s1 h1;have:=gW hl hc.1.2 hc.2 hn h1;simp only[go,den,goN];rw[Vq];simp only[Xc,hc.1.1,if_true,this]
     ·rfl
   ·cases h
  ·cases h
 ·cases h
end
@[congr] theorem adf {X:Cx} {β:Type} {back:β} {fin:Fl->β} {ks:List K} {base:Nat} {x x':Option (AV×St)} {d:Option Nat} {w:Bool} {c:Option (Nat×Nat)} {op:MN} {l:List lq} {e:Env} {H:List St} {P:List Pb} (h:x=x'):uj X back fin ks base x d w c op l e H P=uj X back fin ks base x' d w c op l e H P:=by rw[h]
attribute [go_sem ↓] a8 gT ui x9 ug oE x8 xZ oD ue a0 gS ade aZ gQ aY List.take_succ_cons amF List.drop_succ_cons amd
attribute [go_sem] gR P0
end Go.Am
namespace Go.Am
open Go
variable [Z4]
set_option maxRecDepth 100000
set_option maxHeartbeats 8000000
def uw:RC->List Code
 |.seq a b=>uw a++uw b
 |.cond _ a b=>uw a++uw b
 |.block _ b=>uw b
 |.loop b=>uw b
 |.raw c=>[c]
 |_=>[]
noncomputable def KQ (f k:Nat):Code:=match U.fn f with
 |some fn=>match fn.body with
  |some c=>((uw (rc U c))[k]?).getD .skip
  |none=>.skip
 |none=>.skip
def vR:RC:=(sQ (sO [om 9 5,om 10 1,YO 11 10,YW 12 3 9 11] (cS 12 (.exit 0))) (sQ (.block 1 (sQ (.TP 8 [om 15 1,om 16 5,Zk 17 1 15 16,Z0 18 17,om 19 0,MS 20 3 1 19,O8 21 3 20 1,o 22 (.call 94 [(.t 18),(vI 0),(.t 21)])]) (cT 22 (sO [ZA 4 3] .ret)))) (oP [om 13 5,YT 14 3 13 1,om 5 14])))
def r28:RC:=(sO [ZA 4 0] (sQ (sO [om 6 1,YO 7 6,UA 8 3 7 4096] (cT 8 (sO [ZA 4 5] .ret))) (sQ (sO [ZA 5 0] (.block 0 (.loop vR))) (sO [ZA 4 0] .ret))))
theorem k28:Ze 28=some ([.tmp 4],r28):=by kernel_rfl
def BQ:RC:=(sQ (sO [om 11 5,om 12 0,YO 13 12,YW 14 3 11 13] (cS 14 (.exit 0))) (sQ (.block 1 (sQ (.TP 9 [om 17 0,om 18 5,Zk 19 1 17 18,Z0 20 19,om 21 1,om 22 5,Zk 23 1 21 22,Z0 24 23,OD 25 3 20 24]) (cT 25 (sO [Zc 4] .ret)))) (oP [om 15 5,YT 16 3 15 1,om 5 16])))
def aeR:RC:=(sO [Zc 4] (sQ (sO [om 6 0,YO 7 6,om 8 1,YO 9 8,OD 10 3 7 9] (cT 10 (sO [Zc 4] .ret))) (sQ (sO [ZA 5 0] (.block 0 (.loop BQ))) (sO [Un 4] .ret))))
theorem aiM:Ze 109=some ([.tmp 4],aeR):=by kernel_rfl
end Go.Am
namespace Go.Am
open Go
variable [Z4]
set_option maxRecDepth 100000
def r94:RC:=(sO [Zc 6] (sO [om 7 0,om 8 1,YW 9 3 7 8,om 10 9,Yp 11 10 0,Yp 12 10 2,oF 13 10 (.bin .gtr 3 false (.t 11) (.t 12)),Yo 14 10 13,om 6 14] .ret))
theorem k94:Ze 94=some ([.tmp 6],r94):=by kernel_rfl
def r26:RC:=(sO [ZA 2 0] (sQ (sO [om 3 0,zQ 4 94 3 1 16] (cT 4 (sO [ZA 2 3] .ret))) (sO [ZA 2 0] .ret)))
theorem k26:Ze 26=some ([.tmp 2],r26):=by kernel_rfl
def r95:RC:=(sO [o 2 (.al [bF,bF,bF,bF,bF,bF] 160),Zc 3] (sQ (sO [om 4 0] (.block 0 (sQ (sO [Q6 6 9 4 104 105 103 104,om 5 6] (cS 5 (sO [TY 7 9 4 108 111 119,om 5 7] (cS 5 (sO [Q6 8 9 4 114 105 115 101,om 5 8] (cS 5 (oP [Q6 9 9 4 102 97 108 108,om 5 9]))))))) (cO 5 (sO [o 10 (.On [bF,bF,bF,bF,bF,bF] [(0,1,vT),(1,1,vF),(2,1,vF),(3,1,vF),(4,1,vF),(5,1,vF)]),YU 6 2 10,Un 3] .ret) (sQ (sO [o 12 (.bin .eql 9 true (.t 4) (.v (.str [112,97,116,116,101,114,110]))),om 11 12] (cS 11 (oP [MQ 13 9 4 101 110 116 101 114,om 11 13]))) (cO 11 (sO [o 14 (.On [bF,bF,bF,bF,bF,bF] [(0,1,vF),(1,1,vF),(2,1,vF),(3,1,vF),(4,1,vT),(5,1,vF)]),YU 6 2 14,Un 3] .ret) (sQ (sO [MQ 16 9 4 112 117 108 115 101,om 15 16] (cS 15 (oP [TY 17 9 4 103 97 112,om 15 17]))) (cO 15 (sO [o 18 (.On [bF,bF,bF,bF,bF,bF] [(0,1,vT),(1,1,vF),(2,1,vT),(3,1,vT),(4,1,vF),(5,1,vF)]),YU 6 2 18,Un 3] .ret) (sO [Q6 20 9 4 105 100 108 101,om 19 20] (cO 19 (sO [o 21 (.On [bF,bF,bF,bF,bF,bF] [(0,1,vT),(1,1,vF),(2,1,vT),(3,1,vF),(4,1,vF),(5,1,vF)]),YU 6 2 21,Un 3] .ret) (sO [MQ 23 9 4 115 101 116 117 112,om 22 23] (cO 22 (sO [o 24 (.On [bF,bF,bF,bF,bF,bF] [(0,1,vT),(1,1,vT),(2,1,vT),(3,1,vF),(4,1,vF),(5,1,vF)]),YU 6 2 24,Un 3] .ret) (sO [Q6 26 9 4 114 117 110 116,om 25 26] (cO 25 (sO [o 27 (.On [bF,bF,bF,bF,bF,bF] [(0,1,vT),(1,1,vT),(2,1,vF),(3,1,vF),(4,1,vF),(5,1,vF)]),YU 6 2 27,Un 3] .ret) (sQ (sO [TY 29 9 4 110 111 116,om 28 29] (cS 28 (sO [TY 30 9 4 97 108 108,om 28 30] (cS 28 (oP [TY 31 9 4 97 110 121,om 28 31]))))) (cT 28 (sO [o 32 (.On [bF,bF,bF,bF,bF,bF] [(0,1,vF),(1,1,vF),(2,1,vF),(3,1,vF),(4,1,vF),(5,1,vT)]),YU 6 2 32,Un 3] .ret))))))))))))))))) (sO [o 33 (.On [bF,bF,bF,bF,bF,bF] []),YU 6 2 33,Zc 3] .ret)))
theorem k95:Ze 95=some ([.cell 2 160,.tmp 3],r95):=by kernel_rfl
def wq:RC:=(sQ (sO [om 10 5,om 11 0,MP 12 11,YW 13 3 10 12] (cS 13 (.exit 0))) (sQ (.block 1 (sO [om 16 0,om 17 5,o 18 (.sZ (.t 16) (.t 17)),o 19 (.bin .neq 5 true (.t 18) (.v (.int .u8 48))),om 20 19,YE 21 20 0,YE 22 20 5,oT 23 20 (.sZ (.t 21) (.t 22)),oT 24 20 (.bin .neq 5 true (.t 23) (.v (.int .u8 49))),Zj 25 20 24,om 26 25,YE 27 26 0,YE 28 26 5,oT 29 26 (.sZ (.t 27) (.t 28)),oT 30 26 (.bin .neq 5 true (.t 29) (.v (.int .u8 120))),Zj 31 26 30] (cT 31 (sO [Un 4] .ret)))) (oP [om 14 5,YT 15 3 14 1,om 5 15])))
def r96:RC:=(sO [Zc 4] (sQ (sO [om 6 0,MP 7 6,om 8 1,OD 9 3 7 8] (cT 9 (sO [Un 4] .ret))) (sQ (sO [ZA 5 0] (.block 0 (.loop wq))) (sO [Zc 4] .ret))))
theorem k96:Ze 96=some ([.tmp 4],r96):=by kernel_rfl
def wH:RC:=(sQ (sO [om 167 9,ZX 168 6 4,Z0 169 168,YO 170 169,YW 171 3 167 170] (cS 171 (.exit 0))) (sQ (.block 1 (sO [om 174 0,ZX 175 6 4,Z0 176 175,om 177 9,Zk 178 7 176 177,Zr 179 7 178,om 180 2,YT 181 3 180 1,Pa 182 27 174 179 181,om 10 182] (sO [om 183 10,Qq 184 3 183 0] (cT 184 (sO [om 185 10,om 6 185] .ret))))) (oP [om 172 9,YT 173 3 172 1,om 9 173])))
def r27:RC:=(sO [Zp 4 39 1,ZA 6 0] (sQ (sO [om 11 2,UA 12 3 11 4] (cT 12 (sO [ZA 6 5] .ret))) (sO [ZX 14 0 4,Z0 15 14,YN 16 95 15,om 13 16,Zi 17 13 0,Zi 18 13 1,o 7 (.al [bF,bF,bF,bF,bF,bF] 160),YU 6 7 17,om 8 18] (sQ (sO [om 19 8,Wh 20 19] (cT 20 (sO [ZA 6 13] .ret))) (sQ (sO [IZ 21 6 1 7 0,Z0 22 21,Wh 23 22,om 24 23,Zb 25 24 1 4,YJ 26 24 25,RE 27 24 3 26 0,Zj 28 24 27,om 29 28,Gv 30 29 6 1 7 1,XH 31 29 30,TM 32 29 31,Yp 33 29 32,Zb 34 33 2 4,YJ 35 33 34,RE 36 33 3 35 0,Td 37 29 33 36,Yo 38 29 37,om 39 38,Gv 40 39 6 1 7 2,XH 41 39 40,TM 42 39 41,Yp 43 39 42,Zb 44 43 3 4,YJ 45 43 44,RE 46 43 3 45 0,Td 47 39 43 46,Yo 48 39 47,om 49 48,Gv 50 49 6 1 7 3,XH 51 49 50,TM 52 49 51,Yp 53 49 52,Zb 54 53 4 4,YJ 55 53 54,RE 56 53 3 55 0,Td 57 49 53 56,Yo 58 49 57,om 59 58,Gv 60 59 6 1 7 4,XH 61 59 60,TM 62 59 61,Yp 63 59 62,Zb 64 63 5 4,YJ 65 63 64,oT 66 63 (.bin .neq 9 true (.t 65) (.v (.str []))),Td 67 59 63 66,Yo 68 59 67,om 69 68,Gv 70 69 6 1 7 5,XH 71 69 70,TM 72 69 71,Yp 73 69 72,Zb 74 73 6 4,YJ 75 73 74,Gu 76 73 75,DC 77 73 3 76 0,Td 78 69 73 77,Yo 79 69 78] (cT 79 (sO [ZA 6 2] .ret))) (sQ (sO [IZ 80 6 1 7 0,Z0 81 80,om 82 81,Zb 83 82 1 4,YJ 84 82 83,YE 85 82 0,oT 86 82 (.bin .sub 3 true (.t 85) (vI 1)),oT 87 82 (.call 94 [(.t 84),(vI 0),(.t 86)]),Zj 88 82 87,om 89 88,Gv 90 89 6 1 7 1,XH 91 89 90,Yp 92 89 91,Zb 93 92 2 4,YJ 94 92 93,YE 95 92 0,oT 96 92 (.bin .sub 3 true (.t 95) (vI 1)),oT 97 92 (.call 94 [(.t 94),(vI 0),(.t 96)]),Td 98 89 92 97,Yo 99 89 98] (cT 99 (sO [ZA 6 3] .ret))) (sQ (sO [IZ 100 6 1 7 1,Z0 101 100,om 102 101,Zb 103 102 1 4,YJ 104 102 103,Zb 105 102 2 4,YJ 106 102 105,Ja 107 102 3 104 106,Zj 108 102 107] (cT 108 (sO [ZA 6 9] .ret))) (sQ (sO [IZ 109 6 1 7 2,Z0 110 109,om 111 110,Zb 112 111 3 4,YJ 113 111 112,sY 114 111 94 113 1 255,Zj 115 111 114,om 116 115,Gv 117 116 6 1 7 3,XH 118 116 117,Yp 119 116 118,Zb 120 119 4 4,YJ 121 119 120,sY 122 119 94 121 1 255,Td 123 116 119 122,Yo 124 116 123] (cT 124 (sO [ZA 6 3] .ret))) (sQ (sO [IZ 125 6 1 7 3,Z0 126 125,om 127 126,Zb 128 127 3 4,YJ 129 127 128,Zb 130 127 4 4,YJ 131 127 130,oT 132 127 (.bin .gtr 3 false (.t 129) (.t 131)),Zj 133 127 132] (cT 133 (sO [ZA 6 11] .ret))) (sQ (sO [IZ 134 6 1 7 4,Z0 135 134,om 136 135,Zb 137 136 5 4,YJ 138 136 137,YE 139 136 0,WY 140 136 96 138 139,Zj 141 136 140] (cT 141 (sO [ZA 6 1] .ret))) (sQ (sO [ZX 142 0 4,Z0 143 142,TY 144 9 143 110 111 116,om 145 144,Zb 146 145 6 4,YJ 147 145 146,Gu 148 145 147,RE 149 145 3 148 1,Zj 150 145 149] (cT 150 (sO [ZA 6 2] .ret))) (sQ (sO [IZ 151 6 1 7 5,Z0 152 151,om 153 152,Zb 154 153 6 4,YJ 155 153 154,Gu 156 153 155,TL 157 153 3 156 0,Zj 158 153 157] (cT 158 (sO [ZA 6 12] .ret))) (sQ (sO [IZ 159 6 1 7 5,Z0 160 159,om 161 160,Zb 162 161 6 4,YJ 163 161 162,Gu 164 161 163,DC 165 161 3 164 8,Zj 166 161 165] (cT 166 (sO [ZA 6 5] .ret))) (sQ (sO [ZA 9 0] (.block 0 (.loop wH))) (sO [ZA 6 0] .ret)))))))))))))))
theorem k27:Ze 27=some ([.tmp 6],r27):=by kernel_rfl
def w7:RC:=(sQ (sO [om 21 4,ZX 22 1 1,Z0 23 22,YO 24 23,YW 25 3 21 24] (cS 25 (.exit 0))) (sQ (.block 1 (sO [ZX 28 1 1,Z0 29 28,om 30 4,Zk 31 9 29 30,Zr 32 9 31,zP 5 0 0 0 0 0 0 90,YU 9 5 32] (sQ (sO [ZX 33 0 1,Z0 34 33,ZX 35 0 5,Zr 36 7 35,o 37 (.call 27 [(.t 34),(.t 36),(vI 1)]),om 6 37] (sO [om 38 6,Qq 39 3 38 0] (cT 39 (sO [om 40 6,om 2 40] .ret)))) (sO [ZX 41 7 5,Z0 42 41,zQ 43 94 42 1 64,om 44 43,VM 45 44 8 5,XH 46 44 45,oF 47 44 (.call 94 [(.t 46),(vI 0),(vI 255)]),Yo 48 44 47,om 49 48,Yp 50 49 4,oF 51 49 (.bin .eql 3 true (.t 50) (vI 0)),Yp 52 49 51,Zb 53 52 8 5,YJ 54 52 53,RE 55 52 3 54 0,Td 56 49 52 55,Yo 57 49 56] (cT 57 (sO [ZA 2 3] .ret)))))) (oP [om 26 4,YT 27 3 26 1,om 4 27])))
def r34:RC:=(sO [Zp 1 31 0,ZA 2 0] (sQ (sO [ZX 7 0 1,Z0 8 7,YN 9 26 8,om 3 9] (sO [om 10 3,Qq 11 3 10 0] (cT 11 (sO [om 12 3,om 2 12] .ret)))) (sQ (sO [ZX 13 1 1,Z0 14 13,YO 15 14,VT 16 3 15 0] (cT 16 (sO [ZA 2 12] .ret))) (sQ (sO [ZX 17 1 1,Z0 18 17,YO 19 18,UA 20 3 19 8] (cT 20 (sO [ZA 2 5] .ret))) (sQ (sO [ZA 4 0] (.block 0 (.loop w7))) (sO [ZA 2 0] .ret))))))
theorem k34:Ze 34=some ([.tmp 2],r34):=by kernel_rfl
def aen:RC:=(sO [ZA 4 0] (sQ (sO [om 5 0] (cT 5 (sO [om 6 1,om 4 6] .ret))) (sO [ZA 4 0] .ret)))
theorem aif:Ze 116=some ([.tmp 4],aen):=by kernel_rfl
def aeo:RC:=(sO [ZA 6 0] (sO [om 7 0,om 8 1,YW 9 3 7 8,om 10 9,Yp 11 10 0,Yp 12 10 2,oF 13 10 (.bin .gtr 3 false (.t 11) (.t 12)),Yo 14 10 13,Uj 15 116 14 3,om 6 15] .ret))
theorem aih:Ze 124=some ([.tmp 6],aeo):=by kernel_rfl
def r88:RC:=(sO [ZA 2 0] (sO [om 3 0,zQ 4 124 3 1 16,om 2 4] .ret))
theorem k88:Ze 88=some ([.tmp 2],r88):=by kernel_rfl
def wM:RC:=(sO [YW 8 3 7 6] (sQ (cS 8 (.exit 0)) (sQ (.block 1 (sO [Zk 9 1 5 7,Z0 10 9,om 4 10] (sO [om 11 4,Qq 12 26 11 0] (cT 12 (sO [om 13 4,om 2 13] .ret))))) (oP [YT 14 3 7 1,om 7 14]))))
def r89:RC:=(sO [ZA 2 0] (sQ (sO [om 5 0,YO 6 5,ZA 7 0] (.block 0 (.loop wM))) (sO [ZA 2 0] .ret)))
theorem k89:Ze 89=some ([.tmp 2],r89):=by kernel_rfl
def adE:RC:=(sO [Zp 2 236 0,Zp 3 48 1,Zc 4] (sO [ZX 5 0 2,Z0 6 5,Wh 7 6,om 8 7,Zb 9 8 1 3,YJ 10 8 9,RE 11 8 3 10 0,Zj 12 8 11,om 13 12,VM 14 13 1 2,XH 15 13 14,TM 16 13 15,Yp 17 13 16,Zb 18 17 2 3,YJ 19 17 18,RE 20 17 3 19 0,Td 21 13 17 20,Yo 22 13 21,om 23 22,VM 24 23 2 2,XH 25 23 24,TM 26 23 25,Yp 27 23 26,Zb 28 27 3 3,YJ 29 27 28,RE 30 27 3 29 0,Td 31 23 27 30,Yo 32 23 31,om 33 32,VM 34 33 3 2,XH 35 33 34,TM 36 33 35,Yp 37 33 36,Zb 38 37 4 3,YJ 39 37 38,RE 40 37 3 39 0,Td 41 33 37 40,Yo 42 33 41,om 43 42,VM 44 43 4 2,XH 45 43 44,TM 46 43 45,Yp 47 43 46,Zb 48 47 5 3,YJ 49 47 48,oT 50 47 (.bin .neq 9 true (.t 49) (.v (.str []))),Td 51 43 47 50,Yo 52 43 51,om 53 52,VM 54 53 5 2,XH 55 53 54,TM 56 53 55,Yp 57 53 56,Zb 58 57 6 3,YJ 59 57 58,Gu 60 57 59,DC 61 57 3 60 0,Td 62 53 57 61,Yo 63 53 62,om 4 63] .ret))
theorem ahx:Ze 157=some ([.tmp 4],adE):=by kernel_rfl
def adD:RC:=(sO [ZA 4 0] (sO [om 5 1,MP 6 5,om 7 0,OD 8 3 6 7,om 9 8,Yp 10 9 1,oF 11 9 (.call 212 [(.t 10),(.v (.str [48,49,120]))]),oF 12 9 (.bin .neq 9 true (.t 11) (.v (.str []))),Yo 13 9 12,Uj 14 116 13 1,om 4 14] .ret))
theorem ahu:Ze 158=some ([.tmp 4],adD):=by kernel_rfl
def Cq:RC:=(sO [YW 144 3 143 142] (sQ (cS 144 (.exit 0)) (sQ (.block 1 (sO [Zk 145 7 141 143,Zr 146 7 145,Om 12 0 0 0 0 48,YU 7 12 146] (sO [om 147 10,VT 148 26 147 0] (cT 148 (oP [om 149 0,Zr 150 7 12,om 151 2,YT 152 3 151 1,Pa 153 90 149 150 152,om 10 153]))))) (oP [YT 154 3 143 1,om 143 154]))))
def r90:RC:=(sO [Zp 4 48 1,ZA 6 0] (sQ (.TP 10 [K5 14 156,ZX 15 0 4,Z0 16 15,o 17 (.raw (.lookup 238 (.tmp 14) (.tmp 16) true)),om 13 17,Zi 18 13 0,Zi 19 13 1,⟨some 7,none,some 7,false,.al [bF,bF,bF,bF,bF,bF,.Wa,.Wa,.Wa] 236⟩,⟨none,none,none,true,.st 9 (.t 7) (.t 18)⟩,om 8 19]) (sQ (sO [om 20 2,UA 21 3 20 4,Uj 22 116 21 5,om 23 8,Wh 24 23,Uj 25 116 24 13,o 26 (.U3 26 1 2 [(iI 0),(iI 0)] [(0,1,(.t 22)),(1,1,(.t 25))]),YN 27 89 26,om 9 27] (sO [om 28 9,Qq 29 26 28 0] (cT 29 (sO [om 30 9,om 6 30] .ret)))) (sQ (.TP 73 [Zr 31 9 7,Zr 32 7 4,YV 33 157 31 32,Uj 34 116 33 2,ZX 35 0 7,Z0 36 35,om 37 36,Zb 38 37 1 4,YJ 39 37 38,oT 40 37 (.bin .lss 3 true (.t 39) (vI 0)),YE 41 37 40,VM 42 41 1 4,XH 43 41 42,Yp 44 41 0,oF 45 41 (.bin .geq 3 false (.t 43) (.t 44)),oT 46 37 (.pick (.t 41) vT (.t 45)),Zj 47 37 46,Uj 48 116 47 3,ZX 49 1 7,Z0 50 49,om 51 50,Zb 52 51 2 4,YJ 53 51 52,oT 54 51 (.bin .lss 3 true (.t 53) (vI 0)),YE 55 51 54,VM 56 55 2 4,XH 57 55 56,Yp 58 55 0,oF 59 55 (.bin .geq 3 false (.t 57) (.t 58)),oT 60 51 (.pick (.t 55) vT (.t 59)),Zj 61 51 60,Uj 62 116 61 3,ZX 63 1 7,Z0 64 63,om 65 64,Zb 66 65 1 4,YJ 67 65 66,Zb 68 65 2 4,YJ 69 65 68,Ja 70 65 3 67 69,Zj 71 65 70,Uj 72 116 71 9,ZX 73 2 7,Z0 74 73,om 75 74,Zb 76 75 3 4,YJ 77 75 76,sY 78 75 124 77 1 255,RE 79 75 26 78 0,Zj 80 75 79,Uj 81 116 80 3,ZX 82 3 7,Z0 83 82,om 84 83,Zb 85 84 4 4,YJ 86 84 85,sY 87 84 124 86 1 255,RE 88 84 26 87 0,Zj 89 84 88,Uj 90 116 89 3,ZX 91 3 7,Z0 92 91,om 93 92,Zb 94 93 3 4,YJ 95 93 94,Zb 96 93 4 4,YJ 97 93 96,oT 98 93 (.bin .gtr 3 false (.t 95) (.t 97)),Zj 99 93 98,Uj 100 116 99 11,⟨some 101,none,some 70,false,.U3 26 1 7 [(iI 0),(iI 0),(iI 0),(iI 0),(iI 0),(iI 0),(iI 0)] [(0,1,(.t 34)),(1,1,(.t 48)),(2,1,(.t 62)),(3,1,(.t 72)),(4,1,(.t 81)),(5,1,(.t 90)),(6,1,(.t 100))]⟩,YN 102 89 101,om 10 102]) (sQ (sO [ZX 103 4 7,Z0 104 103] (cT 104 (oP [om 105 10,om 106 0,ZX 107 5 4,Z0 108 107,YV 109 158 106 108,o 110 (.U3 26 1 2 [(iI 0),(iI 0)] [(0,1,(.t 105)),(1,1,(.t 109))]),YN 111 89 110,om 10 111]))) (sQ (sO [om 112 10,Qq 113 26 112 0,om 114 113,VM 115 114 5 7,XH 116 114 115,TM 117 114 116,Yo 118 114 117] (cT 118 (sO [om 119 10,om 6 119] .ret))) (sQ (sO [ZX 120 0 4,Z0 121 120,TY 122 9 121 110 111 116] (cO 122 (oP [ZX 123 6 4,Z0 124 123,YO 125 124,Qq 126 3 125 1,Uj 127 116 126 2,om 10 127]) (.TP 13 [ZX 128 6 4,Z0 129 128,YO 130 129,VT 131 3 130 0,Uj 132 116 131 12,ZX 133 6 4,Z0 134 133,YO 135 134,UA 136 3 135 8,Uj 137 116 136 5,⟨some 138,none,some 10,false,.U3 26 1 2 [(iI 0),(iI 0)] [(0,1,(.t 132)),(1,1,(.t 137))]⟩,YN 139 89 138,om 10 139]))) (sQ (sO [ZX 140 6 4,Z0 141 140,YO 142 141,ZA 143 0] (.block 0 (.loop Cq))) (sO [om 155 10,om 6 155] .ret)))))))))
theorem k90:Ze 90=some ([.tmp 6],r90):=by kernel_rfl
def wo:RC:=(sO [YW 29 3 28 27] (sQ (cS 29 (.exit 0)) (sQ (.block 1 (sO [om 30 28,Zk 31 9 26 28,Zr 32 9 31,zP 5 0 0 0 0 0 0 144,om 4 30,YU 9 5 32] (sQ (.TP 22 [ZX 33 0 1,Z0 34 33,ZX 35 0 5,Zr 36 7 35,o 37 (.call 90 [(.t 34),(.t 36),(vI 1)]),ZX 38 7 5,Z0 39 38,zQ 40 124 39 1 64,ZX 41 8 5,Z0 42 41,zQ 43 124 42 0 255,om 44 4,VT 45 3 44 0,om 46 45,Zb 47 46 8 5,YJ 48 46 47,RE 49 46 3 48 0,Zj 50 46 49,Uj 51 116 50 3,⟨some 52,none,some 19,false,.U3 26 1 4 [(iI 0),(iI 0),(iI 0),(iI 0)] [(0,1,(.t 37)),(1,1,(.t 40)),(2,1,(.t 43)),(3,1,(.t 51))]⟩,YN 53 89 52,om 6 53]) (sO [om 54 6,Qq 55 26 54 0] (cT 55 (sO [om 56 6,om 2 56] .ret)))))) (oP [YT 57 3 28 1,om 28 57]))))
def r64:RC:=(sO [Zp 1 25 0,ZA 2 0] (sQ (sQ (.TP 16 [ZX 7 0 1,Z0 8 7,YN 9 88 8,ZX 10 1 1,Z0 11 10,YO 12 11,VT 13 3 12 0,Uj 14 116 13 12,ZX 15 1 1,Z0 16 15,YO 17 16,UA 18 3 17 8,Uj 19 116 18 5,⟨some 20,none,some 13,false,.U3 26 1 3 [(iI 0),(iI 0),(iI 0)] [(0,1,(.t 9)),(1,1,(.t 14)),(2,1,(.t 19))]⟩,YN 21 89 20,om 3 21]) (sO [om 22 3,Qq 23 26 22 0] (cT 23 (sO [om 24 3,om 2 24] .ret)))) (sQ (sO [ZX 25 1 1,Z0 26 25,YO 27 26,ZA 28 0] (.block 0 (.loop wo))) (sO [ZA 2 0] .ret))))
theorem k64:Ze 64=some ([.tmp 2],r64):=by kernel_rfl
def wm:RC:=(sQ (sO [om 26 5,ZX 27 6 2,Z0 28 27,YO 29 28,YW 30 3 26 29] (cS 30 (.exit 0))) (sQ (.block 1 (sO [ZX 33 6 2,Z0 34 33,om 35 5,Zk 36 7 34 35,Zr 37 7 36,om 38 1,YT 39 3 38 1,YV 40 86 37 39,Wh 41 40] (cT 41 (sO [Zc 4] .ret)))) (oP [om 31 5,YT 32 3 31 1,om 5 32])))
def r86:RC:=(sO [Zp 2 39 0,Zc 4] (sQ (sO [om 6 1,UA 7 3 6 6,om 8 7,VM 9 8 0 2,XH 10 8 9,oF 11 8 (.wk (.t 10)),zO 12 8 3 11 20,Yo 13 8 12,om 14 13,VM 15 14 5 2,XH 16 14 15,oF 17 14 (.wk (.t 16)),zO 18 14 3 17 40,Yo 19 14 18,om 20 19,VM 21 20 6 2,XH 22 20 21,oF 23 20 (.SW (.t 22)),zO 24 20 3 23 10,Yo 25 20 24] (cT 25 (sO [Zc 4] .ret))) (sQ (sO [ZA 5 0] (.block 0 (.loop wm))) (sO [Un 4] .ret))))
theorem k86:Ze 86=some ([.tmp 4],r86):=by kernel_rfl
def wh:RC:=(sQ (sO [om 5 4,ZX 6 6 1,Z0 7 6,YO 8 7,YW 9 3 5 8] (cS 9 (.exit 0))) (sQ (.block 1 (oP [om 12 3,ZX 13 6 1,Z0 14 13,om 15 4,Zk 16 7 14 15,Zr 17 7 16,YN 18 87 17,TK 19 3 12 18,om 3 19])) (oP [om 10 4,YT 11 3 10 1,om 4 11])))
def r87:RC:=(sO [Zp 1 39 0,ZA 2 0] (sO [ZA 3 1] (sQ (sO [ZA 4 0] (.block 0 (.loop wh))) (sO [om 20 3,om 2 20] .ret))))
theorem k87:Ze 87=some ([.tmp 2],r87):=by kernel_rfl
def r21:RC:=(sO [Zp 2 39 0,Zc 4] (sO [Zr 5 7 2,Uj 6 86 5 1,om 7 6,Tf 8 7 7 2,oT 9 7 (.call 87 [(.t 8)]),YE 10 7 1,oT 11 7 (.bin .leq 3 false (.t 9) (.t 10)),Zj 12 7 11,om 4 12] .ret))
theorem k21:Ze 21=some ([.tmp 4],r21):=by kernel_rfl
def wL:RC:=(sQ (sO [om 10 5,ZX 11 1 2,Z0 12 11,YO 13 12,YW 14 3 10 13] (cS 14 (.exit 0))) (sQ (.block 1 (sO [ZX 17 1 2,Z0 18 17,om 19 5,Zk 20 9 18 19,ZX 21 0 20,Zr 22 7 21,om 23 1,YV 24 21 22 23,Wh 25 24] (cT 25 (sO [Zc 4] .ret)))) (oP [om 15 5,YT 16 3 15 1,om 5 16])))
def r31:RC:=(sO [Zp 2 31 0,Zc 4] (sQ (sO [ZX 6 1 2,Z0 7 6,YO 8 7,UA 9 3 8 10] (cT 9 (sO [Zc 4] .ret))) (sQ (sO [ZA 5 0] (.block 0 (.loop wL))) (sO [Un 4] .ret))))
theorem k31:Ze 31=some ([.tmp 4],r31):=by kernel_rfl
def wg:RC:=(sQ (sO [om 18 4,ZX 19 6 1,Z0 20 19,YO 21 20,YW 22 3 18 21] (cS 22 (.exit 0))) (sQ (.block 1 (.TP 12 [ZX 25 6 3,Z0 26 25,ZX 27 6 1,Z0 28 27,om 29 4,Zk 30 7 28 29,Zr 31 7 30,YN 32 24 31,⟨some 33,none,some 8,false,.U3 48 7 1 [(.str []),(iI 0),(iI 0),(iI 0),(iI 0),(.str []),.ZW] [(0,7,(.t 32))]⟩,⟨some 34,none,none,true,.app 48 7 88 (.t 26) (.t 33)⟩,ZX 35 6 3,⟨none,none,none,true,.st 1 (.t 35) (.t 34)⟩])) (oP [om 23 4,YT 24 3 23 1,om 4 24])))
def r24:RC:=(sO [Zp 1 39 0,Om 2 0 0 0 0 48] (sO [ZX 5 0 1,Z0 6 5,ZX 7 1 1,Z0 8 7,ZX 9 2 1,Z0 10 9,ZX 11 3 1,Z0 12 11,ZX 13 4 1,Z0 14 13,ZX 15 5 1,Z0 16 15,o 17 (.On [(.str []),(iI 0),(iI 0),(iI 0),(iI 0),(.str []),.ZW] [(0,1,(.t 6)),(1,1,(.t 8)),(2,1,(.t 10)),(3,1,(.t 12)),(4,1,(.t 14)),(5,1,(.t 16))]),Om 3 0 0 0 0 48,YU 7 3 17] (sQ (sO [ZA 4 0] (.block 0 (.loop wg))) (sO [Zr 36 7 3,YU 7 2 36] .ret))))
theorem k24:Ze 24=some ([.cell 2 48],r24):=by kernel_rfl
def wx:RC:=(sQ (sO [om 8 4,ZX 9 1 1,Z0 10 9,YO 11 10,YW 12 3 8 11] (cS 12 (.exit 0))) (sQ (.block 1 (.TP 26 [ZX 15 1 3,Z0 16 15,ZX 17 1 1,Z0 18 17,om 19 4,Zk 20 9 18 19,ZX 21 0 20,Zr 22 7 21,YN 23 24 22,ZX 24 1 1,Z0 25 24,om 26 4,Zk 27 9 25 26,ZX 28 7 27,Z0 29 28,ZX 30 1 1,Z0 31 30,om 32 4,Zk 33 9 31 32,ZX 34 8 33,Z0 35 34,o 36 (.On [(.str []),(iI 0),(iI 0),(iI 0),(iI 0),(.str []),.ZW,(iI 0),(iI 0)] [(0,7,(.t 23)),(7,1,(.t 29)),(8,1,(.t 35))]),⟨some 37,none,some 22,false,.U3 144 9 1 [(.str []),(iI 0),(iI 0),(iI 0),(iI 0),(.str []),.ZW,(iI 0),(iI 0)] [(0,9,(.t 36))]⟩,⟨some 38,none,none,true,.app 144 9 104 (.t 16) (.t 37)⟩,ZX 39 1 3,⟨none,none,none,true,.st 1 (.t 39) (.t 38)⟩])) (oP [om 13 4,YT 14 3 13 1,om 4 14])))
def r33:RC:=(sO [Zp 1 31 0,DB 2 0 25] (sO [ZX 5 0 1,Z0 6 5,o 7 (.On [(iI 0),.ZW] [(0,1,(.t 6))]),DB 3 0 25,YU 2 3 7] (sQ (sO [ZA 4 0] (.block 0 (.loop wx))) (sO [Zr 40 2 3,YU 2 2 40] .ret))))
theorem k33:Ze 33=some ([.cell 2 25],r33):=by kernel_rfl
end Go.Am
namespace Go.Am
open Go Go.Proofs
variable [Z4]
set_option maxRecDepth 100000
theorem adu (a:AV)(s:St):Vc U 25 a s=NQ 2 a s:=Rg U aP aO a s
theorem adv (a:AV)(s:St):Vc U 48 a s=NQ 7 a s:=Rg U Ej Ei a s
theorem adw (a:AV)(s:St):Vc U 69 a s=NQ 3 a s:=Rg U aN aM a s
theorem adx (a:AV)(s:St):Vc U 72 a s=NQ 3 a s:=Rg U aL aK a s
theorem aaK (a:AV)(s:St):Vc U 152 a s=NQ 3 a s:=Rg U nN nM a s
theorem nL:YC U 160=some true:=by kernel_rfl
theorem nK:size U 160=some 6:=by kernel_rfl
theorem aaL (a:AV)(s:St):Vc U 160 a s=NQ 6 a s:=Rg U nL nK a s
theorem nJ:YC U 167=some true:=by kernel_rfl
theorem nI:size U 167=some 3:=by kernel_rfl
theorem aaM (a:AV)(s:St):Vc U 167 a s=NQ 3 a s:=Rg U nJ nI a s
theorem aaN (a:AV)(s:St):Vc U 176 a s=NQ 5 a s:=Rg U nH nG a s
theorem AX (x:Option AV)(s:St):SJ false x s=some (undef,s):=(fun h=>h) rfl
theorem AW (X:Cx)(x:Option AV)(f:FuncId)(args:List AV)(s:St):OU X false x f args s=some (undef,s):=(fun h=>h) rfl
theorem xq (X:Cx)(x:Option AV)(f:FuncId)(args:List AV)(s:St):OU X true x f args s=X6 X x f args s:=(fun h=>h) rfl
def St.upto (s:St)(k:Nat):St:={ s with next:=k }
theorem ZT (s:St)(k j:Nat):(s.upto k).get j=s.get j:=(fun h=>h) rfl
theorem Z6 (s:St)(k:Nat):(s.upto k).next=k:=(fun h=>h) rfl
theorem AU {X:Cx}{β:Type}(fin:Fl->β)(ks:List K)(e:Env)(s:St)(n:Nat)(l:List RO):go X fin ks (.TP n l) e s=bif Wm s.next s l then ES X fin ks s.next l e (s.upto (s.next+n)) else stuck X fin ks:=nF X fin ks e s n l
theorem tU {n:Nat}(h:4<=n):U.LK n=none:=by
 rw[LJ];unfold aJ nE
 match n,h with
 |n+4,_=>rfl
def Fr (s:St):Prop:=∀j,s.next<=j->s.get j=none
theorem Fr.at {s:St}(h:Fr s)(k:Nat):s.get (s.next+k)=none:=h _ (by omega)
theorem Fr.own:Fr (X8 U):=fun j hj=>by
 rw[CJ];rw[Hf,He] at hj;exact tU (by omega)
theorem Fr.new {s:St}(h:Fr s)(x:Uy):Fr (s.new x):=fun j hj=>by
 rw[Z_] at hj;rw[Z7,if_neg (by omega)];exact h j (by omega)
theorem Fr.put {s:St}(h:Fr s){k:Nat}(hk:k<s.next)(x:Uy):Fr (s.put k x):=fun j hj=>by
 rw[Z'] at hj;rw[Z9,if_neg (by omega)];exact h j (by omega)
theorem Fr.upto {s:St}(h:Fr s){k:Nat}(hk:s.next<=k):Fr (s.upto k):=fun j hj=>by
 rw[Z6] at hj;rw[ZT];exact h j (by omega)
attribute [go_sem ↓ high] AU
attribute [go_sem ↓] ZT Z6
attribute [go_sem] tU Option.isNone_none
attribute [go_sem ↓] AX AW xq
attribute [go_sem] adu adv adw adx aaK nL nK aaL nJ nI aaM aaN
end Go.Am
namespace Go.Am
open Go
inductive Kd where
 |high|low|Iz|fall|pattern|enter|Vj|gap|idle|setup|Uf|QG|EU|OV|other
 deriving DecidableEq
def ZF (k:XV):Kd :=
 br (k==[104,105,103,104]) .high <|
 br (k==[108,111,119]) .low <|
 br (k==[114,105,115,101]) .Iz <|
 br (k==[102,97,108,108]) .fall <|
 br (k==[112,97,116,116,101,114,110]) .pattern <|
 br (k==[101,110,116,101,114]) .enter <|
 br (k==[112,117,108,115,101]) .Vj <|
 br (k==[103,97,112]) .gap <|
 br (k==[105,100,108,101]) .idle <|
 br (k==[115,101,116,117,112]) .setup <|
 br (k==[114,117,110,116]) .Uf <|
 br (k==[110,111,116]) .QG <|
 br (k==[97,108,108]) .EU <|
 br (k==[97,110,121]) .OV <|
 .other
structure Uses where
 a:Bool
 b:Bool
 mi:Bool
 ma:Bool
 pat:Bool
 kids:Bool
def YQ:Kd->Uses
 |.high|.low|.Iz|.fall=>⟨true,false,false,false,false,false⟩
 |.pattern|.enter=>⟨false,false,false,false,true,false⟩
 |.Vj|.gap=>⟨true,false,true,true,false,false⟩
 |.idle=>⟨true,false,true,false,false,false⟩
 |.setup=>⟨true,true,true,false,false,false⟩
 |.Uf=>⟨true,true,false,false,false,false⟩
 |.QG|.EU|.OV=>⟨false,false,false,false,false,true⟩
 |.other=>⟨false,false,false,false,false,false⟩
def Kd.known:Kd->Bool
 |.other=>false
 |_=>true
def fe (k:XV)(d:Kd):Prop:=ZF k=d/\(k==[104,105,103,104])=decide (d=.high)/\(k==[108,111,119])=decide (d=.low)/\(k==[114,105,115,101])=decide (d=.Iz)/\(k==[102,97,108,108])=decide (d=.fall)/\(k==[112,97,116,116,101,114,110])=decide (d=.pattern)/\(k==[101,110,116,101,114])=decide (d=.enter)/\(k==[112,117,108,115,101])=decide (d=.Vj)/\(k==[103,97,112])=decide (d=.gap)/\(k==[105,100,108,101])=decide (d=.idle)/\(k==[115,101,116,117,112])=decide (d=.setup)/\(k==[114,117,110,116])=decide (d=.Uf)/\(k==[110,111,116])=decide (d=.QG)/\(k==[97,108,108])=decide (d=.EU)/\(k==[97,110,121])=decide (d=.OV)
theorem UN (k:XV):fe k (ZF k):=by
 by_cases e0:k=[104,105,103,104]
 ·subst e0;exact⟨rfl,rfl,rfl,rfl,rfl,rfl,rfl,rfl,rfl,rfl,rfl,rfl,rfl,rfl,rfl⟩
 by_cases e1:k=[108,111,119]
 ·subst e1;exact⟨rfl,rfl,rfl,rfl,rfl,rfl,rfl,rfl,rfl,rfl,rfl,rfl,rfl,rfl,rfl⟩
 by_cases e2:k=[114,105,115,101]
 ·subst e2;exact⟨rfl,rfl,rfl,rfl,rfl,rfl,rfl,rfl,rfl,rfl,rfl,rfl,rfl,rfl,rfl⟩
 by_cases e3:k=[102,97,108,108]
 ·subst e3;exact⟨rfl,rfl,rfl,rfl,rfl,rfl,rfl,rfl,rfl,rfl,rfl,rfl,rfl,rfl,rfl⟩
 by_cases e4:k=[112,97,116,116,101,114,110]
 ·subst e4;exact⟨rfl,rfl,rfl,rfl,rfl,rfl,rfl,rfl,rfl,rfl,rfl,rfl,rfl,rfl,rfl⟩
 by_cases e5:k=[101,110,116,101,114]
 ·subst e5;exact⟨rfl,rfl,rfl,rfl,rfl,rfl,rfl,rfl,rfl,rfl,rfl,rfl,rfl,rfl,rfl⟩
 by_cases e6:k=[112,117,108,115,101]
 ·subst e6;exact⟨rfl,rfl,rfl,rfl,rfl,rfl,rfl,rfl,rfl,rfl,rfl,rfl,rfl,rfl,rfl⟩
 by_cases e7:k=[103,97,112]
 ·subst e7;exact⟨rfl,rfl,rfl,rfl,rfl,rfl,rfl,rfl,rfl,rfl,rfl,rfl,rfl,rfl,rfl⟩
 by_cases e8:k=[105,100,108,101]
 ·subst e8;exact⟨rfl,rfl,rfl,rfl,rfl,rfl,rfl,rfl,rfl,rfl,rfl,rfl,rfl,rfl,rfl⟩
 by_cases e9:k=[115,101,116,117,112]
 ·subst e9;exact⟨rfl,rfl,rfl,rfl,rfl,rfl,rfl,rfl,rfl,rfl,rfl,rfl,rfl,rfl,rfl⟩
 by_cases e10:k=[114,117,110,116]
 ·subst e10;exact⟨rfl,rfl,rfl,rfl,rfl,rfl,rfl,rfl,rfl,rfl,rfl,rfl,rfl,rfl,rfl⟩
 by_cases e11:k=[110,111,116]
 ·subst e11;exact⟨rfl,rfl,rfl,rfl,rfl,rfl,rfl,rfl,rfl,rfl,rfl,rfl,rfl,rfl,rfl⟩
 by_cases e12:k=[97,108,108]
 ·subst e12;exact⟨rfl,rfl,rfl,rfl,rfl,rfl,rfl,rfl,rfl,rfl,rfl,rfl,rfl,rfl,rfl⟩
 by_cases e13:k=[97,110,121]
 ·subst e13;exact⟨rfl,rfl,rfl,rfl,rfl,rfl,rfl,rfl,rfl,rfl,rfl,rfl,rfl,rfl,rfl⟩
 have f0:(k==[104,105,103,104])=false:=beq_eq_false_iff_ne.2 e0;have f1:(k==[108,111,119])=false:=beq_eq_false_iff_ne.2 e1;have f2:(k==[114,105,115,101])=false:=beq_eq_false_iff_ne.2 e2;have f3:(k==[102,97,108,108])=false:=beq_eq_false_iff_ne.2 e3;have f4:(k==[112,97,116,116,101,114,110])=false:=beq_eq_false_iff_ne.2 e4;have f5:(k==[101,110,116,101,114])=false:=beq_eq_false_iff_ne.2 e5;have f6:(k==[112,117,108,115,101])=false:=beq_eq_false_iff_ne.2 e6;have f7:(k==[103,97,112])=false:=beq_eq_false_iff_ne.2 e7;have f8:(k==[105,100,108,101])=false:=beq_eq_false_iff_ne.2 e8;have f9:(k==[115,101,116,117,112])=false:=beq_eq_false_iff_ne.2 e9;have f10:(k==[114,117,110,116])=false:=beq_eq_false_iff_ne.2 e10;have f11:(k==[110,111,116])=false:=beq_eq_false_iff_ne.2 e11;have f12:(k==[97,108,108])=false:=beq_eq_false_iff_ne.2 e12;have f13:(k==[97,110,121])=false:=beq_eq_false_iff_ne.2 e13;have hk:ZF k=.other:=by simp only[ZF,f0,f1,f2,f3,f4,f5,f6,f7,f8,f9,f10,f11,f12,f13,Xv]
 rw[hk];exact⟨hk,f0,f1,f2,f3,f4,f5,f6,f7,f8,f9,f10,f11,f12,f13⟩
def outside (n a b:Int):Bool:=decide (n<a)||decide (n>b)
def MA (s:XV)(lines:Int):Bool:=(s.length:Int) != lines||s.any fun c=>c != 48&&c != 49&&c != 120
mutual
def Mr (lines:Int):Z5->Int->Int
 |.mk kind a b mi ma pat nl kids,depth =>
  let u:=YQ (ZF kind)
  let len:Int:=kids.length
  br (decide (depth>4)) 5 <|
  br (!(ZF kind).known) 13 <|
  br (!u.a&&a != 0||!u.b&&b != 0||!u.mi&&mi != 0||!u.ma&&ma != 0||!u.pat&&!pat==[]||!u.kids&&decide (len>0)) 2 <|
  br (u.a&&outside a 0 (IntKind.i64.wrap (lines-1))||u.b&&outside b 0 (IntKind.i64.wrap (lines-1))) 3 <|
  br (u.b&&a==b) 9 <|
  br (u.mi&&outside mi 1 255||u.ma&&outside ma 1 255) 3 <|
  br (u.ma&&decide (mi>ma)) 11 <|
  br (u.pat&&MA pat lines) 1 <|
  br (kind==[110,111,116]&&len != 1) 2 <|
  br (u.kids&&len==0) 12 <|
  br (u.kids&&decide (len>8)) 5 <|
  Pz lines kids (IntKind.i64.wrap (depth+1))
def Pz (lines:Int):List Z5->Int->Int
 |[],_=>0
 |c::l,depth=>br (Mr lines c depth != 0) (Mr lines c depth) (Pz lines l depth)
end
def XY:List Int->Int
 |[]=>0
 |e::l=>br (e != 0) e (XY l)
def within (n a b:Int):Int:=br (decide (n<a)||decide (n>b)) 3 0
def LH (lines:Int)(pat:XV):Int:=br (MA pat lines) 1 0
mutual
def aE (lines:Int):Z5->Int->Int
 |.mk kind a b mi ma pat nl kids,depth =>
  let u:=YQ (ZF kind)
  let len:Int:=kids.length
  let e0:=XY [br (decide (depth>4)) 5 0,br (!(ZF kind).known) 13 0]
  let e1:=XY [br (!u.a&&a != 0||!u.b&&b != 0||!u.mi&&mi != 0||!u.ma&&ma != 0||!u.pat&&!pat==[]||!u.kids&&decide (len>0)) 2 0,
   br (u.a&&(decide (a<0)||decide (a>=lines))) 3 0,br (u.b&&(decide (b<0)||decide (b>=lines))) 3 0,br (u.b&&a==b) 9 0,
   br (u.mi&&within mi 1 255 != 0) 3 0,br (u.ma&&within ma 1 255 != 0) 3 0,br (u.ma&&decide (mi>ma)) 11 0]
  let e2:=br u.pat (XY [e1,LH lines pat]) e1
  let e3:=br (kind==[110,111,116]) (br (len != 1) 2 0) (XY [br (len==0) 12 0,br (decide (len>8)) 5 0])
  br (e0 != 0) e0 <| br (e2 != 0||!u.kids) e2 <| Ms lines kids (IntKind.i64.wrap (depth+1)) e3
def Ms (lines:Int):List Z5->Int->Int->Int
 |[],_,e=>e
 |c::l,depth,e=>Ms lines l depth (br (e==0) (aE lines c depth) e)
end
theorem F5 (lines depth:Int):∀(l:List Z5) (e:Int),e≠0->Ms lines l depth e=e
 |[],e,h=>by simp[Ms]
 |c::l,e,h=>by
  have:(e==0)=false:=by simp[h]
  rw[Ms,this,Xv,F5 lines depth l e h]
theorem qe:XY []=0:=rfl
theorem vA {p:Bool}{e x:Int}{l:List Int}(h:(e != 0)=true):XY (br p e x::l)=br p e (XY (x::l)):=by
 cases p
 ·rfl
 ·rw[Xo,Xo,XY,h,Xo]
theorem vz (l:List Int):XY (0::l)=XY l:=rfl
theorem dO (F:Int->Int)(hF:∀e,e≠0->F e=e){p:Bool}{e x:Int}(h:(e != 0)=true):F (br p e x)=br p e (F x):=by
 cases p
 ·rfl
 ·rw[Xo,Xo];exact hF _ (by simpa using h)
theorem dN {p:Bool}{e:Int}{x y:Int}(h:(e != 0)=true):br (br p e x != 0) (br p e x) y=br p e (br (x != 0) x y):=by
 cases p
 ·rfl
 ·rw[Xo,Xo,h,Xo]
theorem afj {β:Type}(p q:Bool)(x y:β):br (p||q) x y=br p x (br q x y):=by cases p <;> cases q <;> rfl
theorem SR {β:Type}{p:Bool}{x y y':β}(h:p=false->y=y'):br p x y=br p x y':=by
 cases p
 ·rw[h rfl]
 ·rfl
theorem ze (k:XV):(k==[110,111,116])=decide (ZF k=.QG):=by
 obtain⟨h0,h1,h2,h3,h4,h5,h6,h7,h8,h9,h10,h11,h12,h13,h14⟩:=UN k;exact h12
mutual
theorem aam (lines:Int)(hl:1<=lines)(CM:lines<=16):∀(c:Z5) (depth:Int),aE lines c depth=Mr lines c depth
 |.mk kind a b mi ma pat nl kids,depth=>by
  have ih:=kG lines hl CM kids (IntKind.i64.wrap (depth+1));have hw:IntKind.i64.wrap (lines-1)=lines-1:=wrap_i64 (by omega) (by omega);have ho:∀x:Int,outside x 0 (lines-1)=(decide (x<0)||decide (x>=lines)):=fun x=>by
   have:(x>lines-1)=(x>=lines):=by apply propext;omega
   simp only[outside,this]
  rw[aE,Mr];simp only[hw,ho,ze,<-ih];have hF:=F5 lines (IntKind.i64.wrap (depth+1)) kids;have hF0:decide ((kids.length:Int)>0)=false->0=Ms lines kids (IntKind.i64.wrap (depth+1)) 0:=fun h=>by
   have:kids=[]:=by
    cases kids with
    |nil=>rfl
    |cons c l=>simp at h
   rw[this,Ms]
  generalize Ms lines kids (IntKind.i64.wrap (depth+1))=F at hF hF0;generalize (decide (a<0)||decide (a>=lines))=oa;generalize (decide (b<0)||decide (b>=lines))=ob;have Bi:outside mi 1 255=(within mi 1 255 != 0):=by rw[within,outside];cases decide (mi<1)||decide (mi>255) <;> rfl
  have ny:outside ma 1 255=(within ma 1 255 != 0):=by rw[within,outside];cases decide (ma<1)||decide (ma>255) <;> rfl
  rw[Bi,ny];generalize hK:ZF kind=K
  cases K <;> simp (decide:=true) only[YQ,Kd.known,ama,amp,al9,amq,amf,Bool.or_false,Bool.true_or,Bool.or_true,Xv,Xo,vA,vz,alU,amg,qe,dN,dO F hF,bne_self_eq_false,afj,LH,decide_true,decide_false,reduceCtorEq]
  all_goals repeat' (refine SR fun _=>?_)
  all_goals first|rfl|(apply hF0;assumption)|skip
  rename_i hlen;have hlen:(kids.length:Int)=1:=by simpa using hlen
  rw[hlen];rfl
theorem kG (lines:Int)(hl:1<=lines)(CM:lines<=16):∀(l:List Z5) (depth:Int),Ms lines l depth 0=Pz lines l depth
 |[],_=>by simp[Ms,Pz]
 |c::l,depth=>by
  have ih:=kG lines hl CM l depth;rw[Ms,Pz,aam lines hl CM c depth];simp only[BEq.rfl,Xo]
  cases h:Mr lines c depth != 0
  ·have:Mr lines c depth=0:=by simpa using h
   rw[Xv,this,ih]
  ·rw[Xo,F5]
   simpa using h
end
end Go.Am
namespace Go.Am
open Go
variable [Z4]
set_option maxRecDepth 100000
set_option maxHeartbeats 4000000
theorem ac1 (k:IntKind)(p:Bool)(x y:Int):br p (AV.int k x) (AV.int k y)=.int k (br p x y):=by cases p <;> rfl
theorem ac2 (p:Bool)(x y:XV):br p (AV.str x) (AV.str y)=.str (br p x y):=by cases p <;> rfl
attribute [go_sem] ac1 ac2
theorem aA (n a b:Int):ZE U 94 [.int .i64 n,.int .i64 a,.int .i64 b]=some (.bool (outside n a b)):=by
 refine ZR k94 (by kernel_rfl) rfl ?_;simp +contextual only[go_sem,r94];rfl
theorem c26 (n:Int):ZE U 26 [.int .i64 n]=some (.int .i64 (br (outside n 1 16) 3 0)):=by
 refine ZR k26 (by kernel_rfl) rfl ?_;simp +contextual only[go_sem,r26,aA]
theorem nt (p:Bool)(n:Int):ZE U 116 [.bool p,.int .i64 n]=some (.int .i64 (br p n 0)):=by
 refine ZR aif (by kernel_rfl) rfl ?_;simp +contextual only[go_sem,aen]
theorem aa4 (n a b:Int):ZE U 124 [.int .i64 n,.int .i64 a,.int .i64 b]=some (.int .i64 (within n a b)):=by
 refine ZR aih (by kernel_rfl) rfl ?_;simp +contextual only[go_sem,aeo,nt];rfl
theorem c88 (n:Int):ZE U 88 [.int .i64 n]=some (.int .i64 (within n 1 16)):=by
 refine ZR k88 (by kernel_rfl) rfl ?_;simp +contextual only[go_sem,r88,aa4]
theorem YH {X:Cx}{β:Type}{fin:Fl->β}{ks:List K} [Stat] {b:RC}{σ:Type}(m:σ->Nat)(R:σ->β)(I:σ->Env->St->Prop)(x:σ){r:β}{e:Env}{s:St}
  (h:∀(L:RC) (x:σ) (e:Env) (s:St),I x e s->(∀(y:σ) (e':Env) (s':St),m y<m x->I y e' s'->SD X fin ks L e' s'=R y)->go X fin (.lp L::ks) b e s=R x)
  (hr:R x=r)(hI:I x e s):SD X fin ks b e s=r:=by
 rw[<-hr];exact qQ X fin ks m I R h x hI
theorem YK (l:List Int):(ints l).length=l.length:=by simp[ints]
theorem RM (l:List Int)(i:Nat):(ints l)[i]? = (l[i]?).map (.int .i64 ·):=by simp[ints]
theorem Z8 (a b:Nat):decide ((a:Int)<(b:Int))=decide (a<b):=by congr 1;apply propext;omega
theorem g89 (l:List Int)(hlen:l.length<2^62):go U (Mt U [.tmp 2]) [] r89 (YX 0 [.fz (ints l)] .nil) (X8 U)=some (.int .i64 (XY l)):=by
 simp only[go_sem,r89];refine YH (σ:=Nat) (fun i=>l.length-i) (fun i=>some (AV.int .i64 (XY (l.drop i)))) (fun i e s=>i<=l.length/\Env.get e 5=.fz (ints l)/\Env.get e 6=.int .i64 l.length/\Env.get e 7=.int .i64 i) 0 ?_ rfl ?_
 ·rintro L i e s ⟨hi,h5,h6,h7⟩ ih;by_cases hd:i<l.length
  ·have hx:(ints l)[i]? = some (.int .i64 l[i]):=by rw[RM,aaa hd];rfl
   have hw:IntKind.i64.wrap ((i:Int)+1)=((i+1:Nat):Int):=by rw[wrap_i64] <;> omega
   simp only[go_sem,wM,h5,h6,h7,Z8,hd,hx];rw[abc hd,XY]
   cases hb:l[i] != 0
   ·simp only[go_sem,hw];refine ih (i+1) _ _ (by omega) ⟨by omega,?_,?_,?_⟩ <;> simp only[go_sem,h5,h6]
   ·simp only[go_sem]
  ·have:i=l.length:=by omega
   subst this;simp only[go_sem,wM,h6,h7,Z8,alh];rw[alO];rfl
 ·refine⟨aic _,?_,?_,?_⟩ <;> simp only[go_sem,YK] <;> rfl
def aea (u:Uses):AV:=.agg [.bool u.a,.bool u.b,.bool u.mi,.bool u.ma,.bool u.pat,.bool u.kids]
theorem c95 (k:XV):ZE U 95 [.str k]=some (.XU [aea (YQ (ZF k)),.bool (ZF k).known]):=by
 refine ZR k95 (by kernel_rfl) rfl ?_;obtain⟨h0,h1,h2,h3,h4,h5,h6,h7,h8,h9,h10,h11,h12,h13,h14⟩:=UN k;generalize ZF k=d at *
 cases d
 all_goals simp only[reduceCtorEq,decide_true,decide_false] at h1 h2 h3 h4 h5 h6 h7 h8 h9 h10 h11 h12 h13 h14
 all_goals simp only[go_sem,r95,h1,h2,h3,h4,h5,h6,h7,h8,h9,h10,h11,h12,h13,h14]
 all_goals rfl
theorem Z5.ind {P:Z5->Prop}(h:∀k a b mi ma p nl kids,(∀x∈kids,P x)->P (.mk k a b mi ma p nl kids)):∀c,P c:=by
 intro c;exact Z5.rec (motive_1:=P) (motive_2:=fun l=>∀x∈l,P x) (fun k a b mi ma p nl kids ih=>h k a b mi ma p nl kids ih) (fun x hx=>by cases hx)
  (fun c l h1 h2 x hx=>by
   rcases alL.1 hx with rfl|hx
   ·exact h1
   ·exact h2 x hx) c
theorem Zt (c:Z5):still (Zw c)=true:=by
 cases c;simp[Zw,still,ZU,X7]
theorem YR {nl:Bool}{l:List AV}(h:l≠[]):ZG nl l=.fz l:=by
 cases l with
 |nil=>exact absurd rfl h
 |cons x l=>exact JA ..
theorem XL {l:List Z5}{i:Nat}(h:i<l.length):WW l≠[]:=by
 intro e;have:=Yd l;rw[e] at this;simp at this;omega
def Z5.fits:Z5->Prop
 |.mk _ _ _ _ _ pat _ kids=>pat.length<2^30/\kids.length<2^30/\∀x∈kids,x.fits
theorem Bt (c:UInt8)(n:Int)(d:UInt8)(h:n=(d.toNat:Int)):((c.toNat:Int)==n)=(c==d):=by
 subst h;by_cases e:c=d
 ·subst e;rw[beq_self_eq_true,beq_self_eq_true]
 ·have h1:(c.toNat:Int)≠(d.toNat:Int):=fun h=>e (UInt8.toNat_inj.1 (by omega))
  rw[beq_eq_false_iff_ne.2 h1,beq_eq_false_iff_ne.2 e]
theorem Bs (c:UInt8)(n:Int)(d:UInt8)(h:n=(d.toNat:Int)):((c.toNat:Int) != n)=(c != d):=by
 rw[bne,bne,Bt c n d h]
theorem ZN {i n:Nat}(h:i<n)(hn:n<2^62):IntKind.i64.wrap ((i:Int)+1)=((i+1:Nat):Int):=by rw[wrap_i64] <;> omega
theorem c96 (pat:XV)(n:Int)(hl:pat.length<2^30):ZE U 96 [.str pat,.int .i64 n]=some (.bool (MA pat n)):=by
 refine ZR k96 (by kernel_rfl) rfl ?_;simp +contextual only[go_sem,r96,MA]
 cases hb:(pat.length:Int) != n
 ·simp +contextual only[go_sem,amf];refine YH (σ:=Nat) (fun i=>pat.length-i) (fun i=>some (AV.bool ((pat.drop i).any fun c=>c != 48&&c != 49&&c != 120))) (fun i e s=>i<=pat.length/\Env.get e 0=.str pat/\Env.get e 5=.int .i64 i) 0 ?_ rfl ?_
  ·rintro L i e s ⟨hi,h0,h5⟩ ih;by_cases hd:i<pat.length
   ·have hx:pat[i]? = some pat[i]:=aaa hd;have hw:=ZN hd (by omega);simp +contextual only[go_sem,wq,h0,h5,Z8,hd,hx,Bs _ 48 48 rfl,Bs _ 49 49 rfl,Bs _ 120 120 rfl];rw[abc hd,List.any_cons]
    cases hc:pat[i] != 48&&pat[i] != 49&&pat[i] != 120
    ·rw[amf];simp +contextual only[go_sem,hw,Xv];refine ih (i+1) _ _ (by omega) ⟨by omega,?_,?_⟩ <;> simp +contextual only[go_sem,h0]
    ·simp +contextual only[go_sem,Bool.true_or]
   ·have:i=pat.length:=by omega
    subst this;simp +contextual only[go_sem,wq,h0,h5,Z8,alh];rw[alO];rfl
  ·refine⟨aic _,?_,?_⟩ <;> simp +contextual only[go_sem] <;> rfl
 ·simp +contextual only[go_sem,Bool.true_or]
end Go.Am
namespace Go.Am
open Go
variable [Z4]
set_option maxRecDepth 100000
set_option maxHeartbeats 8000000
theorem T8 (k:IntKind)(p:Bool)(x y:Int):some (AV.int k (br p x y))=br p (some (.int k x)) (some (.int k y)):=by cases p <;> rfl
theorem tK (c:Z5)(a b:Int):ZU [.int .i64 a,Zw c,.int .i64 b]=true:=by simp[ZU,still,Zt]
theorem c27 (lines:Int):∀c:Z5,c.fits->∀depth:Int,ZE U 27 [.int .i64 lines,Zw c,.int .i64 depth]=some (.int .i64 (Mr lines c depth)):=by
 intro c
 induction c using Z5.ind with
 |h kind a b mi ma pat nl kids ih =>
 intro hf depth;rw[Z5.fits] at hf;obtain⟨f1,f2,f3⟩:=hf;refine ZR k27 (by kernel_rfl) (tK _ _ _) ?_;rw[Zw,Mr];simp (maxSteps:=2000000) +contextual only[go_sem,r27,c95,aA,c96 pat _ f1,aea,ZI,Yd];simp only[T8];refine SR fun _=>SR fun _=>SR fun _=>SR fun _=>SR fun _=>SR fun _=>SR fun _=>SR fun _=>SR fun _=>SR fun _=>SR fun _=>?_
 refine YH (σ:=Nat) (fun i=>kids.length-i) (fun i=>some (AV.int .i64 (Pz lines (kids.drop i) (IntKind.i64.wrap (depth+1))))) (fun i e s=>i<=kids.length/\Env.get e 9=.int .i64 i/\Env.get e 0=.int .i64 lines/\Env.get e 2=.int .i64 depth/\Env.get e 4=.ptr 8 0 /\
  s.get 8=some (.cells [.str kind,.int .i64 a,.int .i64 b,.int .i64 mi,.int .i64 ma,.str pat,ZG nl (WW kids)] 39 false 0 0)) 0 ?_ rfl ?_
 ·rintro L i e s ⟨hi,h9,h0,h2,h4,hs⟩ IH;by_cases hd:i<kids.length
  ·have hx:(WW kids)[i]? = some (Zw kids[i]):=by rw[Vb,aaa hd];rfl
   have hw:=ZN hd (by omega);have hc:=ih kids[i] (adm hd) (f3 _ (adm hd)) (IntKind.i64.wrap (depth+1));rw[YR (XL hd)] at hs;rw[ZV] at hx hc;simp only[Z5.cells] at hx hc;simp +contextual only[go_sem,wH,h9,h0,h2,h4,hs,Z8,hd,Yd,hx,hc];rw[abc hd,Pz]
   cases hb:Mr lines kids[i] (IntKind.i64.wrap (depth+1)) != 0
   ·simp only[go_sem,hw];refine IH (i+1) _ _ (by omega) ⟨by omega,?_,?_,?_,?_,?_⟩ <;> simp +contextual only[go_sem,h0,h2,h4,hs,YR (XL hd)]
   ·simp only[go_sem]
  ·have:i=kids.length:=by omega
   subst this;simp +contextual only[go_sem,wH,h9,h4,hs,ZI,Yd,Z8,alh];rw[alO,Pz]
 ·refine⟨aic _,?_,?_,?_,?_,?_⟩ <;> simp +contextual only[go_sem] <;> rfl
def Prog.fits (p:Prog):Prop:=p.steps.length<2^30/\∀s∈p.steps,s.cond.fits
def Zx (l:List Step):List AV:=l.map YL
theorem YY (l:List Step):(Zx l).length=l.length:=by simp[Zx]
theorem Wu (l:List Step)(i:Nat):(Zx l)[i]? = (l[i]?).map YL:=by simp[Zx]
theorem X_ {l:List Step}{i:Nat}(h:i<l.length):Zx l≠[]:=by
 intro e;have:=YY l;rw[e] at this;simp at this;omega
theorem X9 (p:Prog):Vw p=.agg [.int .i64 p.lines,ZG p.nl (Zx p.steps)]:=rfl
theorem X' (p:Prog):still (Vw p)=true:=by simp[Vw,still,ZU,X7]
def Ls (lines:Int):Nat->List Step->Int
 |_,[]=>0
 |i,s::l=>br (Mr lines s.cond 1 != 0) (Mr lines s.cond 1) <|
  br (outside s.times 1 64||outside s.within 0 255||((i:Int)==0)&&s.within != 0) 3 <| Ls lines (i+1) l
def RY (n:Int):Int:=br (outside n 1 16) 3 0
def At (p:Prog):Int :=
 br (RY p.lines != 0) (RY p.lines) <| br ((p.steps.length:Int)==0) 12 <| br (decide ((p.steps.length:Int)>8)) 5 <| Ls p.lines 0 p.steps
theorem c34 (p:Prog)(hf:p.fits):ZE U 34 [Vw p]=some (.int .i64 (At p)):=by
 obtain⟨lines,nl,steps⟩:=p;obtain⟨f1,f2⟩:=hf;simp only at f1 f2;refine ZR k34 (by kernel_rfl) (by simp[ZU,X']) ?_;rw[X9,At,RY];simp (maxSteps:=2000000) +contextual only[go_sem,r34,c26,ZI,YY];simp only[T8];refine SR fun _=>?_
 refine SR fun _=>?_
 refine SR fun _=>?_
 refine YH (σ:=Nat) (fun i=>steps.length-i) (fun i=>some (AV.int .i64 (Ls lines i (steps.drop i)))) (fun i e s=>i<=steps.length/\Env.get e 4=.int .i64 i/\Env.get e 1=.ptr 8 0/\8<s.next /\
  s.get 8=some (.cells [.int .i64 lines,ZG nl (Zx steps)] 31 false 0 0)) 0 ?_ rfl ?_
 ·rintro L i e s ⟨hi,h4,h1,hn,hs⟩ IH;by_cases hd:i<steps.length
  ·have hx:(Zx steps)[i]? = some (YL steps[i]):=by rw[Wu,aaa hd];rfl
   have hw:=ZN hd (by omega);have ZC:¬s.next=8:=by omega
   have hc:=c27 lines steps[i].cond (f2 _ (adm hd)) 1;rw[YR (X_ hd)] at hs;rw[ZV] at hc;simp only[Z5.cells,YL] at hx hc;simp +contextual only[go_sem,w7,h4,h1,hs,Z8,hd,YY,hx,hc,ZC,ZL,aA];rw[abc hd,Ls];simp only[T8];refine SR fun _=>?_
   cases hb:(outside steps[i].times 1 64||outside steps[i].within 0 255||(i:Int)==0&&steps[i].within != 0)
   ·simp only[go_sem,hw];refine IH (i+1) _ _ (by omega) ⟨by omega,?_,?_,?_,?_⟩ <;> simp +contextual only[go_sem,h1,hs,ZC,YR (X_ hd)]
    omega
   ·simp only[go_sem]
  ·have:i=steps.length:=by omega
   subst this;simp +contextual only[go_sem,w7,h4,h1,hs,ZI,YY,Z8,alh];rw[alO,Ls]
 ·refine⟨aic _,?_,?_,?_,?_⟩ <;> simp +contextual only[go_sem] <;> rfl
end Go.Am
namespace Go.Am
open Go
variable [Z4]
set_option maxRecDepth 100000
def aeu:RC:=(sO [Gf 4] (sQ (sO [om 7 0,o 8 (.bin .eql 9 true (.t 7) (.v (.str []))),om 9 8,Yp 10 9 1,oF 11 9 (.bin .eql 9 true (.t 10) (.v (.str []))),Yo 12 9 11] (cT 12 (sO [om 13 0,om 4 13] .ret))) (sQ (sO [om 14 1,MP 15 14,VT 16 3 15 1,om 17 16,YE 18 17 1,oT 19 17 (.sZ (.t 18) (vI 0)),oT 20 17 (.bin .lss 5 true (.t 19) (.v (.int .u8 128))),Zj 21 17 20] (cT 21 (sQ (.TP 8 [om 22 0,om 23 1,o 24 (.sZ (.t 23) (vI 0)),YV 25 238 22 24,om 26 1,o 27 (.sZ (.t 26) (vI 0)),YV 28 237 25 27,om 4 28]) .ret))) (sQ (sO [om 30 1,YN 31 239 30,om 29 31,Zi 32 29 0,Zi 33 29 1,o 5 (.al [bF,bF,bF,bF,bF,bF,bF,bF,bF,bF,bF,bF,bF,bF,bF,bF,bF,bF,bF,bF,bF,bF,bF,bF,bF,bF,bF,bF,bF,bF,bF,bF,bF,bF,bF,bF,bF,bF,bF,bF,bF,bF,bF,bF,bF,bF,bF,bF,bF,bF,bF,bF,bF,bF,bF,bF,bF,bF,bF,bF,bF,bF,bF,bF,bF,bF,bF,bF,bF,bF,bF,bF,bF,bF,bF,bF,bF,bF,bF,bF,bF,bF,bF,bF,bF,bF,bF,bF,bF,bF,bF,bF,bF,bF,bF,bF,bF,bF,bF,bF,bF,bF,bF,bF,bF,bF,bF,bF,bF,bF,bF,bF,bF,bF,bF,bF,bF,bF,bF,bF,bF,bF,bF,bF,bF,bF,bF,bF,bF,bF,bF,bF,bF,bF,bF,bF,bF,bF,bF,bF,bF,bF,bF,bF,bF,bF,bF,bF,bF,bF,bF,bF,bF,bF,bF,bF,bF,bF,bF,bF,bF,bF,bF,bF,bF,bF,bF,bF,bF,bF,bF,bF,bF,bF,bF,bF,bF,bF,bF,bF,bF,bF,bF,bF,bF,bF,bF,bF,bF,bF,bF,bF,bF,bF,bF,bF,bF,bF,bF,bF,bF,bF,bF,bF,bF,bF,bF,bF,bF,bF,bF,bF,bF,bF,bF,bF,bF,bF,bF,bF,bF,bF,bF,bF,bF,bF,bF,bF,bF,bF,bF,bF,bF,bF,bF,bF,bF,bF,bF,bF,bF,bF,bF,bF,bF,bF,bF,bF,bF,bF,bF,bF,bF,bF,bF,bF] 305),YU 256 5 32,om 6 33] (sO [om 34 6] (cT 34 (sO [om 35 0,YV 36 241 35 5,YV 37 240 36 5,om 4 37] .ret)))) (sO [om 38 0,om 39 1,YV 40 243 38 39,om 41 1,YV 42 242 40 41,om 4 42] .ret)))))
theorem ain:Ze 212=some ([.tmp 4],aeu):=by kernel_rfl
def BO:RC:=(sQ (sO [om 5 0,MP 6 5,UA 7 3 6 0] (cS 7 (.exit 0))) (.block 1 (sQ (sO [om 8 1,om 9 0,o 10 (.sZ (.t 9) (vI 0)),YV 11 263 8 10,Wh 12 11] (cT 12 (.exit 0))) (oP [om 13 0,o 14 (.sls (.t 13) (some (vI 1)) none),om 0 14]))))
def ae5:RC:=(sO [Gf 4] (sQ (.block 0 (.loop BO)) (sO [om 15 0,om 4 15] .ret)))
theorem aiS:Ze 240=some ([.tmp 4],ae5):=by kernel_rfl
def B3:RC:=(sQ (sO [om 5 0,MP 6 5,UA 7 3 6 0] (cS 7 (.exit 0))) (.block 1 (sQ (sO [om 8 1,om 9 0,om 10 0,MP 11 10,O8 12 3 11 1,o 13 (.sZ (.t 9) (.t 12)),YV 14 263 8 13,Wh 15 14] (cT 15 (.exit 0))) (oP [om 16 0,om 17 0,MP 18 17,O8 19 3 18 1,o 20 (.sls (.t 16) none (some (.t 19))),om 0 20]))))
def aeq:RC:=(sO [Gf 4] (sQ (.block 0 (.loop B3)) (sO [om 21 0,om 4 21] .ret)))
theorem aij:Ze 241=some ([.tmp 4],aeq):=by kernel_rfl
def ae4:RC:=(sO [Zc 4] (sO [om 5 0,om 6 1,Yb 7 5,o 8 (.aw 256 1 (.t 7) (.t 6)),Z0 9 8,om 4 9] .ret))
theorem aiR:Ze 263=some ([.tmp 4],ae4):=by kernel_rfl
end Go.Am
namespace Go.Am
open Go
variable [Z4]
set_option maxRecDepth 100000
set_option maxHeartbeats 8000000
def Pk:Kd->AV
 |.high=>.fn (.func 194) [] []
 |.low=>.fn (.func 194) [] []
 |.Iz=>.fn (.func 194) [] []
 |.fall=>.fn (.func 194) [] []
 |.pattern=>.fn (.func 194) [] []
 |.enter=>.fn (.func 194) [] []
 |.Vj=>.fn (.func 192) [] []
 |.gap=>.fn (.func 192) [] []
 |.idle=>.fn (.func 193) [] []
 |.setup=>.fn (.func 193) [] []
 |.Uf=>.fn (.func 210) [] []
 |_=>.Wa
def Sh:Kd->AV
 |.high=>.fn (.func 195) [] []
 |.low=>.fn (.func 195) [] []
 |.Iz=>.fn (.func 195) [] []
 |.fall=>.fn (.func 195) [] []
 |.pattern=>.fn (.func 195) [] []
 |.enter=>.fn (.func 195) [] []
 |.Vj=>.fn (.func 195) [] []
 |.gap=>.fn (.func 195) [] []
 |.idle=>.fn (.func 195) [] []
 |.setup=>.fn (.func 208) [] []
 |.Uf=>.fn (.func 195) [] []
 |_=>.Wa
def Pj:Kd->AV
 |.high=>.fn (.func 235) [] [.fp [.fn (.func 197) [] []] 0]
 |.low=>.fn (.func 235) [] [.fp [.fn (.func 199) [] []] 0]
 |.Iz=>.fn (.func 235) [] [.fp [.fn (.func 200) [] []] 0]
 |.fall=>.fn (.func 235) [] [.fp [.fn (.func 202) [] []] 0]
 |.pattern=>.fn (.func 235) [] [.fp [.fn (.func 203) [] []] 0]
 |.enter=>.fn (.func 235) [] [.fp [.fn (.func 205) [] []] 0]
 |.Vj=>.fn (.func 236) [] [.fp [.bool true] 0]
 |.gap=>.fn (.func 236) [] [.fp [.bool false] 0]
 |.idle=>.fn (.func 207) [] []
 |.setup=>.fn (.func 209) [] []
 |.Uf=>.fn (.func 211) [] []
 |_=>.Wa
def Vz (d:Kd):AV:=.agg [.bool (YQ d).a,.bool (YQ d).b,.bool (YQ d).mi,.bool (YQ d).ma,.bool (YQ d).pat,.bool (YQ d).kids,Pk d,Sh d,Pj d]
def Kh:List AV:=[.str [104,105,103,104],.str [108,111,119],.str [114,105,115,101],.str [102,97,108,108],.str [112,97,116,116,101,114,110],.str [101,110,116,101,114],.str [112,117,108,115,101],.str [103,97,112],.str [105,100,108,101],.str [115,101,116,117,112],.str [114,117,110,116],.str [110,111,116],.str [97,108,108],.str [97,110,121]]
def Kg:List AV:=[Vz .high,Vz .low,Vz .Iz,Vz .fall,Vz .pattern,Vz .enter,Vz .Vj,Vz .gap,Vz .idle,Vz .setup,Vz .Uf,Vz .QG,Vz .EU,Vz .OV]
theorem aaJ:ZE U 156 []=some (.fm Kh Kg):=VL (by kernel_rfl) rfl (Za U (n:=100000) (by kernel_rfl))
theorem LL (k:XV)(ok:Bool)(s:St):VK U 238 (.fm Kh Kg) (.str k) ok s=some (if ok then .XU [Vz (ZF k),.bool (ZF k).known] else Vz (ZF k)):=by
 have hu:U.Zd 238=some (.map 9 236):=by kernel_rfl
 have h9:U.Zd 9=some .string:=by kernel_rfl
 have hz:zero U 236=some (Vz .other):=by kernel_rfl
 obtain⟨h0,h1,h2,h3,h4,h5,h6,h7,h8,h9',h10,h11,h12,h13,h14⟩:=UN k;unfold VK;rw[hu];simp only[Uq,h9,if_true,Kh,Kg,List.zip_cons_cons,List.zip_nil_left];generalize ZF k=d at *
 cases d <;> simp only[reduceCtorEq,decide_true,decide_false] at h1 h2 h3 h4 h5 h6 h7 h8 h9' h10 h11 h12 h13 h14 <;>
  simp only[UM,VQ,h1,h2,h3,h4,h5,h6,h7,h8,h9',h10,h11,h12,h13,h14,hz] <;> rfl
def nP (X:Cx)(t:TypeId)(ok:Bool)(m k:Option AV)(s:St):Option (AV×St):=match m,k with
 |some m,some k=>Zm (VK X t m k ok s) s
 |_,_=>none
theorem xu (X:Cx)(ex:Ex)(e:Env)(s:St)(t:TypeId)(m k:Operand)(ok:Bool):YI X ex e (.lookup t m k ok) s=nP X t ok (eval X e m) (eval X e k) s:=by
 unfold nP;simp only[YI];rfl
theorem xt (X:Cx)(t:TypeId)(ok:Bool)(m k:AV)(s:St):nP X t ok (some m) (some k) s=Zm (VK X t m k ok s) s:=(fun h=>h) rfl
theorem ET (k:XV)(s:St):VK U 238 (.fm Kh Kg) (.str k) true s=some (.XU [Vz (ZF k),.bool (ZF k).known]):=LL k true s
theorem M1 (k:XV)(s:St):VK U 238 (.fm Kh Kg) (.str k) false s=some (Vz (ZF k)):=LL k false s
attribute [go_sem] xu xt
def PO:List AV:=(List.range 256).map fun n=>.bool (Nat.beq n 48||Nat.beq n 49||Nat.beq n 120)
theorem AY:PO.length=256:=by simp[PO]
theorem xr:PO.all Zz=true:=by simp[PO,Zz]
theorem nO (c:UInt8):PO[c.toNat]? = some (.bool (c==48||c==49||c==120)):=by
 have hc:c.toNat<256:=c.toNat_lt;have e:∀d:UInt8,Nat.beq c.toNat d.toNat=(c==d):=fun d=>by
  rw[amj,Nat.beq_eq,beq_iff_eq];exact UInt8.toNat_inj
 have e1:=e 48;have e2:=e 49;have e3:=e 120;simp only[PO,alV,List.getElem?_range hc,amo];rw[<-e1,<-e2,<-e3];rfl
theorem aho:ZE U 239 [.str [48,49,120]]=some (.XU [.agg PO,.bool true]):=VL (by kernel_rfl) rfl (Za U (n:=100000) (by kernel_rfl))
theorem abF (b:XV)(k:IntKind)(n:Int):vK (.str b) none (some (.int k n))=if 0<=n/\n<=b.length then some (.str (b.take n.toNat)) else none:=by
 simp only[vK,Yz];by_cases h:0<=n/\n<=b.length
 ·simp[h]
 ·simp[h]
theorem abG (b:XV)(k:IntKind)(n:Int):vK (.str b) (some (.int k n)) none=if 0<=n/\n<=b.length then some (.str (b.drop n.toNat)) else none:=by
 simp only[vK,Yz];by_cases h:0<=n/\n<=b.length
 ·simp[h]
 ·simp[h]
attribute [go_sem] abF abG
theorem aer (c:UInt8):ZE U 263 [.fp PO 0,.int .u8 c.toNat]=some (.bool (c==48||c==49||c==120)):=by
 have hc:c.toNat<256:=c.toNat_lt;have hx:=nO c;have h0:(0:Int)<=(c.toNat:Int):=by omega
 refine ZR aiR (by kernel_rfl) rfl ?_;simp only[go_sem,ae4,hx,hc,ah1,sF]
def Up (c:UInt8):Bool:=c==48||c==49||c==120
def SM (s:XV):XV:=(s.reverse.dropWhile Up).reverse
theorem zK (l:XV)(c:UInt8):SM (l++[c])=bif Up c then SM l else l++[c]:=by
 unfold SM;rw[List.reverse_append,List.reverse_singleton,List.singleton_append,List.dropWhile_cons]
 cases Up c <;> simp
theorem nr (s:XV):((SM s).dropWhile Up==[])=s.all Up:=by
 have h1:∀l:XV,(l.dropWhile Up=[])<->l.all Up=true:=fun l=>by
  induction l with
  |nil=>simp
  |cons c l ih =>
   rw[List.dropWhile_cons,List.all_cons]
   cases h:Up c <;> simp[ih]
 rw[amj,beq_iff_eq,h1];unfold SM;rw[List.all_reverse]
 constructor
 ·intro h;have h2:s.reverse.dropWhile Up=[]:=by
   cases hd:s.reverse.dropWhile Up with
   |nil=>rfl
   |cons c l =>
    exfalso;rw[hd] at h;have:=List.head?_dropWhile_not (p:=Up) (l:=s.reverse);rw[hd] at this;simp only[List.head?_cons] at this;simp only[List.all_cons,agw] at h;simp[h.1] at this
  rw[h1,List.all_reverse] at h2;exact h2
 ·intro h;have:s.reverse.dropWhile Up=[]:=by rw[h1,List.all_reverse];exact h
  rw[this];rfl
theorem aim (s:XV)(hl:s.length<2^30):ZE U 240 [.str s,.fp PO 0]=some (.str (s.dropWhile Up)):=by
 refine ZR aiS (by kernel_rfl) rfl ?_;simp only[go_sem,ae5];refine YH (σ:=XV) (fun x=>x.length) (fun x=>some (AV.str (x.dropWhile Up))) (fun x e s=>Env.get e 0=.str x/\Env.get e 1=.fp PO 0) s ?_ rfl ?_
 ·rintro L x e s ⟨h0,h1⟩ ih
  cases x with
  |nil =>
   simp only[go_sem,BO,h0,gt_iff_lt,Int.natCast_zero,Int.lt_irrefl];rfl
  |cons c l =>
   have hp:(0:Int)<((l.length+1:Nat):Int):=by omega
   have hle:((0:Int)<=1/\(1:Int)<=((l.length+1:Nat):Int)):=by omega
   simp only[go_sem,BO,h0,h1,gt_iff_lt,hp,aer,hle];rw[List.dropWhile_cons]
   cases hc:Up c
   ·have Iu:(c==48||c==49||c==120)=false:=hc;simp only[go_sem,Iu,amp];rfl
   ·have Iu:(c==48||c==49||c==120)=true:=hc;simp only[go_sem,Iu,ama];refine ih l _ _ (by simp) ⟨?_,?_⟩ <;> simp only[go_sem,h1] <;> rfl
 ·refine⟨?_,?_⟩ <;> simp only[go_sem]
theorem Hc {f:FuncId}{us:List AV}{v:AV}(h:ZE U f us=some v)(hp:Me f=true)(Xz:ZU us=true)(hf:flat v=true)(s:St):UR U f (some us) s=some (v,s):=by
 have h:=B4 h (X8 U);obtain⟨p1,p2⟩:=Qk hp;unfold Rl Uk at h;rw[p2] at h;simp only[p1,if_true,Ox,Vf,Xz] at h
 split at h
 ·rename_i w hq
  cases h
  refine X0 U s ?_;unfold Yg at hq ⊢
  split at hq
  ·rename_i v0 s' hB;simp only[if_true] at hq;have:=lU s' _ _ _ hq hf;subst this;simp[hf]
  ·cases hq
 ·cases h
theorem aii (s:XV)(hl:s.length<2^30):ZE U 241 [.str s,.fp PO 0]=some (.str (SM s)):=by
 refine ZR aij (by kernel_rfl) rfl ?_;simp +contextual only[go_sem,aeq];refine YH (σ:=XV) (fun x=>x.length) (fun x=>some (AV.str (SM x))) (fun x e s=>x.length<2^30/\Env.get e 0=.str x/\Env.get e 1=.fp PO 0) s ?_ rfl ?_
 ·rintro L x e s ⟨hx,h0,h1⟩ ih;rcases List.eq_nil_or_concat x with rfl|⟨l,c,rfl⟩
  ·simp +contextual only[go_sem,B3,h0,gt_iff_lt,Int.natCast_zero,Int.lt_irrefl];rfl
  ·rw[List.concat_eq_append] at *;have hlen:(l++[c]).length=l.length+1:=by simp
   have hp:(0:Int)<((l.length+1:Nat):Int):=by omega
   have hw:IntKind.i64.wrap (((l.length+1:Nat):Int)-1)=(l.length:Int):=by rw[wrap_i64] <;> omega
   have hi:(l++[c])[l.length]? = some c:=by simp
   have hle:((0:Int)<=(l.length:Int)/\(l.length:Int)<=((l.length+1:Nat):Int)):=by omega
   have JS:(l++[c]).take l.length=l:=by simp
   simp +contextual only[go_sem,B3,h0,h1,gt_iff_lt,hlen,hp,hw,hi,aer,hle,JS];rw[zK]
   cases hc:Up c
   ·have Iu:(c==48||c==49||c==120)=false:=hc;simp +contextual only[go_sem,Iu,amp]
   ·have Iu:(c==48||c==49||c==120)=true:=hc;simp +contextual only[go_sem,Iu,ama];refine ih l _ _ (by simp) ⟨by omega,?_,?_⟩ <;> simp +contextual only[go_sem,h1]
 ·refine⟨hl,?_,?_⟩ <;> simp +contextual only[go_sem]
theorem zJ:∀(vs c:List AV),vs.length=c.length->lay 0 vs c=some vs
 |[],[],_=>rfl
 |v::vs,x::c,h=>by
  simp only[lay];rw[zJ vs c (by simpa using h)]
theorem v9 (s:XV):(SM s).length<=s.length:=by
 unfold SM;rw[List.length_reverse];refine amA (List.Sublist.length_le (List.dropWhile_sublist _)) ?_;rw[List.length_reverse];exact agB _
theorem lT (s:St)(d:Nat):Y' (Yn U s (d+1)) PO=some PO:=by
 have:∀l:List AV,(∀x∈l,∃b,x=.bool b)->Y' (Yn U s (d+1)) l=some l:=by
  intro l
  induction l with
  |nil=>intro _;rfl
  |cons x l ih =>
   intro h;obtain⟨b,rfl⟩:=h x (aba ..);rw[Y',ih fun y hy=>h y (aab _ hy)];rfl
 refine this _ fun x hx=>?_
 simp only[PO,alN] at hx;obtain⟨n,_,rfl⟩:=hx;exact⟨_,rfl⟩
theorem aik {args:List AV}{s:St}(h:ZU args=false):X6 U (ZE U 241 args) 241 args s=UR U 241 (Y' (Yn U s 40) args) s:=Ke (by kernel_rfl) s h
theorem ail {args:List AV}{s:St}(h:ZU args=false):X6 U (ZE U 240 args) 240 args s=UR U 240 (Y' (Yn U s 40) args) s:=Ke (by kernel_rfl) s h
theorem aes (x:XV)(hl:x.length<2^30)(s:St):UR U 241 (some [.str x,.fp PO 0]) s=some (.str (SM x),s):=Hc (aii x hl) (by kernel_rfl) rfl rfl s
theorem aet (x:XV)(hl:x.length<2^30)(s:St):UR U 240 (some [.str x,.fp PO 0]) s=some (.str (x.dropWhile Up),s):=Hc (aim x hl) (by kernel_rfl) rfl rfl s
theorem ahv (s:XV)(hl:s.length<2^30):ZE U 212 [.str s,.str [48,49,120]]=some (.str ((SM s).dropWhile Up)):=by
 refine ZR ain (by kernel_rfl) rfl ?_;have e0:(([48,49,120]:XV)==[])=false:=rfl;have e4:(((3:Nat):Int)==1)=false:=rfl;have B_:(SM s).length<2^30:=by have:=v9 s;omega
 have hly:∀z:List AV,z.length=256->lay 0 PO z=some PO:=fun z hz=>zJ _ _ (by rw[AY,hz])
 simp (config:={ maxSteps:=1000000 }) +contextual only[go_sem,aeu,e0,e4,amq,Xv,aho,AY,xr,hly,aik,ail,lT,aes s hl,aet _ B_]
 cases s with
 |nil=>rfl
 |cons c s=>rfl
theorem AS (s:XV):(s.any fun c=>c != 48&&c != 49&&c != 120)=!s.all Up:=by
 induction s with
 |nil=>rfl
 |cons c s ih =>
  rw[List.any_cons,List.all_cons,ih,Up];have e:(c != 48&&c != 49&&c != 120)=!(c==48||c==49||c==120):=by
   simp[bne,Bool.and_assoc]
  rw[e]
  cases (c==48||c==49||c==120) <;> rfl
theorem aht (lines:Int)(pat:XV)(hl:pat.length<2^30):ZE U 158 [.int .i64 lines,.str pat]=some (.int .i64 (LH lines pat)):=by
 refine ZR ahu (by kernel_rfl) rfl ?_;simp +contextual only[go_sem,adD,ahv pat hl,nt,nr];rw[LH,MA,AS]
theorem ahw (d:Kd)(k:XV)(a b mi ma:Int)(pat:XV)(nl:Bool)(kids:List Z5) :
  ZE U 157 [Vz d,Zw (.mk k a b mi ma pat nl kids)]=some (.bool (!(YQ d).a&&a != 0||!(YQ d).b&&b != 0||!(YQ d).mi&&mi != 0||!(YQ d).ma&&ma != 0||!(YQ d).pat&&!pat==[]||!(YQ d).kids&&decide ((kids.length:Int)>0))):=by
 have hs:ZU [Pk d,Sh d,Pj d]=true:=by cases d <;> rfl
 have hn:Zz (Pk d)=true/\Zz (Sh d)=true/\Zz (Pj d)=true:=by cases d <;> exact⟨rfl,rfl,rfl⟩
 obtain⟨n1,n2,n3⟩:=hn;simp only[ZU,Bool.and_true,agw] at hs;obtain⟨s1,s2,s3⟩:=hs;refine ZR ahx (by kernel_rfl) (by simp[ZU,still,Vz,Zw,X7,s1,s2,s3]) ?_;rw[Vz,Zw];generalize Pk d=A1 at *;generalize Sh d=A2 at *;generalize Pj d=A3 at *;simp (config:={ maxSteps:=1000000 }) +contextual only[go_sem,adE,ZI,Yd]
theorem ff (l:List Int)(hl:l.length<2^62)(s:St):UR U 89 (some [.fz (ints l)]) s=some (.int .i64 (XY l),s) :=
 Hc (ZR k89 (by kernel_rfl) (by simp[ZU,still]) (g89 l hl)) (by kernel_rfl) (by simp[ZU,still]) rfl s
theorem aaP (a b:Int)(s:St):UR U 89 (some [.fz [.int .i64 a,.int .i64 b]]) s=some (.int .i64 (XY [a,b]),s):=ff [a,b] (by simp) s
theorem aaQ (a b c:Int)(s:St):UR U 89 (some [.fz [.int .i64 a,.int .i64 b,.int .i64 c]]) s=some (.int .i64 (XY [a,b,c]),s):=ff [a,b,c] (by simp) s
theorem aaR (a b c d:Int)(s:St):UR U 89 (some [.fz [.int .i64 a,.int .i64 b,.int .i64 c,.int .i64 d]]) s=some (.int .i64 (XY [a,b,c,d]),s):=ff [a,b,c,d] (by simp) s
theorem aaS (a b c d e f g:Int)(s:St):UR U 89 (some [.fz [.int .i64 a,.int .i64 b,.int .i64 c,.int .i64 d,.int .i64 e,.int .i64 f,.int .i64 g]]) s=some (.int .i64 (XY [a,b,c,d,e,f,g]),s):=ff [a,b,c,d,e,f,g] (by simp) s
theorem z89 {args:List AV}{s:St}(h:ZU args=false):X6 U (ZE U 89 args) 89 args s=UR U 89 (Y' (Yn U s 40) args) s:=Ke (by kernel_rfl) s h
def r37:RC:=(sO [ZA 4 0] (sQ (sO [om 5 0] (cT 5 (sO [om 6 1,om 4 6] .ret))) (sO [ZA 4 0] .ret)))
theorem k37:Ze 37=some ([.tmp 4],r37):=by kernel_rfl
def abn:RC:=(sO [Zp 1 69 0,Tg 2 0 69,ZA 3 0] (sQ (sO [ZX 4 1 1,Z0 5 4,YO 6 5,UA 7 3 6 256] (cT 7 (sO [tu 8 0,YU 3 2 8,ZA 3 5] .ret))) (sO [Zr 9 3 1,YU 3 2 9,ZA 3 0] .ret)))
theorem ael:Ze 103=some ([.cell 2 69,.tmp 3],abn):=by kernel_rfl
noncomputable def r6:RC:=(sO [Zp 1 31 0,Zc 2] (sQ (sO [K5 7 16,Wh 8 7,om 9 8,KW 10 9 2 1,zp 11 9 31 10 12,TM 12 9 11,Yo 13 9 12] (cT 13 (sO [K5 14 16,om 2 14] .ret))) (sO [Zr 15 2 1,YN 16 34 15,om 3 16] (sQ (sO [om 17 3,VT 18 3 17 0] (cT 18 (sO [ZX 19 0 1,Z0 20 19,UA 21 3 20 4,om 22 21,KW 23 22 2 1,oF 24 22 (.call 38 [(.t 23)]),zO 25 22 3 24 65536,Yo 26 22 25,Uj 27 37 26 22,om 3 27] (sO [om 28 3,VT 29 3 28 0,om 30 29,Tf 31 30 2 1,oT 32 30 (.call 39 [(.t 31),(vI 400)]),O7 33 30 32,Zj 34 30 33] (cT 34 (sO [Un 2] .ret)))))) (sO [Zr 36 2 1,YN 37 33 36,YN 38 40 37,om 35 38,Zi 39 35 0,Zi 40 35 1,Tg 4 0 69,YU 3 4 39,om 5 40] (sO [Tg 6 0 72] (sQ (sO [om 41 3,VT 42 3 41 0] (cT 42 (sO [Zr 43 2 1,YN 44 42 43,YN 45 41 44,YU 3 6 45] (oP [ZX 46 1 6,Z0 47 46,YO 48 47,UA 49 3 48 256,Uj 50 37 49 5,om 3 50])))) (sO [Zr 51 3 4,om 52 5,om 53 3,Zr 54 3 6,sK 55 43 51 52 53 54,om 2 55] .ret))))))))
theorem k6:Ze 6=some ([.tmp 2],r6):=by kernel_rfl
noncomputable def r39:RC:=(sO [Zp 2 31 0,Zc 4] (sO [ZX 5 0 2,Z0 6 5,o 7 (.bin .leq 3 true (.t 6) (vI 3)),om 8 7,Tf 9 8 2 2,oT 10 8 (.call 38 [(.t 9)]),YE 11 8 1,oT 12 8 (.bin .leq 3 false (.t 10) (.t 11)),Zj 13 8 12,om 4 13] .ret))
theorem k39:Ze 39=some ([.tmp 4],r39):=by kernel_rfl
noncomputable def r40:RC:=(sO [Zp 1 25 0,Tg 2 0 69,ZA 3 0] (sQ (sO [Zr 5 2 1,YN 6 64 5,om 4 6] (sO [om 7 4,Qq 8 26 7 0] (cT 8 (sO [tu 9 0,om 10 4,YU 3 2 9,om 3 10] .ret)))) (sQ (sO [ZX 11 0 1,Z0 12 11,UA 13 3 12 4,om 14 13,KW 15 14 2 1,oF 16 14 (.call 102 [(.t 15)]),zO 17 14 3 16 65536,Yo 18 14 17] (cT 18 (sO [tu 19 0,YU 3 2 19,ZA 3 22] .ret))) (sO [Zr 20 2 1,YN 21 105 20,YN 22 104 21,YN 23 103 22,Zi 24 23 0,Zi 25 23 1,YU 3 2 24,om 3 25] .ret))))
theorem k40:Ze 40=some ([.cell 2 69,.tmp 3],r40):=by kernel_rfl
noncomputable def BE:RC:=(sQ (sO [om 14 4,ZX 15 1 1,Z0 16 15,YO 17 16,YW 18 3 14 17] (cS 18 (.exit 0))) (sQ (.block 1 (oP [om 21 3,ZX 22 1 1,Z0 23 22,om 24 4,Zk 25 9 23 24,ZX 26 0 25,Zr 27 7 26,YN 28 87 27,TK 29 3 21 28,om 3 29])) (oP [om 19 4,YT 20 3 19 1,om 4 20])))
noncomputable def Ge:RC:=(sQ (sQ (.TP 15 [om 67 13,om 68 5,YO 69 68,YW 70 3 67 69,om 71 70,YE 72 71 5,YE 73 71 13,Qc 74 71 5 72 73,Tf 75 71 5 74,oT 76 71 (.call 110 [(.t 75)]),Tf 77 71 5 11,oT 78 71 (.call 110 [(.t 77)]),WY 79 71 109 76 78,O7 80 71 79,Zj 81 71 80]) (cS 81 (.exit 6))) (.block 7 (oP [om 82 13,YT 83 3 82 1,om 13 83])))
noncomputable def Ce:RC:=(sQ (sO [om 51 10,om 52 8,YO 53 52,YW 54 3 51 53] (cS 54 (.exit 4))) (sQ (.block 5 (sQ (.TP 13 [Zr 58 2 1,om 59 5,om 60 7,Zk 61 5 59 60,Zr 62 5 61,om 63 10,Pa 64 108 58 62 63,om 57 64,Zi 65 57 0,Zi 66 57 1,⟨some 11,none,some 10,false,.al [(iI 0),.ZW,(iI 0),(iI 0),(iI 0)] 176⟩,⟨none,none,none,true,.st 5 (.t 11) (.t 65)⟩,om 12 66]) (sO [ZA 13 0] (sQ (.block 6 (.loop Ge)) (sQ (sO [om 84 13,om 85 5,YO 86 85,ML 87 3 84 86] (cT 87 (oP [om 88 5,Zr 89 5 11,o 90 (.U3 176 5 1 [(iI 0),.ZW,(iI 0),(iI 0),(iI 0)] [(0,5,(.t 89))]),WZ 91 176 5 56 88 90,om 5 91]))) (oP [om 92 8,om 93 10,om 94 9,om 95 10,om 96 13,om 97 12,Zk 98 1 92 93,YU 1 98 96,Zk 99 1 94 95,YU 1 99 97])))))) (oP [om 55 10,YT 56 3 55 1,om 10 56])))
noncomputable def B6:RC:=(sQ (sO [om 37 7,om 38 5,YO 39 38,YW 40 3 37 39] (cS 40 (.exit 2))) (sQ (.block 3 (sO [ZX 43 0 1,Z0 44 43,MS 45 3 1 44,Lg 46 40 45 45,om 8 46] (sO [ZX 47 0 1,Z0 48 47,MS 49 3 1 48,Lg 50 43 49 49,om 9 50] (sQ (sO [ZA 10 0] (.block 4 (.loop Ce))) (sO [ZX 100 1 6,Z0 101 100,om 102 8,o 103 (.U3 40 1 1 [.ZW] [(0,1,(.t 102))]),WZ 104 40 1 24 101 103,ZX 105 1 6,YU 1 105 104] (oP [ZX 106 2 6,Z0 107 106,om 108 9,o 109 (.U3 43 1 1 [.ZW] [(0,1,(.t 108))]),WZ 110 43 1 24 107 109,ZX 111 2 6,YU 1 111 110])))))) (oP [om 41 7,YT 42 3 41 1,om 7 42])))
noncomputable def r42:RC:=(sO [Zp 1 31 0,Tg 2 0 72] (sO [ZA 3 0] (sQ (sO [ZA 4 0] (.block 0 (.loop BE))) (sO [om 30 3,Lg 31 40 30 30,o 32 (.On [(iI 0),.ZW,(iI 0),(iI 0),(iI 0)] [(0,1,(vI (-1))),(1,1,(.t 31))]),o 33 (.U3 176 5 1 [(iI 0),.ZW,(iI 0),(iI 0),(iI 0)] [(0,5,(.t 32))]),om 5 33] (sO [ZX 34 0 1,Z0 35 34,tw 36 0 0 1 35,Tg 6 0 72,YU 3 6 36] (sQ (sO [ZA 7 0] (.block 2 (.loop B6))) (sO [Zr 112 3 6,YU 3 2 112] .ret)))))))
theorem k42:Ze 42=some ([.cell 2 72],r42):=by kernel_rfl
noncomputable def Hu:RC:=(sO [YW 49 3 48 47] (sQ (cS 49 (.exit 2)) (sQ (.block 3 (sO [om 50 48,om 13 50] (sO [om 51 13,ZX 52 4 10,Z0 53 52,ZX 54 4 10,Z0 55 54,DP 56 3 55 0,o 57 (.On [(iI 0),(iI 0),bF] [(0,1,(.t 51)),(1,1,(.t 53)),(2,1,(.t 56))]),o 14 (.al [(iI 0),(iI 0),bF] 158),YU 3 14 57] (sQ (sO [ZX 58 2 14,Z0 59 58] (cT 59 (oP [om 60 13,ZX 61 1 14,YU 1 61 60]))) (sO [Zr 63 3 3,ZX 64 0 10,Z0 65 64,Zr 66 3 14,Pa 67 93 63 65 66,om 62 67,Zi 68 62 0,Zi 69 62 1,om 15 68,om 16 69] (sO [Zr 71 2 1,ZX 72 1 10,Zr 73 3 72,om 74 16,Pa 75 99 71 73 74,om 70 75,Zi 76 70 0,Zi 77 70 1,o 17 (.al [(iI 0),(iI 0),(iI 0)] 167),YU 3 17 76,om 18 77] (oP [om 78 11,om 79 7,om 80 15,Zr 81 3 17,om 82 13,o 83 (.On [.ZW,(iI 0),(iI 0),(iI 0),(iI 0)] [(0,1,(.t 80)),(1,3,(.t 81)),(4,1,(.t 82))]),zo 84 79 83,RQ 85 3 1 1 0 0 1 84,WZ 86 3 1 8 78 85,om 87 12,om 88 18,o 89 (.U3 4 1 1 [bF] [(0,1,(.t 88))]),WZ 90 4 1 1 87 89,om 11 86,om 12 90]))))))) (oP [YT 91 3 48 1,om 48 91]))))
noncomputable def xi:Code:=KQ 105 0
theorem aaX:O_ U xi=some (14,[(o 92 (.fa 1 (.t 8)),none),
 (o 93 (.SL (.t 92)),none),
 (om 94 11,none),
 (⟨some 95,none,some 3,false,.U3 40 1 1 [.ZW] [(0,1,(.t 94))]⟩,none),
 (⟨some 96,none,none,true,.app 40 1 24 (.t 93) (.t 95)⟩,none),
 (o 97 (.fa 2 (.t 8)),none),
 (o 98 (.SL (.t 97)),some (0,1)),
 (om 99 12,none),
 (⟨some 100,none,some 8,false,.U3 43 1 1 [.ZW] [(0,1,(.t 99))]⟩,none),
 (⟨some 101,none,none,true,.app 43 1 24 (.t 98) (.t 100)⟩,none),
 (o 102 (.fa 1 (.t 8)),none),
 (⟨none,none,none,true,.st 1 (.t 102) (.t 96)⟩,none),
 (o 103 (.fa 2 (.t 8)),none),
 (⟨none,none,none,true,.st 1 (.t 103) (.t 101)⟩,none)]):=by kernel_rfl
noncomputable def Ia:RC:=(sQ (sO [om 35 9,Z0 36 6,YO 37 36,YW 38 3 35 37] (cS 38 (.exit 0))) (sQ (.block 1 (sO [Z0 41 6,om 42 9,Zk 43 5 41 42,Zr 44 5 43,o 10 (.al [.ZW,(iI 0),(iI 0),(iI 0),(iI 0)] 254),YU 5 10 44] (sO [VR 11] (sO [VR 12] (sQ (sO [ZX 45 0 1,Z0 46 45,MS 47 3 1 46,ZA 48 0] (.block 2 (.loop Hu))) (.raw xi)))))) (oP [om 39 9,YT 40 3 39 1,om 9 40])))
noncomputable def afA:RC:=(sO [Zp 1 25 0,Tg 2 0 69] (sO [Zr 20 2 1,YN 21 98 20,YN 22 92 21,om 19 22,Zi 23 19 0,Zi 24 19 1,o 3 (.al [.ZW,.ZW,.ZW] 152),YU 3 3 23,om 4 24] (sO [o 25 (.raw (.makeMap 251 none)),o 5 (.al [.PG] 251),YU 1 5 25] (sO [o 6 (.al [.ZW] 252)] (sO [o 26 (.mkf 174 [] [(.t 5),(.t 6)]),om 7 26] (sO [om 27 7,om 28 4,o 29 (.On [(iI 0),(iI 0),(iI 0)] []),o 30 (.On [.ZW,(iI 0),(iI 0),(iI 0),(iI 0)] [(0,1,(.t 28)),(1,3,(.t 29)),(4,1,(vI (-1)))]),zo 31 27 30] (sO [ZX 32 0 1,Z0 33 32,tw 34 0 0 1 33,Tg 8 0 69,YU 3 8 34] (sQ (sO [ZA 9 0] (.block 0 (.loop Ia))) (sO [Zr 104 3 8,YU 3 2 104] .ret)))))))))
theorem ajn:Ze 105=some ([.cell 2 69],afA):=by kernel_rfl
noncomputable def Ht:RC:=(sQ (sO [om 25 11,ZX 26 1 3,Z0 27 26,YO 28 27,YW 29 3 25 28] (cS 29 (.exit 0))) (sQ (.block 1 (sQ (.TP 18 [ZX 33 1 3,Z0 34 33,om 35 11,Zk 36 9 34 35,ZX 37 0 36,Zr 38 7 37,om 39 10,ZX 40 0 4,Z0 41 40,om 42 2,sK 43 176 38 39 41 42,om 32 43,Zi 44 32 0,Zi 45 32 1,Zi 46 32 2,om 12 44,om 13 45,om 14 46]) (sO [om 47 8,om 48 12,o 49 (.U3 4 1 1 [bF] [(0,1,(.t 48))]),WZ 50 4 1 1 47 49,om 51 14,om 8 50,om 10 51] (oP [ZX 52 1 9,Z0 53 52,om 54 13,WZ 55 3 1 8 53 54,ZX 56 1 9,YU 1 56 55])))) (oP [om 30 11,YT 31 3 30 1,om 11 31])))
noncomputable def JB:RC:=(sQ (sO [om 82 8,ZX 83 2 9,Z0 84 83,Zk 85 1 82 84,Z0 86 85,Wh 87 86] (cT 87 (sO [Zr 88 5 9,YU 5 6 88,Zc 7] .ret))) (sO [ZX 89 3 9,Z0 90 89,YT 91 3 90 1,ZX 92 3 9,YU 1 92 91] (sQ (sQ (.TP 10 [ZX 93 3 9,Z0 94 93,ZX 95 1 3,Z0 96 95,ZX 97 2 9,Z0 98 97,Zk 99 9 96 98,ZX 100 7 99,Z0 101 100,YW 102 3 94 101]) (cT 102 (sO [Zr 103 5 9,YU 5 6 103,Zc 7] .ret))) (sO [ZX 104 2 9,Z0 105 104,YT 106 3 105 1,ZX 107 2 9,YU 1 107 106,ZX 108 3 9,Gg 1 108 0,ZX 109 4 9,Gg 1 109 0] (sQ (sO [ZX 110 2 9,Z0 111 110,ZX 112 1 3,Z0 113 112,YO 114 113,ML 115 3 111 114] (cT 115 (sO [ZX 116 2 9,Gg 1 116 0] (sO [Zr 117 5 9,YU 5 6 117,Un 7] .ret)))) (sO [Zr 118 5 9,YU 5 6 118,Zc 7] .ret))))))
noncomputable def F1:RC:=(sQ (sO [ZX 57 1 3,Z0 58 57,ZX 59 2 9,Z0 60 59,Zk 61 9 58 60,ZX 62 8 61,Z0 63 62,UA 64 3 63 0] (cT 64 (sO [ZX 65 4 9,Z0 66 65,YT 67 3 66 1,ZX 68 4 9,YU 1 68 67] (sQ (.TP 10 [ZX 69 4 9,Z0 70 69,ZX 71 1 3,Z0 72 71,ZX 73 2 9,Z0 74 73,Zk 75 9 72 74,ZX 76 8 75,Z0 77 76,o 78 (.bin .gtr 3 false (.t 70) (.t 77))]) (cT 78 (oP [ZX 79 2 9,Gg 1 79 0,ZX 80 3 9,Gg 1 80 0,ZX 81 4 9,Gg 1 81 0])))))) JB)
noncomputable def abY:RC:=(sO [Zp 3 31 0,Zp 4 176 1,o 6 (.al [(iI 0),.ZW,(iI 0),(iI 0),(iI 0)] 176),Zc 7] (sO [VR 8] (sO [om 15 2,ZX 16 2 4,Z0 17 16,ZX 18 3 4,Z0 19 18,ZX 20 4 4,Z0 21 20,o 22 (.On [(iI 0),.ZW,(iI 0),(iI 0),(iI 0)] [(0,1,(.t 15)),(2,1,(.t 17)),(3,1,(.t 19)),(4,1,(.t 21))]),o 9 (.al [(iI 0),.ZW,(iI 0),(iI 0),(iI 0)] 176),YU 5 9 22] (sO [ZX 23 1 4,Z0 24 23,om 10 24] (sQ (sO [ZA 11 0] (.block 0 (.loop Ht))) F1)))))
theorem afB:Ze 108=some ([.cell 6 176,.tmp 7],abY):=by kernel_rfl
noncomputable def abZ:RC:=(sO [Zp 1 176 0,VR 2] (sO [ZX 3 0 1,Z0 4 3,ZX 5 2 1,Z0 6 5,ZX 7 3 1,Z0 8 7,ZX 9 4 1,Z0 10 9,o 11 (.U3 3 1 4 [(iI 0),(iI 0),(iI 0),(iI 0)] [(0,1,(.t 4)),(1,1,(.t 6)),(2,1,(.t 8)),(3,1,(.t 10))]),ZX 12 1 1,Z0 13 12,WZ 14 3 1 8 11 13,om 2 14] .ret))
theorem afC:Ze 110=some ([.tmp 2],abZ):=by kernel_rfl
noncomputable def ab0:RC:=(sO [Zp 3 254 0,ZA 4 0] (sO [ZX 8 0 3,Z0 9 8,ZX 10 1 3,Zr 11 3 10,ZX 12 4 3,Z0 13 12,Pa 14 175 9 11 13,om 5 14] (sO [Z0 16 1,om 17 5,o 18 (.raw (.lookup 251 (.tmp 16) (.tmp 17) true)),om 15 18,Zi 19 15 0,Zi 20 15 1,om 6 19,om 7 20] (sQ (sO [om 21 7,Wh 22 21] (cT 22 (sO [Z0 23 2,YO 24 23,om 6 24] (sO [Z0 25 1,om 26 5,om 27 6,k_ 251 25 26 27] (oP [Z0 28 2,Zr 29 5 3,o 30 (.U3 254 5 1 [.ZW,(iI 0),(iI 0),(iI 0),(iI 0)] [(0,5,(.t 29))]),WZ 31 254 5 56 28 30,YU 1 2 31]))))) (sO [om 32 6,om 4 32] .ret)))))
theorem afD:Ze 174=some ([.tmp 4],ab0):=by kernel_rfl
noncomputable def K9:RC:=(sO [YW 22 3 21 20] (sQ (cS 22 (.exit 0)) (sQ (.block 1 (sO [Zk 23 1 19 21,Z0 24 23,om 9 24] (sO [om 25 9,YN 26 127 25,YV 27 131 7 26] (oP [o 28 (.call 130 [(.t 7),(.v (.int .u8 32))])])))) (oP [YT 29 3 21 1,om 21 29]))))
noncomputable def ez:RC:=(sO [Zp 4 167 1,Gf 6] (sO [o 7 (.al [.Vk,.ZW] 207)] (sQ (sO [ZX 10 0 4,Z0 11 10,ZX 12 1 4,Z0 13 12,ZX 14 2 4,Z0 15 14,om 16 2,o 17 (.U3 3 1 4 [(iI 0),(iI 0),(iI 0),(iI 0)] [(0,1,(.t 11)),(1,1,(.t 13)),(2,1,(.t 15)),(3,1,(.t 16))]),om 18 0,WZ 19 3 1 8 17 18,YO 20 19,ZA 21 0] (.block 0 (.loop K9))) (sO [YN 30 133 7,om 6 30] .ret))))
theorem aeh:Ze 175=some ([.tmp 6],ez):=by kernel_rfl
noncomputable def KK:RC:=(sQ (sO [om 190 20,ZX 191 6 4,Z0 192 191,YO 193 192,YW 194 3 190 193] (cS 194 (.exit 1))) (sQ (.block 2 (sO [ZX 198 6 4,Z0 199 198,om 200 20,Zk 201 7 199 200,Zr 202 7 201,om 203 13,om 204 2,om 205 3,sK 206 176 202 203 204 205,om 197 206,Zi 207 197 0,Zi 208 197 1,Zi 209 197 2,om 21 207,om 22 208,om 23 209] (sQ (sO [om 210 21] (cT 210 (oP [om 211 18,YT 212 3 211 1,om 18 212]))) (oP [om 213 19,om 214 22,WZ 215 3 1 8 213 214,om 216 23,om 19 215,om 13 216])))) (oP [om 195 20,YT 196 3 195 1,om 20 196])))
noncomputable def vO:RC:=(sO [Zr 247 7 4,om 248 11,om 249 3,o 250 (.U3 3 1 2 [(iI 0),(iI 0)] [(0,1,(.t 248)),(1,1,(.t 249))]),o 251 (.call 97 [(.t 247),(.t 250),(vI 1)]),o 252 (.U3 3 1 1 [(iI 0)] [(0,1,(vI 0))]),om 253 13,om 8 251,om 9 252,om 10 253] .ret)
noncomputable def Ps:RC:=(sO [TY 186 9 43 110 111 116,om 185 186] (cS 185 (sO [TY 187 9 43 97 108 108,om 185 187] (cS 185 (oP [TY 188 9 43 97 110 121,om 185 188])))))
noncomputable def Rw:RC:=(sO [Q6 153 9 43 114 117 110 116,om 152 153] (cO 152 (sO [om 154 12,om 17 154] (sQ (sO [om 155 3,ZX 156 1 4,Z0 157 156,YV 158 164 155 157,VT 159 3 158 0] (cO 159 (oP [ZA 17 0]) (sO [om 160 2,DP 161 3 160 0,om 162 161,Yp 163 162 3,VM 164 162 2 4,XH 165 162 164,KX 166 162 164 163 165,oF 167 162 (.bin .eql 3 true (.t 166) (vI 1)),Yo 168 162 167] (cO 168 (oP [ZA 17 2]) (sO [om 169 14] (cT 169 (oP [ZA 17 1]))))))) (sO [om 170 14,om 171 170,YE 172 171 3,Zb 173 171 1 4,YJ 174 171 173,WY 175 171 164 172 174,TL 176 171 3 175 0,Zj 177 171 176,om 178 177,YE 179 178 12,TL 180 178 3 179 1,Zj 181 178 180,om 182 17,RQ 183 3 1 1 0 0 1 182,om 184 13,om 8 181,om 9 183,om 10 184] .ret))) (sQ Ps (cT 185 (sO [ZA 18 0] (sO [o 189 (.U3 3 1 1 [(iI 0)] [(0,1,(vI 0))]),om 19 189] (sQ (sO [ZA 20 0] (.block 1 (.loop KK))) (sO [ZX 217 0 4,Z0 218 217,TY 219 9 218 110 111 116,om 220 219,YE 221 220 18,TL 222 220 3 221 0,Zj 223 220 222,om 224 223,VM 225 224 0 4,XH 226 224 225,zl 227 224 9 226 97 108 108,Yp 228 224 227,YE 229 228 18,Zb 230 228 6 4,YJ 231 228 230,Gu 232 228 231,Ja 233 228 3 229 232,Td 234 224 228 233,Yo 235 224 234,om 236 235,VM 237 236 0 4,XH 238 236 237,zl 239 236 9 238 97 110 121,Yp 240 236 239,YE 241 240 18,DC 242 240 3 241 0,Td 243 236 240 242,Yo 244 236 243,om 245 19,om 246 13,om 8 244,om 9 245,om 10 246] .ret))))))))
noncomputable def TB:RC:=(sO [MQ 117 9 43 115 101 116 117 112,om 116 117] (cO 116 (sO [ZA 16 0] (sQ (sO [om 118 14] (cT 118 (oP [ZA 16 1]))) (sQ (sO [om 119 14,Wh 120 119,om 121 120,YE 122 121 12,DC 123 121 3 122 0,Zj 124 121 123,om 125 124,YE 126 125 12,Zb 127 125 3 4,YJ 128 125 127,oT 129 125 (.bin .lss 3 false (.t 126) (.t 128)),Zj 130 125 129] (cT 130 (oP [om 131 12,YT 132 3 131 1,om 16 132]))) (sO [om 133 16,UA 134 3 133 0,om 135 134,YE 136 135 3,Zb 137 135 2 4,YJ 138 135 137,WY 139 135 164 136 138,TL 140 135 3 139 1,Zj 141 135 140,om 142 141,YE 143 142 11,Zb 144 142 2 4,YJ 145 142 144,WY 146 142 164 143 145,TL 147 142 3 146 0,Zj 148 142 147,om 149 16,RQ 150 3 1 1 0 0 1 149,om 151 13,om 8 148,om 9 150,om 10 151] .ret)))) Rw))
noncomputable def Us:RC:=(sO [Q6 97 9 43 105 100 108 101,om 96 97] (cO 96 (sO [om 98 12,YT 99 3 98 1,ZX 100 3 4,Z0 101 100,YT 102 3 101 1,zk 103 99 102 3 3,om 15 103] (sQ (sO [om 104 2,DP 105 3 104 0,om 106 105,Yp 107 106 14,Yo 108 106 107] (cT 108 (oP [ZA 15 1]))) (sO [om 109 15,ZX 110 3 4,Z0 111 110,ML 112 3 109 111,om 113 15,RQ 114 3 1 1 0 0 1 113,om 115 13,om 8 112,om 9 114,om 10 115] .ret))) TB))
noncomputable def U4:RC:=(sO [TY 71 9 43 103 97 112,om 70 71] (cO 70 (sQ (.TP 27 [om 72 14,om 73 72,YE 74 73 3,Zb 75 73 1 4,YJ 76 73 75,WY 77 73 164 74 76,TL 78 73 3 77 1,Zj 79 73 78,om 80 79,YE 81 80 12,Zb 82 80 3 4,YJ 83 80 82,Zb 84 80 4 4,YJ 85 80 84,sI 86 80 94 81 83 85,O7 87 80 86,Zj 88 80 87,Zr 89 7 4,om 90 12,om 91 2,om 92 3,o 93 (.call 218 [(.t 89),(.t 90),(.t 91),(.t 92),(vI 0)]),⟨some 94,none,some 22,false,.U3 3 1 1 [(iI 0)] [(0,1,(.t 93))]⟩,om 95 13,om 8 88,om 9 94,om 10 95]) .ret) Us))
noncomputable def Pu:RC:=(sO [Zp 4 39 0,Zc 8,VR 9,VR 10] (sO [om 24 2,om 11 24] (sQ (sO [om 25 2,DP 26 3 25 0] (cT 26 (oP [om 27 3,om 11 27]))) (sQ (.TP 7 [om 28 1,o 29 (.Jb 1 (.t 28) (vI 0)),Z0 30 29,om 31 1,o 32 (.sll 1 (.t 31) (some (vI 1)) none),om 12 30,om 13 32]) (sQ (.TP 10 [om 33 3,ZX 34 1 4,Z0 35 34,YV 36 164 33 35,om 37 11,ZX 38 1 4,Z0 39 38,YV 40 164 37 39,OD 41 3 36 40,om 14 41]) (sQ (sO [ZX 42 0 4,Z0 43 42] (.block 0 (sO [MQ 45 9 43 112 117 108 115 101,om 44 45] (cO 44 (sQ (.TP 27 [om 46 14,om 47 46,YE 48 47 3,Zb 49 47 1 4,YJ 50 47 49,WY 51 47 164 48 50,TL 52 47 3 51 0,Zj 53 47 52,om 54 53,YE 55 54 12,Zb 56 54 3 4,YJ 57 54 56,Zb 58 54 4 4,YJ 59 54 58,sI 60 54 94 55 57 59,O7 61 54 60,Zj 62 54 61,Zr 63 7 4,om 64 12,om 65 2,om 66 3,o 67 (.call 218 [(.t 63),(.t 64),(.t 65),(.t 66),(vI 1)]),⟨some 68,none,some 22,false,.U3 3 1 1 [(iI 0)] [(0,1,(.t 67))]⟩,om 69 13,om 8 62,om 9 68,om 10 69]) .ret) U4)))) vO))))))
theorem abC:Ze 176=some ([.tmp 8,.tmp 9,.tmp 10],Pu):=by kernel_rfl
noncomputable def aeT:RC:=(sO [Zp 5 39 0,ZA 10 0] (sQ (sO [om 11 3,ZX 12 1 5,Z0 13 12,YV 14 164 11 13,om 15 4,OD 16 3 14 15] (cT 16 (sO [ZA 10 0] .ret))) (sQ (sO [om 17 2,DP 18 3 17 0,om 19 18,Yp 20 19 1,oF 21 19 (.bin .lss 3 true (.t 20) (vI 0)),Yo 22 19 21] (cT 22 (sO [o 10 (.O9 (vI (-1)))] .ret))) (sO [om 23 1,YT 24 3 23 1,ZX 25 4 5,Z0 26 25,YT 27 3 26 1,zk 28 24 27 3 3,om 10 28] .ret))))
theorem aiQ:Ze 218=some ([.tmp 10],aeT):=by kernel_rfl
def abi:RC:=(sO [ZA 4 0,o 5 (.O9 (.v .TO))] (sO [om 6 0,YN 7 182 6] (sO [om 8 0,om 9 0,Yb 10 9,ZX 11 1 10,Z0 12 11,om 13 1,WZ 14 5 1 1 12 13,Yb 15 8,ZX 16 1 15,YU 1 16 14] (sO [om 17 1,MP 18 17,om 4 18,o 5 (.O9 (.v .TO))] .ret))))
theorem aef:Ze 131=some ([.tmp 4,.tmp 5],abi):=by kernel_rfl
def acy:RC:=(sO [Gf 2] (sQ (.TP 12 [om 3 0,Yb 4 3,ZX 5 1 4,Z0 6 5,o 7 (.raw (.call { callee:=.builtin .unsafeSliceData,args:=#[(.tmp 6)],argTypes:=#[205] })),om 8 0,Yb 9 8,ZX 10 1 9,Z0 11 10,YO 12 11,⟨some 13,none,none,true,.raw (.call { callee:=.builtin .unsafeString,args:=#[(.tmp 7),(.tmp 12)],argTypes:=#[269,3] })⟩,om 2 13]) .ret))
theorem afU:Ze 133=some ([.tmp 2],acy):=by kernel_rfl
def afV:RC:=(sO [Gf 2] (sO [om 3 0,YN 4 267 3,om 2 4] .ret))
theorem ajG:Ze 244=some ([.tmp 2],afV):=by kernel_rfl
def afW:RC:=(sO [Gf 2] (sQ (sO [om 3 0] (cT 3 (sO [o 2 (.O9 (.v (.str [116,114,117,101])))] .ret))) (sO [o 2 (.O9 (.v (.str [102,97,108,115,101])))] .ret)))
theorem ajH:Ze 267=some ([.tmp 2],afW):=by kernel_rfl
end Go.Am
namespace Go.Am
open Go
variable [Z4]
set_option maxRecDepth 100000
section
variable (X:Cx)
def ix (len:Nat)(x:Option (List AV)):Option (Nat×List AV):=match x with
 |some r=>some (len,r)
 |none=>none
def bH (len k o:Nat)(x:Option (List AV)):Option (Nat×List AV):=match x with
 |some c=>ix len (XA k o c)
 |none=>none
theorem oM (len:Nat)(r:List AV):ix len (some r)=some (len,r):=(fun h=>h) rfl
theorem oL (len k o:Nat)(c:List AV):bH len k o (some c)=ix len (XA k o c):=(fun h=>h) rfl
theorem Da (n b o len:Nat)(cap:Option Nat)(z:Nat)(s:St):Wc n (.sl b o len cap z) s=bH len (len*n) o (cellsOf (s.get b)):=by
 simp only[Wc,<-Nl,bH,ix];rfl
def iw (t:TypeId)(n m:Nat)(new:List AV)(b o len:Nat)(VH:Nat)(s:St)(x:Option Uy):Option (AV×St):=match x with
 |some (.cells c e0 false OM PF)=>match XA (len*n) o c with
  |some old=>if VH=n/\PF<=o+len*n/\e0=t/\new.all Zz=true then
    some (.sl s.next 0 (len+m) none n,(s.put b .gone).new (.cells (old++new) t false (OM-o) (PF-o)))
   else none
  |none=>none
 |_=>none
def Rx (t:TypeId)(n m:Nat)(new:List AV)(d:AV)(s:St):Option (AV×St):=match d with
 |.ZW=>some (.sl s.next 0 m none n,s.new (.cells new t false 0 0))
 |.sl b o len cap VH=>match s.cells b with
  |some c=>match XA (len*n) o c with
   |some old =>
    match cap with
    |some k=>if len+m<=k then
      if VH=n then match Xi s b (o+len*n) new with
       |some s'=>some (.sl b o (len+m) (some k) n,s')
       |none=>none
      else none
     else some (.sl s.next 0 (len+m) none n,s.new (.cells (old++new) t false 0 0))
    |none=>match s.get b with
     |some (.cells _ e0 false OM PF) =>
      if VH=n/\PF<=o+len*n/\e0=t/\new.all Zz=true then
       some (.sl s.next 0 (len+m) none n,(s.put b .gone).new (.cells (old++new) t false (OM-o) (PF-o)))
      else none
     |_=>none
   |none=>none
  |none=>none
 |_=>none
def agA (d:AV)(s:St):Option (AV×St):=match d with
 |.ZW=>some (d,s)
 |.sl ..=>some (d,s)
 |.fz _=>some (d,s)
 |_=>none
def B7 (t:TypeId)(n bytes:Nat)(d:AV)(x:Option (Nat×List AV))(s:St):Option (AV×St):=match x with
 |some (m,new) =>
  if new.length≠m*n\/(Xj d+m)*bytes>2^40\/Xj d+m>2^40 then none
  else if m=0 then agA d s else Rx t n m new d s
 |none=>none
theorem acV (t:TypeId)(n bytes:Nat)(d x:AV)(s:St):pK t n bytes d x s=B7 t n bytes d (Wc n x s) s:=by
 unfold pK B7 Rx agA;rfl
theorem ZH {t:TypeId}{n bytes:Nat}{d:AV}{m:Nat}{new:List AV}{s:St}(h1:new.length=m*n)(h2:(Xj d+m)*bytes<=2^40)(h3:Xj d+m<=2^40)(h4:m≠0) :
  B7 t n bytes d (some (m,new)) s=Rx t n m new d s:=by
 simp only[B7];rw[if_neg (by omega),if_neg h4]
theorem V_ (t:TypeId)(n m:Nat)(new:List AV)(s:St):Rx t n m new .ZW s=some (.sl s.next 0 m none n,s.new (.cells new t false 0 0)):=(fun h=>h) rfl
theorem TR (t:TypeId)(n m:Nat)(new:List AV)(b o len VH:Nat)(s:St):Rx t n m new (.sl b o len none VH) s=iw t n m new b o len VH s (s.get b):=by
 simp only[Rx,iw,St.cells]
 cases s.get b with
 |none=>rfl
 |some x =>
  cases x <;> simp only
  rename_i c e0 ro lo hi
  cases ro <;> simp only
  cases XA (len*n) o c <;> rfl
theorem VA {t:TypeId}{n m:Nat}{new:List AV}{b len:Nat}{s:St}{cs:List AV}{lo hi:Nat}(hl:cs.length=len*n)(hh:hi<=len*n)(Re:new.all Zz=true) :
  iw t n m new b 0 len n s (some (.cells cs t false lo hi))=some (.sl s.next 0 (len+m) none n,(s.put b .gone).new (.cells (cs++new) t false lo hi)):=by
 simp only[iw];rw[<-hl,Ws];simp only[true_and];rw[if_pos ⟨by omega,Re⟩];simp
theorem oK:Xj .ZW=0:=(fun h=>h) rfl
theorem Np (b o n:Nat)(c:Option Nat)(z:Nat):Xj (.sl b o n c z)=n:=(fun h=>h) rfl
def ZK (s:St)(B:Nat)(t:TypeId)(n i:Nat)(cs:List AV)(v:AV):Prop :=
 (i=0/\v=.ZW/\cs=[])\/(0<i/\cs.length=i*n/\∃b,B<=b/\b<s.next/\v=.sl b 0 i none n/\s.get b=some (.cells cs t false 0 0))
theorem ZK.nil (s:St)(B:Nat)(t:TypeId)(n:Nat):ZK s B t n 0 [] .ZW:=.inl ⟨rfl,rfl,rfl⟩
theorem ZK.Zz {s:St}{B:Nat}{t:TypeId}{n i:Nat}{cs:List AV}{v:AV}(h:ZK s B t n i cs v):Zz v=true:=by
 rcases h with⟨_,rfl,_⟩|⟨_,_,b,_,_,rfl,_⟩ <;> rfl
theorem ZK.cells {s:St}{B:Nat}{t:TypeId}{n i:Nat}{cs:List AV}{v:AV}(h:ZK s B t n i cs v):v.cells=[v]:=by
 rcases h with⟨_,rfl,_⟩|⟨_,_,b,_,_,rfl,_⟩ <;> rfl
theorem ZK.len {s:St}{B:Nat}{t:TypeId}{n i:Nat}{cs:List AV}{v:AV}(h:ZK s B t n i cs v):Ti v=some (.int .i64 i):=by
 rcases h with⟨rfl,rfl,_⟩|⟨_,_,b,_,_,rfl,_⟩ <;> rfl
theorem ZK.Xj {s:St}{B:Nat}{t:TypeId}{n i:Nat}{cs:List AV}{v:AV}(h:ZK s B t n i cs v):Go.Am.Xj v=i:=by
 rcases h with⟨rfl,rfl,_⟩|⟨_,_,b,_,_,rfl,_⟩ <;> rfl
theorem ZK.mono {s s':St}{B:Nat}{t:TypeId}{n i:Nat}{cs:List AV}{v:AV}(h:ZK s B t n i cs v)(hn:s.next<=s'.next)(hg:∀j,B<=j->j<s.next->s'.get j=s.get j):ZK s' B t n i cs v:=by
 rcases h with⟨h0,h1,h2⟩|⟨h0,h1,b,h2,h3,h4,h5⟩
 ·exact .inl ⟨h0,h1,h2⟩
 ·exact .inr ⟨h0,h1,b,h2,by omega,h4,by rw[hg b h2 h3];exact h5⟩
theorem ZK.app {s:St}{B:Nat}{t:TypeId}{n i:Nat}{cs:List AV}{v:AV}(h:ZK s B t n i cs v)(hB:B<=s.next){m:Nat}{new:List AV}(hm:m≠0)(hl:new.length=m*n)(Re:new.all Go.Am.Zz=true) :
  ∃s1,Rx t n m new v s=some (.sl s.next 0 (i+m) none n,s1)/\s1.next=s.next+1/\ZK s1 B t n (i+m) (cs++new) (.sl s.next 0 (i+m) none n)/\(∀j,j<B->s1.get j=s.get j)/\(Fr s->Fr s1):=by
 rcases h with⟨rfl,rfl,rfl⟩|⟨h0,h1,b,h2,h3,rfl,h5⟩
 ·refine⟨s.new (.cells new t false 0 0),by rw[V_,ald],rfl,.inr ⟨by omega,by rw[ald,amg];exact hl,s.next,hB,by rw[Z_];omega,rfl,by rw[Z7,if_pos rfl];rfl⟩,fun j hj=>by rw[Z7,if_neg (by omega)],fun hf=>hf.new _⟩
 ·refine⟨(s.put b .gone).new (.cells (cs++new) t false 0 0),by rw[TR,h5,VA h1 (by omega) Re],rfl,.inr ⟨by omega,by rw[agy,h1,hl,amx],s.next,hB,by rw[Z_,Z'];omega,rfl,?_⟩,fun j hj=>?_,fun hf=>(hf.put h3 _).new _⟩
  ·rw[Z7,Z',if_pos rfl]
  ·rw[Z7,Z',if_neg (by omega),Z9,if_neg (by omega)]
theorem Fv {A:Type}(enc:A->AV)(n:Nat)(hc:∀a,∃c,enc a=.agg c/\c.length=n):∀l:List A,Xm true n l.length (l.flatMap fun a=>(enc a).cells)=l.map enc
 |[]=>rfl
 |a::l=>by
  obtain⟨c,h1,h2⟩:=hc a;have ih:=Fv enc n hc l;rw[akd,Gr,al7,h1,QE,alT,h1];rw[show (c++l.flatMap fun a=>(enc a).cells).take n=c from by rw[<-h2,List.take_left],show (c++l.flatMap fun a=>(enc a).cells).drop n=l.flatMap fun a=>(enc a).cells from by rw[<-h2,amy],ih]
theorem UZ {f:AV->Option AV}:∀{l:List AV},(∀x∈l,f x=some x)->Y' f l=some l
 |[],_=>rfl
 |x::l,h=>by
  rw[Y',h x (aba ..),UZ fun y hy=>h y (aab _ hy)]
theorem Jm {A:Type}(enc:A->AV)(n:Nat)(hc:∀a,∃c,enc a=.agg c/\c.length=n):∀l:List A,(l.flatMap fun a=>(enc a).cells).length=l.length*n
 |[]=>by simp
 |a::l=>by
  obtain⟨c,h1,h2⟩:=hc a;rw[al7,agy,Jm enc n hc l,h1,QE,h2,akd,amx];omega
theorem ZK.Vi {s:St}{B:Nat}{t:TypeId}{n:Nat}{A:Type}{enc:A->AV}{l:List A}{v:AV}(h:ZK s B t n l.length (l.flatMap fun a=>(enc a).cells) v)(Et:YC X t=some true)(VY:size X t=some n)(hn:n≠0)
  (hc:∀a,∃c,enc a=.agg c/\c.length=n){d:Nat}(hf:∀a,Yn X s d (enc a)=some (enc a)):Yn X s (d+1) v=some (ZG true (l.map enc)):=by
 rcases h with⟨h0,rfl,_⟩|⟨h0,h1,b,_,_,rfl,hg⟩
 ·have:l=[]:=al6.1 h0;subst this;rfl
 ·rw[VD,hg,Wo,<-h1,Ws,Et,VY]
  cases n with
  |zero=>exact absurd rfl hn
  |succ n =>
   rw[zB,Fv enc (n+1) hc,UZ (fun x hx=>?_),Tb]
   ·cases l with
    |nil=>simp at h0
    |cons a l=>rfl
   ·obtain⟨a,_,rfl⟩:=alN.1 hx;exact hf a
theorem ZK.Ub {s:St}{B:Nat}{t:TypeId}{l:List AV}{v:AV}(h:ZK s B t 1 l.length l v)(Et:YC X t=some false)(VY:size X t=some 1)(Re:l.all Go.Am.Zz=true)
  {d:Nat}{r:List AV}(hf:Y' (Yn X s d) l=some r):Yn X s (d+1) v=some (ZG true r):=by
 rcases h with⟨h0,rfl,_⟩|⟨h0,h1,b,_,_,rfl,hg⟩
 ·have:l=[]:=al6.1 h0;subst this;simp only[Y'] at hf;cases hf;rfl
 ·rw[VD,hg,Wo,ah1,Ws,Et,VY,TX,if_pos Re,VC,hf,Tb]
  cases r with
  |nil =>
   exfalso
   cases l with
   |nil=>simp at h0
   |cons a l =>
    simp only[Y'] at hf
    split at hf <;> cases hf
  |cons a r=>rfl
end
attribute [go_sem] oM oL Da acV V_ TR oK Np
end Go.Am
namespace Go.Am
open Go
variable [Z4]
set_option maxRecDepth 100000
set_option maxHeartbeats 8000000
theorem NJ (X:Cx)(g:FuncId)(x y args:List AV)(s:St):GR X (.fn (.func g) x y) args s=X6 X (ZE X g (x++args++y)) g (x++args++y) s:=by
 rw[<-XI];rfl
attribute [go_sem] NJ amg alZ alU
theorem Tq (X:Cx)(t:TypeId)(c:Bool)(j:IntKind){n:Int}(h:0<=n/\n<=16):Wg X .shl t c (.int .i64 1) (.int j n)=some (.int .i64 (2^n.toNat)):=by
 obtain⟨h0,h1⟩:=h;have hn:¬n<0:=by omega
 simp only[Wg,JN,hn,if_false];have hm:min n.toNat IntKind.i64.bits=n.toNat:=by
  have:IntKind.i64.bits=64:=rfl;rw[this];omega
 rw[hm,Int.one_mul];have hp:(2:Int)^n.toNat<=2^16:=by
  have h2:(2:Nat)^n.toNat<=2^16:=Nat.pow_le_pow_right (by omega) (by omega)
  exact_mod_cast h2
 have eB:(0:Int)<=2^n.toNat:=Int.pow_nonneg (by omega);rw[wrap_i64 (by omega) (by omega)]
def Xg (l:List Int)(t:Int):Int:=l.getD t.toNat 0
theorem dX {l:List Int}{t:Int}(h1:t.toNat<l.length):l[t.toNat]? = some (Xg l t):=by
 unfold Xg;rw[alM,aaa h1];rfl
theorem qt {l:List Int}{t:Int}(h:t.toNat<l.length):(ints l)[t.toNat]? = some (.int .i64 (Xg l t)):=by
 rw[RM,dX h];rfl
theorem sP {nl:Bool}{l:List Int}{t:Int}(h0:0<=t)(h1:t.toNat<l.length):Ud 1 (ZG nl (ints l)) (.int .i64 t)=some (.fp [.int .i64 (Xg l t)] 0) :=
 Vr 1 nl (ints l) .i64 t (.int .i64 (Xg l t)) h0 (qt h1) rfl (by decide)
theorem Ys {nl:Bool}{l:List Int}{t:Nat}(h1:t<l.length):Ud 1 (ZG nl (ints l)) (.int .i64 (t:Int))=some (.fp [.int .i64 (Xg l (t:Int))] 0) :=
 sP (by omega) (by omega)
theorem U5 {p:Bool}{e x:Int}(h:br p e x=0)(he:e≠0):p=false/\x=0:=by
 cases p
 ·exact⟨rfl,h⟩
 ·exact absurd h he
theorem Pv {n a b:Int}(h:outside n a b=false):a<=n/\n<=b:=by
 unfold outside at h;simp only[ame,decide_eq_false_iff_not] at h;omega
theorem U' (l:List Bool):(ZM l).all Zz=true:=by
 rw[alK];intro x hx;obtain⟨b,_,rfl⟩:=alN.1 hx;rfl
theorem XR (l:List Int):(ints l).all Zz=true:=by
 rw[alK];intro x hx;obtain⟨b,_,rfl⟩:=alN.1 hx;rfl
theorem Sp (s:St)(d:Nat)(l:List Bool):Y' (Yn U s (d+1)) (ZM l)=some (ZM l):=UZ fun x hx=>by
 obtain⟨b,_,rfl⟩:=alN.1 hx;rfl
theorem Ua (s:St)(d:Nat)(l:List Int):Y' (Yn U s (d+1)) (ints l)=some (ints l):=UZ fun x hx=>by
 obtain⟨b,_,rfl⟩:=alN.1 hx;rfl
theorem WX (l:List Bool):(ZM l).length=l.length:=by simp[ZM]
theorem ZK.Sp {s:St}{B:Nat}{l:List Bool}{v:AV}(h:ZK s B 4 1 l.length (ZM l) v)(d:Nat):Yn U s (d+2) v=some (ZG true (ZM l)):=by
 have h':ZK s B 4 1 (ZM l).length (ZM l) v:=by rw[WX];exact h
 exact h'.Ub U AI AH (U' l) (Go.Am.Sp s d l)
theorem ZK.Ua {s:St}{B:Nat}{l:List Int}{v:AV}(h:ZK s B 3 1 l.length (ints l) v)(d:Nat):Yn U s (d+2) v=some (ZG true (ints l)):=by
 have h':ZK s B 3 1 (ints l).length (ints l) v:=by rw[YK];exact h
 exact h'.Ub U Ka J' (XR l) (Go.Am.Ua s d l)
theorem Du (l:List Bool)(i:Nat):(ZM l)[i]? = (l[i]?).map .bool:=by simp[ZM]
theorem Ot (n:Int)(h1:n<=16):(1:Int)<=2^n.toNat/\(2:Int)^n.toNat<=65536:=by
 obtain⟨k,hk⟩:∃k:Nat,n.toNat=k:=⟨_,rfl⟩;rw[hk];have:∀k:Fin 17,(1:Int)<=2^k.val/\(2:Int)^k.val<=65536:=by decide
 exact this ⟨k,by omega⟩
def vS (lines:Int)(l:List Int):Bool:=l.any fun x=>outside x 0 (2^lines.toNat-1)
def aai (lines:Int)(l:List Int):Int:=br (decide ((l.length:Int)>4096)) 5 (br (vS lines l) 3 0)
theorem c28 (lines:Int)(h0:1<=lines)(h1:lines<=16)(nl:Bool)(l:List Int):ZE U 28 [.int .i64 lines,ZG nl (ints l)]=some (.int .i64 (aai lines l)):=by
 refine ZR k28 (by kernel_rfl) (by simp[ZU,X7,still]) ?_;rw[aai];simp (maxSteps:=2000000) +contextual only[go_sem,r28,ZI,YK];simp only[T8];refine SR fun hle=>?_
 have hle:l.length<=4096:=by simp at hle;omega
 refine YH (σ:=Nat) (fun i=>l.length-i) (fun i=>some (AV.int .i64 (br (vS lines (l.drop i)) 3 0))) (fun i e s=>i<=l.length/\Env.get e 0=.int .i64 lines/\Env.get e 1=ZG nl (ints l)/\Env.get e 5=.int .i64 i) 0 ?_ ?_ ?_
 ·rintro L i e s ⟨hi,g0,g1,g5⟩ ih;by_cases hd:i<l.length
  ·have hx:=Ys (nl:=nl) hd;have hw:=ZN hd (by omega);have hp:=Ot lines h1;have Mx:IntKind.i64.wrap (2^lines.toNat-1)=2^lines.toNat-1:=by rw[wrap_i64] <;> omega
   have xH:Xg l (i:Int)=l[i]:=by unfold Xg;rw[amn,alM,aaa hd];rfl
   rw[xH] at hx;simp +contextual only[go_sem,vR,g0,g1,g5,Z8,hd,hx,ZI,YK,Tq U _ _ _ (show 0<=lines/\lines<=16 from⟨by omega,h1⟩),Mx,aA];rw[abc hd,vS,List.any_cons]
   cases hb:outside l[i] 0 (2^lines.toNat-1) with
   |true=>simp +contextual only[go_sem,Bool.true_or]
   |false =>
    simp +contextual only[go_sem,hw,amf];refine ih (i+1) _ _ (by omega) ⟨by omega,?_,?_,?_⟩ <;> simp +contextual only[go_sem,g0,g1]
  ·have:i=l.length:=by omega
   subst this;simp +contextual only[go_sem,vR,g1,g5,Z8,alh,ZI,YK];rw[alO];rfl
 ·simp only[amd,T8]
 ·refine⟨aic _,?_,?_,?_⟩ <;> simp +contextual only[go_sem] <;> rfl
theorem YP {X:Cx}{β:Type}{fin:Fl->β}{ks:List K} [Stat] {b:RC}{σ:Type}{ZB:β->Prop}(m:σ->Nat)(I:σ->Env->St->Prop)(x:σ){e:Env}{s:St}
  (h:∀(L:RC) (x:σ) (e:Env) (s:St),I x e s->(∀(y:σ) (e':Env) (s':St),m y<m x->I y e' s'->ZB (SD X fin ks L e' s'))->ZB (go X fin (.lp L::ks) b e s))
  (hI:I x e s):ZB (SD X fin ks b e s):=by
 have key:∀n (x:σ) (e:Env) (s:St),m x=n->I x e s->ZB (SD X fin ks b e s):=by
  intro n
  induction n using Nat.strongRecOn with
  |ind n ih =>
   intro x e s hx hI;rw[lL];exact h b x e s hI fun y e' s' hy H'=>ih (m y) (by omega) y e' s' rfl H'
 exact key _ x e s rfl hI
theorem ZK.Gy {s:St}{B:Nat}{t:TypeId}{n i:Nat}{cs:List AV}{v:AV}(h:ZK s B t n i cs v)(hB:B<=s.next){m:Nat}{new:List AV}(hm:m≠0)(hl:new.length=m*n)(Re:new.all Go.Am.Zz=true) :
  ∃s1,Rx t n m new v s=some (.sl s.next 0 (i+m) none n,s1)/\s1.next=s.next+1/\ZK s1 B t n (i+m) (cs++new) (.sl s.next 0 (i+m) none n)/\(∀j,j≠s.next->v≠.sl j 0 i none n->s1.get j=s.get j)/\(Fr s->Fr s1):=by
 rcases h with⟨rfl,rfl,rfl⟩|⟨h0,h1,b,h2,h3,rfl,h5⟩
 ·refine⟨s.new (.cells new t false 0 0),by rw[V_,ald],rfl,.inr ⟨by omega,by rw[ald,amg];exact hl,s.next,hB,by rw[Z_];omega,rfl,by rw[Z7,if_pos rfl];rfl⟩,fun j hj _=>by rw[Z7,if_neg (by omega)],fun hf=>hf.new _⟩
 ·refine⟨(s.put b .gone).new (.cells (cs++new) t false 0 0),by rw[TR,h5,VA h1 (by omega) Re],rfl,.inr ⟨by omega,by rw[agy,h1,hl,amx],s.next,hB,by rw[Z_,Z'];omega,rfl,?_⟩,fun j hj hv=>?_,fun hf=>(hf.put h3 _).new _⟩
  ·rw[Z7,Z',if_pos rfl]
  ·have:b≠j:=fun e=>hv (by rw[e])
   rw[Z7,Z',if_neg (by omega),Z9,if_neg this]
theorem ZK.B8 {s:St}{B:Nat}{t:TypeId}{n i:Nat}{cs:List AV}{v:AV}(h:ZK s B t n i cs v){j:Nat}(hj:s.next<=j\/j<B):v≠.sl j 0 i none n:=by
 rintro rfl;rcases h with⟨_,h,_⟩|⟨_,_,b,h1,h2,h3,_⟩
 ·cases h
 ·cases h3;omega
theorem ZK.other {s:St}{B:Nat}{t:TypeId}{n i:Nat}{cs:List AV}{v:AV}(h:ZK s B t n i cs v){j:Nat}{c:List AV}{t':TypeId}{lo hi:Nat}(hj:s.get j=some (.cells c t' false lo hi))(ht:t'≠t):v≠.sl j 0 i none n:=by
 rintro rfl;rcases h with⟨_,h,_⟩|⟨_,_,b,h1,h2,h3,h4⟩
 ·cases h
 ·cases h3
  rw[hj] at h4
  cases h4;exact ht rfl
theorem Uc {β:Type}{c:Code}{n:Nat}{l:List lq}(h:O_ U c=some (n,l))(fin:Fl->β)(ks:List K)(e:Env)(s:St):go U fin ks (.raw c) e s =
  bif S_ s.next s l then lj U (sN U fin ks c e s) fin ks s.next l e (s.upto (s.next+n)) [s.upto (s.next+n)] [] else sN U fin ks c e s:=abA U h fin ks e s
theorem VN (x:AV):∀n:Nat,UW n [x]=List.replicate n x
 |0=>rfl
 |n+1=>by rw[UW,VN x n];rfl
theorem NH:∀(cs:List AV) (i:Nat) (x:AV),i<cs.length->lay i [x] cs=some (cs.set i x)
 |[],i,x,h=>by simp at h
 |c::cs,0,x,h=>by rw[zx,sM];rfl
 |c::cs,i+1,x,h=>by
  rw[zw,NH cs i x (by simpa using h)];rfl
def part {A:Type}(l:List A)(z:A)(n i:Nat):List A:=l.take i++List.replicate (n-i) z
theorem Ol {A:Type}(l:List A)(z:A){n i:Nat}(h:l.length=n)(hi:i<=n):(part l z n i).length=n:=by
 simp[part,h];omega
theorem Qj {A:Type}(l:List A)(z:A){n i:Nat}(h:l.length=n)(hi:i<n):(part l z n i).set i (l[i]'(by omega))=part l z n (i+1):=by
 unfold part;have h1:(l.take i).length=i:=by rw[amr];omega
 rw[List.set_append,if_neg (by omega),h1,Nat.sub_self,show n-i=(n-(i+1))+1 by omega,List.replicate_succ,List.set_cons_zero,alX (by omega),alS];rfl
theorem Qi {A:Type}(l:List A)(z:A){n:Nat}(h:l.length=n):part l z n n=l:=by
 unfold part;rw[Nat.sub_self,List.replicate_zero,alZ,<-h,amH]
theorem qq {A:Type}(l:List A)(z:A)(n:Nat):part l z n 0=List.replicate n z:=by unfold part;simp
theorem Ux {s:St}{b d:Nat}{cap:Option Nat}{l:List Int}(hg:s.get b=some (.cells (ints l) 3 false 0 0)):Yn U s (d+2) (.sl b 0 l.length cap 1)=some (.fz (ints l)):=by
 have e:l.length=(ints l).length:=(YK l).symm;rw[VD,hg,Wo,ah1,e,Ws,Ka,J',TX,if_pos (XR l),VC,Ua,Tb]
def Qd:List Int->List Int->Bool
 |[],[]=>true
 |x::a,y::b=>bif x != y then false else Qd a b
 |_,_=>false
theorem Ns:∀{a b:List Int},a.length≠b.length->Qd a b=false
 |[],[],h=>absurd rfl h
 |[],_::_,_=>rfl
 |_::_,[],_=>rfl
 |a::x,b::y,h=>by
  rw[Qd,Ns (fun e=>h (by simp[e]))]
  cases a != b <;> rfl
theorem My:∀a:List Int,Qd a a=true
 |[]=>rfl
 |a::x=>by rw[Qd,My x];simp
theorem aaT (na nb:Bool)(a b:List Int)(ha:a.length<2^62):ZE U 109 [ZG na (ints a),ZG nb (ints b)]=some (.bool (Qd a b)):=by
 refine ZR aiM (by kernel_rfl) (by simp[ZU,X7]) ?_;simp (maxSteps:=2000000) +contextual only[go_sem,aeR,ZI,YK]
 cases hl:((a.length:Int) != (b.length:Int)) with
 |true =>
  have:a.length≠b.length:=by simp at hl;omega
  rw[Ns this];simp +contextual only[go_sem]
 |false =>
  have hl:a.length=b.length:=by simp at hl;omega
  simp +contextual only[go_sem];refine YH (σ:=Nat) (fun i=>a.length-i) (fun i=>some (AV.bool (Qd (a.drop i) (b.drop i)))) (fun i e s=>i<=a.length/\Env.get e 0=ZG na (ints a)/\Env.get e 1=ZG nb (ints b)/\Env.get e 5=.int .i64 i) 0 ?_ rfl ?_
  ·rintro L i e s ⟨hi,g0,g1,g5⟩ ih;by_cases hd:i<a.length
   ·have LR:i<b.length:=by omega
    have hx:Ud 1 (ZG na (ints a)) (.int .i64 (i:Int))=some (.fp [.int .i64 a[i]] 0):=Vr 1 na (ints a) .i64 i (.int .i64 a[i]) (by omega) (by rw[amn,RM,aaa hd];rfl) rfl (by decide);have hy:Ud 1 (ZG nb (ints b)) (.int .i64 (i:Int))=some (.fp [.int .i64 b[i]] 0):=Vr 1 nb (ints b) .i64 i (.int .i64 b[i]) (by omega) (by rw[amn,RM,aaa LR];rfl) rfl (by decide);have hw:=ZN hd (by omega);rw[abc hd,abc LR,Qd];simp +contextual only[go_sem,BQ,g0,g1,g5,Z8,hd,hx,hy,ZI,YK]
    cases hb:a[i] != b[i] with
    |true=>simp +contextual only[go_sem]
    |false =>
     simp +contextual only[go_sem,hw];refine ih (i+1) _ _ (by omega) ⟨by omega,?_,?_,?_⟩ <;> simp +contextual only[go_sem,g0,g1]
   ·have:i=a.length:=by omega
    subst this;simp +contextual only[go_sem,BQ,g0,g5,Z8,alh,ZI,YK];rw[alO,hl,alO];rfl
  ·refine⟨aic _,?_,?_,?_⟩ <;> simp +contextual only[go_sem] <;> rfl
def XW (bs:XV):List AV:=bs.map fun c=>.int .u8 c.toNat
theorem RK (bs:XV):(XW bs).length=bs.length:=by simp[XW]
theorem K' (bs:XV):(XW bs).all Zz=true:=by
 induction bs with
 |nil=>rfl
 |cons c l ih=>rw[XW,alT,List.all_cons];exact ih
theorem yA (bs:XV):Xh (XW bs)=some bs:=by
 induction bs with
 |nil=>rfl
 |cons c l ih =>
  show Xh (.int .u8 c.toNat::XW l)=_;simp only[Xh,ih,amn,UInt8.ofNat_toNat]
def Iq (s:St)(b:Nat)(bs:XV):Prop:=∃p v,s.get b=some (.cells [p,v] 207 false 0 0)/\(p=.Vk\/p=.ptr b 0)/\b<s.next/\ZK s (b+1) 5 1 bs.length (XW bs) v
theorem abj (args:List AV)(s:St):X6 U (ZE U 182 args) 182 args s=Rl U 182 args s:=(XI U 182 args s).symm
theorem mj (args:List AV)(s:St):X6 U (ZE U 131 args) 131 args s=Rl U 131 args s:=(XI U 131 args s).symm
theorem ta (args:List AV)(s:St):X6 U (ZE U 133 args) 133 args s=Rl U 133 args s:=(XI U 133 args s).symm
theorem cd (args:List AV)(s:St):Rl U 182 args s=Nq args s:=by
 unfold Rl Uk;rw[zq];rfl
theorem abh {s:St}{b:Nat}{p v:AV}(hg:s.get b=some (.cells [p,v] 207 false 0 0))(hp:p=.Vk\/p=.ptr b 0)(hb:b<s.next) :
  ∃s0,Rl U 182 [.ptr b 0] s=some (.XU [],s0)/\s0.next=s.next/\s0.get b=some (.cells [.ptr b 0,v] 207 false 0 0)/\(∀j,j≠b->s0.get j=s.get j)/\(Fr s->Fr s0):=by
 rw[cd];rcases hp with rfl|rfl
 ·refine⟨s.put b (.cells [.ptr b 0,v] 207 false 0 0),by simp only[Nq,hg,if_true],rfl,by rw[Z9,if_pos rfl],fun j hj=>by rw[Z9,if_neg (by omega)],fun h=>h.put hb _⟩
 ·exact⟨s,by simp only[Nq,hg,if_true],rfl,hg,fun _ _=>rfl,fun h=>h⟩
theorem K_ (t:XV)(s:St):Wc 1 (.str t) s=some (t.length,XW t):=rfl
theorem ah3 {s:St}{b:Nat}{bs:XV}(h:Iq s b bs)(hf:Fr s)(t:XV)(ht:t≠[])(hlen:bs.length+t.length<=2^39) :
  ∃s' r,Rl U 131 [.ptr b 0,.str t] s=some (r,s')/\Iq s' b (bs++t)/\Fr s'/\s.next<=s'.next/\∀j,j<b->s'.get j=s.get j:=by
 obtain⟨p,v,hg,hp,hb,hv⟩:=h;obtain⟨s0,g1,g2,g3,g4,g5⟩:=abh hg hp hb;have Jl:=hv.Xj;have UP:(bs.length+t.length)*1<=1099511627776:=by omega
 have VP:bs.length+t.length<=1099511627776:=by omega
 have fu:(t.length=0)=False:=by simp[ht]
 have Pd:ZK s0 (b+1) 5 1 bs.length (XW bs) v:=hv.mono (by omega) fun j hj wJ=>g4 j (by omega)
 obtain⟨s1,e1,e2,e3,e4,e5⟩:=Pd.app (by omega) (m:=t.length) (new:=XW t) (by intro h0;simp[ht] at h0) (by rw[RK];omega) (K' t);have kb:=e4 b (by omega);rw[g3] at kb;rw[g2] at e1 e2 e3;refine⟨s1.put b (.cells [.ptr b 0,.sl s.next 0 (bs.length+t.length) none 1] 207 false 0 0),.XU [.int .i64 t.length,.TO],?_,⟨.ptr b 0,.sl s.next 0 (bs.length+t.length) none 1,by rw[Z9,if_pos rfl],.inr rfl,by rw[Z'];omega,?_⟩,(e5 (g5 hf)).put (by omega) _,by rw[Z'];omega,fun j hj=>?_⟩
 ·refine VE aef (by kernel_rfl) ?_;simp only[go_sem,abi,abj,g1,g3,K_,ZH,Jl,VP,Nat.reducePow,RK,fu,ah1,not_false_eq_true];rw[e1];simp only[go_sem,kb]
 ·have hl:(bs++t).length=bs.length+t.length:=by simp
  rw[hl];have xn:XW (bs++t)=XW bs++XW t:=by simp[XW]
  rw[xn];exact e3.mono (by rw[Z'];omega) fun j hj _=>by rw[Z9,if_neg (by omega)]
 ·rw[Z9,if_neg (by omega),e4 j (by omega),g4 j (by omega)]
def sdK (v:Option AV)(s:St):Option (AV×St):=match v with
 |some .ZW=>some (.Vk,s)
 |some (.sl b o (_+1) _ _)=>some (.ptr b o,s)
 |_=>none
theorem acz (ex:Ex)(e:Env)(s:St)(x:Operand)(ts:Array TypeId):YI U ex e (.call { callee:=.builtin .unsafeSliceData,args:=#[x],argTypes:=ts }) s=sdK (eval U e x) s:=by
 have h:YI U ex e (.call { callee:=.builtin .unsafeSliceData,args:=#[x],argTypes:=ts }) s=match Wk U e [x] with
  |some vs=>Yj U .unsafeSliceData ts vs s
  |none=>none:=rfl
 rw[h];simp only[Wk]
 cases eval U e x with
 |none=>rfl
 |some v =>
  cases v <;> try rfl
  rename_i b o n c z
  cases n <;> rfl
noncomputable def usK (ts:Array TypeId)(p n:Option AV)(s:St):Option (AV×St):=match p,n with
 |some p,some n=>Yj U .unsafeString ts [p,n] s
 |_,_=>none
theorem acA (ex:Ex)(e:Env)(s:St)(x y:Operand)(ts:Array TypeId):YI U ex e (.call { callee:=.builtin .unsafeString,args:=#[x,y],argTypes:=ts }) s=usK ts (eval U e x) (eval U e y) s:=by
 have h:YI U ex e (.call { callee:=.builtin .unsafeString,args:=#[x,y],argTypes:=ts }) s=match Wk U e [x,y] with
  |some vs=>Yj U .unsafeString ts vs s
  |none=>none:=rfl
 rw[h];simp only[Wk]
 cases eval U e x with
 |none=>rfl
 |some v=>cases eval U e y <;> rfl
theorem i_ (s:St):sdK (some .ZW) s=some (.Vk,s):=rfl
theorem acB (b o n:Nat)(c:Option Nat)(z:Nat)(s:St):sdK (some (.sl b o (n+1) c z)) s=some (.ptr b o,s):=rfl
theorem iZ (ts:Array TypeId)(p n:AV)(s:St):usK ts (some p) (some n) s=Yj U .unsafeString ts [p,n] s:=rfl
theorem acC (s:St):Yj U .unsafeString #[269,3] [.Vk,.int .i64 0] s=some (.str [],s):=rfl
theorem acD {s:St}{j:Nat}{bs:XV}{lo hi:Nat}(hg:s.get j=some (.cells (XW bs) 5 false lo hi))(h0:bs≠[])(hl:bs.length<=2^39):Yj U .unsafeString #[269,3] [.ptr j 0,.int .i64 bs.length] s=some (.str bs,s.put j (.cells (XW bs) 5 true 0 0)):=by
 have hu:U.Zd 269=some (.pointer 5):=by kernel_rfl
 have ZC:¬(bs.length:Int)=0:=by
  have:=List.length_pos_iff.2 h0;omega
 have hb:¬((bs.length:Int)<0\/(bs.length:Int)>2^40):=by omega
 unfold Yj;simp only[if_neg ZC,if_neg hb,hg];have hgr:XA bs.length 0 (XW bs)=some (XW bs):=by
  have:=Ws (XW bs)
  rwa [RK] at this
 simp[hu,ae1,hgr,yA]
attribute [go_sem ↓] acz acA
attribute [go_sem] i_ acB iZ acC
theorem mf {s:St}{b:Nat}{bs:XV}(h:Iq s b bs)(hf:Fr s)(hl:bs.length<=2^39):∃s',Rl U 133 [.ptr b 0] s=some (.str bs,s')/\s.next<=s'.next/\Fr s'/\∀j,j<=b->s'.get j=s.get j:=by
 obtain⟨p,v,hg,hp,hb,hv⟩:=h;rcases hv with⟨h0,rfl,h2⟩|⟨h0,h1,j,h2,h3,rfl,h5⟩
 ·have:bs=[]:=al6.1 h0;subst this;refine⟨s.upto (s.next+12),VE afU (by kernel_rfl) ?_,by rw[Z6];omega,hf.upto (by omega),fun j _=>ZT _ _ _⟩;simp only[go_sem,acy,hg]
 ·have ZC:bs≠[]:=by rintro rfl;simp at h0
  have MC:=acD (s:=s.upto (s.next+12)) (bs:=bs) (j:=j) (by rw[ZT];exact h5) ZC hl;obtain⟨n,hn⟩:∃n,bs.length=n+1:=⟨bs.length-1,by omega⟩;refine⟨(s.upto (s.next+12)).put j (.cells (XW bs) 5 true 0 0),VE afU (by kernel_rfl) ?_,by rw[Z',Z6];omega,(hf.upto (by omega)).put (by rw[Z6];omega) _,fun i hi=>by rw[Z9,if_neg (by omega),ZT]⟩;rw[hn] at hg MC;simp only[go_sem,acy,hg,MC]
def zW:Bool->XV
 |true=>[116,114,117,101]
 |false=>[102,97,108,115,101]
theorem ajI (x:Bool):ZE U 267 [.bool x]=some (.str (zW x)):=by
 refine ZR ajH (by kernel_rfl) rfl ?_
 cases x <;> simp only[go_sem,afW,zW]
theorem ah2 (x:Bool):ZE U 244 [.bool x]=some (.str (zW x)):=by
 refine ZR ajG (by kernel_rfl) rfl ?_;have:=ajI x;simp only[go_sem,afV,this]
def QQ (l:List Bool):XV:=l.flatMap zW
theorem abg (x:Bool):zW x≠[]:=by cases x <;> simp[zW]
theorem FU:∀{a b:List Bool},a.length=b.length->QQ a=QQ b->a=b
 |[],[],_,_=>rfl
 |x::a,y::b,hl,h=>by
  have CM:a.length=b.length:=by simpa using hl
  simp only[QQ,al7] at h
  cases x <;> cases y <;> simp only[zW,alU,amg,List.cons.injEq] at h
  ·rw[FU CM h.2.2.2.2.2]
  ·exact absurd h.1 (by decide)
  ·exact absurd h.1 (by decide)
  ·rw[FU CM h.2.2.2.2]
 |[],_::_,h,_=>by simp at h
 |_::_,[],h,_=>by simp at h
theorem l90 (lines depth:Int)(nl:Bool)(kids:List Z5)(f2:kids.length<2^30)(hc:∀x∈kids,ZE U 90 [.int .i64 lines,Zw x,.int .i64 (IntKind.i64.wrap (depth+1))]=some (.int .i64 (aE lines x (IntKind.i64.wrap (depth+1)))))
  (err:Int){e:Env}{s:St}(h0:Env.get e 0=.int .i64 lines)(h2:Env.get e 2=.int .i64 depth)(h10:Env.get e 10=.int .i64 err)(h141:Env.get e 141=ZG nl (WW kids))(h142:Env.get e 142=.int .i64 kids.length)(h143:Env.get e 143=.int .i64 0){ks:List K}
  (hk:∀e' s' x,Env.get e' 10=.int .i64 x->fX U (Mt U [.tmp 6]) ks 0 e' s'=some (.int .i64 x)) :
  SD U (Mt U [.tmp 6]) ks Cq e s=some (.int .i64 (Ms lines kids (IntKind.i64.wrap (depth+1)) err)):=by
 refine YH (σ:=Nat×Int) (fun x=>kids.length-x.1) (fun x=>some (AV.int .i64 (Ms lines (kids.drop x.1) (IntKind.i64.wrap (depth+1)) x.2))) (fun x e s=>x.1<=kids.length/\Env.get e 0=.int .i64 lines/\Env.get e 2=.int .i64 depth/\Env.get e 10=.int .i64 x.2/\Env.get e 141=ZG nl (WW kids)/\Env.get e 142=.int .i64 kids.length/\Env.get e 143=.int .i64 x.1) (0,err) ?_ rfl ⟨aic _,h0,h2,h10,h141,h142,h143⟩;clear h0 h2 h10 h141 h142 h143 err e s;rintro L ⟨i,err⟩ e s ⟨hi,h0,h2,h10,h141,h142,h143⟩ IH;simp only at hi h0 h2 h10 h141 h142 h143 IH ⊢;by_cases hd:i<kids.length
 ·have hx:(WW kids)[i]? = some (Zw kids[i]):=by rw[Vb,aaa hd];rfl
  have hw:=ZN hd (by omega);have hci:=hc kids[i] (adm hd);rw[ZV] at hx hci;simp only[Z5.cells] at hx hci;rw[YR (XL hd)] at h141;simp +contextual only[go_sem,Cq,h0,h2,h10,h141,h142,h143,Z8,hd,hx,hci,ZL];rw[abc hd,Ms]
  cases hb:err==0
  ·simp only[go_sem,hw];refine IH (i+1,_) _ _ (by simp only;omega) ⟨by simp only;omega,?_,?_,?_,?_,?_,?_⟩ <;> simp +contextual only[go_sem,h0,h2,h10,h141,h142,YR (XL hd)]
  ·simp only[go_sem,hw];refine IH (i+1,_) _ _ (by simp only;omega) ⟨by simp only;omega,?_,?_,?_,?_,?_,?_⟩ <;> simp +contextual only[go_sem,h0,h2,h141,h142,YR (XL hd)]
 ·have:i=kids.length:=by omega
  subst this;simp +contextual only[go_sem,Cq,h142,h143,Z8,alh];rw[alO,Ms];exact hk _ _ _ (by simp +contextual only[go_sem,h10])
theorem c90 (lines:Int):∀c:Z5,c.fits->∀depth:Int,ZE U 90 [.int .i64 lines,Zw c,.int .i64 depth]=some (.int .i64 (aE lines c depth)):=by
 intro c
 induction c using Z5.ind with
 |h kind a b mi ma pat nl kids ih =>
 intro hf depth;rw[Z5.fits] at hf;obtain⟨f1,f2,f3⟩:=hf;refine ZR k90 (by kernel_rfl) (tK _ _ _) ?_;have h157:=ahw (ZF kind) kind a b mi ma pat nl kids;have hs:ZU [Pk (ZF kind),Sh (ZF kind),Pj (ZF kind)]=true:=by cases ZF kind <;> rfl
 have hn:Zz (Pk (ZF kind))=true/\Zz (Sh (ZF kind))=true/\Zz (Pj (ZF kind))=true:=by cases ZF kind <;> exact⟨rfl,rfl,rfl⟩
 obtain⟨n1,n2,n3⟩:=hn;have Jd:=ET kind;rw[Vz] at h157 Jd;rw[Zw] at h157 ⊢;rw[aE];generalize Pk (ZF kind)=A1 at *;generalize Sh (ZF kind)=A2 at *;generalize Pj (ZF kind)=A3 at *;generalize hu:YQ (ZF kind)=u at *;generalize hk:(ZF kind).known=kn at *;simp (config:={ maxSteps:=4000000 }) +contextual only[go_sem,r90,aaJ,Jd,h157,nt,aa4,aht _ _ f1,z89,aaP,aaS,ZI,Yd,n1,n2,n3];obtain⟨ua,ub,umi,uma,up,uk⟩:=u;simp only
 cases up
 ·simp only[Xv,T8];refine SR fun _=>SR fun _=>?_
  cases eT:kind==[110,111,116]
  all_goals
   simp only[go_sem,Xo,Xv];refine l90 lines depth nl kids f2 (fun x hx=>ih x hx (f3 x hx) _) _ ?_ ?_ ?_ ?_ ?_ ?_ ?_
   rotate_right 1
   ·intro e' s' x h;simp +contextual only[go_sem,h]
   all_goals simp +contextual only[go_sem]
   all_goals try rfl
 ·simp only[Xo,T8];refine SR fun _=>SR fun _=>?_
  cases eT:kind==[110,111,116]
  all_goals
   simp only[go_sem,Xo,Xv];refine l90 lines depth nl kids f2 (fun x hx=>ih x hx (f3 x hx) _) _ ?_ ?_ ?_ ?_ ?_ ?_ ?_
   rotate_right 1
   ·intro e' s' x h;simp +contextual only[go_sem,h]
   all_goals simp +contextual only[go_sem]
   all_goals try rfl
def vy (lines:Int):Nat->List Step->Int
 |_,[]=>0
 |i,s::l=>br (XY [aE lines s.cond 1,within s.times 1 64,within s.within 0 255,br ((i:Int)==0&&s.within != 0) 3 0] != 0) (XY [aE lines s.cond 1,within s.times 1 64,within s.within 0 255,br ((i:Int)==0&&s.within != 0) 3 0]) <| vy lines (i+1) l
def lZ (p:Prog):Int :=
 br (XY [within p.lines 1 16,br ((p.steps.length:Int)==0) 12 0,br (decide ((p.steps.length:Int)>8)) 5 0] != 0) (XY [within p.lines 1 16,br ((p.steps.length:Int)==0) 12 0,br (decide ((p.steps.length:Int)>8)) 5 0]) <| vy p.lines 0 p.steps
theorem akZ {s:St}(h:8<s.next):(∀k,(s.next+k=8)=False)/\(s.next=8)=False:=⟨fun k=>by simp;omega,by simp;omega⟩
theorem c64 (p:Prog)(hf:p.fits):ZE U 64 [Vw p]=some (.int .i64 (lZ p)):=by
 obtain⟨lines,nl,steps⟩:=p;obtain⟨f1,f2⟩:=hf;simp only at f1 f2;refine ZR k64 (by kernel_rfl) (by simp[ZU,X']) ?_;rw[X9,lZ];simp (maxSteps:=2000000) +contextual only[go_sem,r64,c88,nt,z89,aaQ,ZI,YY];simp only[T8];refine SR fun _=>?_
 refine YH (σ:=Nat) (fun i=>steps.length-i) (fun i=>some (AV.int .i64 (vy lines i (steps.drop i)))) (fun i e s=>i<=steps.length/\Env.get e 28=.int .i64 i/\Env.get e 1=.ptr 8 0/\Env.get e 26=ZG nl (Zx steps)/\Env.get e 27=.int .i64 steps.length/\8<s.next/\Fr s /\
  s.get 8=some (.cells [.int .i64 lines,ZG nl (Zx steps)] 25 false 0 0)) 0 ?_ rfl ?_
 ·rintro L i e s ⟨hi,h28,h1,h26,h27,hn,PX,hs⟩ IH;by_cases hd:i<steps.length
  ·have hx:(Zx steps)[i]? = some (YL steps[i]):=by rw[Wu,aaa hd];rfl
   have hw:=ZN hd (by omega);obtain⟨g8,g8'⟩:=akZ hn;have hc:=c90 lines steps[i].cond (f2 _ (adm hd)) 1;rw[YR (X_ hd)] at hs h26;rw[ZV] at hc;simp only[Z5.cells,YL] at hx hc;have Nc:=PX.at;simp +contextual only[go_sem,wo,h28,h1,h26,h27,hs,Z8,hd,hx,hc,g8',ZL,aa4,nt,z89,aaR,Nc,akc,Nat.left_eq_add];rw[abc hd,vy];simp only[T8];refine SR fun _=>?_
   simp only[hw];refine IH (i+1) _ _ (by omega) ⟨by omega,?_,?_,?_,?_,?_,?_,?_⟩
   case refine_6 =>
    repeat first|exact PX|apply Fr.new|apply Fr.put|apply Fr.upto
    all_goals simp +contextual only[go_sem]
    all_goals omega
   all_goals simp +contextual only[go_sem,h1,h26,h27,hs,g8,g8',YR (X_ hd)]
   all_goals omega
  ·have:i=steps.length:=by omega
   subst this;simp +contextual only[go_sem,wo,h28,h27,Z8,alh];rw[alO,vy]
 ·refine⟨aic _,?_,?_,?_,?_,?_,?_,?_⟩
  case refine_6 =>
   repeat first|exact Fr.own|apply Fr.new|apply Fr.put|apply Fr.upto
   all_goals simp +contextual only[go_sem]
  all_goals simp +contextual only[go_sem]
  all_goals rfl
mutual
def Z5.norm:Z5->Z5
 |.mk k a b mi ma p _ kids=>.mk k a b mi ma p true (Wj kids)
def Wj:List Z5->List Z5
 |[]=>[]
 |c::l=>c.norm::Wj l
end
theorem Sm:∀l,Wj l=l.map Z5.norm
 |[]=>by simp[Wj]
 |c::l=>by simp[Wj,Sm l]
theorem OS (c:Z5):∃l,Zw c=.agg l/\l.length=7:=⟨_,ZV c,rfl⟩
theorem LG (s:St)(d:Nat)(c:Z5):Yn U s (d+2) (Zw c)=some (Zw c):=by
 rw[ZV];simp only[Z5.cells,Vi,Xn,RF,B5,HP,UL,JQ,JP]
theorem c24:∀c:Z5,c.fits->ZE U 24 [Zw c]=some (Zw c.norm):=by
 intro c
 induction c using Z5.ind with
 |h kind a b mi ma pat nl kids ih =>
 intro hf;rw[Z5.fits] at hf;obtain⟨f1,f2,f3⟩:=hf;refine ZR k24 (by kernel_rfl) (by simp[ZU,Zt]) ?_;rw[Zw,Z5.norm];simp only[go_sem,r24];refine YH (σ:=Nat) (fun i=>kids.length-i) (fun i=>some (Zw (.mk kind a b mi ma pat true (Wj kids)))) (fun i e s=>i<=kids.length/\Env.get e 1=.ptr 8 0/\Env.get e 2=.ptr 9 0/\Env.get e 3=.ptr 10 0/\Env.get e 4=.int .i64 i/\10<s.next/\Fr s /\
  s.get 8=some (.cells [.str kind,.int .i64 a,.int .i64 b,.int .i64 mi,.int .i64 ma,.str pat,ZG nl (WW kids)] 39 false 0 0)/\s.get 9=some (.cells [.str [],.int .i64 0,.int .i64 0,.int .i64 0,.int .i64 0,.str [],.ZW] 48 false 0 0) /\
  ∃v,s.get 10=some (.cells [.str kind,.int .i64 a,.int .i64 b,.int .i64 mi,.int .i64 ma,.str pat,v] 48 false 0 0)/\ZK s 11 48 7 i ((kids.take i).flatMap fun c=>(Zw c.norm).cells) v) 0 ?_ rfl ?_
 ·rintro L i e s ⟨hi,h1,h2,h3,h4,hn,PX,er,hs9,v,wy,hv⟩ IH;have ne:∀a k,a<=10->(s.next+k=a)=False:=fun a k ha=>by simp;omega
  have ne':∀a,a<=10->(s.next=a)=False:=fun a ha=>by simp;omega
  have Nc:=PX.at;by_cases hd:i<kids.length
  ·have hx:(WW kids)[i]? = some (Zw kids[i]):=by rw[Vb,aaa hd];rfl
   have hw:=ZN hd (by omega);have hc:=ih kids[i] (adm hd) (f3 _ (adm hd));rw[ZV] at hc;rw[ZV] at hx hc;simp only[Z5.cells] at hx hc;rw[YR (XL hd)] at er;have UP:(i+1)*88<=1099511627776:=by omega
   have VP:i+1<=1099511627776:=by omega
   have JS:(kids.take (i+1)).flatMap (fun c=>(Zw c.norm).cells)=(kids.take i).flatMap (fun c=>(Zw c.norm).cells)++kids[i].norm.cells:=by
    rw[alX hd,List.flatMap_append,List.flatMap_singleton,ZV];rfl
   simp only[Z5.cells] at JS;have Jl:=hv.Xj;have Re:=hv.Zz;simp only[go_sem,wg,h1,h3,h4,er,wy,Z8,hd,Yd,hx,hc,Nc,ZH,Nat.reducePow,amk,Jl,UP,VP];have rB:ZK ((s.upto (s.next+12)).put (s.next+8) (.cells kids[i].norm.cells 48 false 0 0)) 11 48 7 i ((kids.take i).flatMap fun c=>(Zw c.norm).cells) v:=hv.mono (by rw[Z',Z6];omega) fun j _ hj=>by rw[Z9,ZT,if_neg (by omega)]
   obtain⟨s1,e1,e2,e3,e4,e5⟩:=rB.app (by rw[Z',Z6];omega) (m:=1) (new:=kids[i].norm.cells) (by omega) (by rfl) (by simp only[Z5.cells,go_sem,ZL]);simp only[Z5.cells] at e1 e3 e4 e5;have k8:=e4 8 (by omega);have k9:=e4 9 (by omega);have nj:=e4 10 (by omega);simp only[Z9,ZT,ne,↓reduceIte,er,hs9,wy,Nat.reduceLeDiff,Z',Z6] at k8 k9 nj e2;rw[e1];simp only[go_sem,h3,nj,hw,h4];refine IH (i+1) _ _ (by omega) ⟨by omega,?_,?_,?_,?_,?_,?_,?_,?_,.sl (s.next+12) 0 (i+1) none 7,?_,?_⟩
   case refine_10 =>
    rw[JS];exact e3.mono (by rw[Z'];omega) fun j hj _=>by rw[Z9,if_neg (by omega)]
   case refine_9=>rw[Z9,if_pos rfl]
   case refine_6 =>
    refine (e5 ?_).put (by omega) _;exact (PX.upto (by omega)).put (by rw[Z6];omega) _
   all_goals simp only[go_sem,h1,h2,h3,k8,k9,e2,YR (XL hd),Nat.reduceEqDiff]
   all_goals omega
  ·have:i=kids.length:=by omega
   subst this;rw[amH] at hv;have Pd:∀x,ZK (s.put 9 x) 11 48 7 (kids.map Z5.norm).length ((kids.map Z5.norm).flatMap fun c=>(Zw c).cells) v:=fun x=>by
    rw[agC,List.flatMap_map];exact hv.mono (by rw[Z'];omega) fun j hj _=>by rw[Z9,if_neg (by omega)]
   have Rk:∀x d,Yn U (s.put 9 x) (d+3) v=some (ZG true (WW (Wj kids))):=fun x d=>by
    rw[(Pd x).Vi U Ej Ei (by omega) OS (d:=d+2) (fun a=>LG _ _ _),Oc,Sm]
   have Re:=hv.Zz;simp only[go_sem,wg,h1,h2,h3,h4,er,hs9,wy,Z8,alh,ZI,Yd,Re,Rk];rw[Zw]
 ·refine⟨aic _,?_,?_,?_,?_,?_,?_,?_,?_,.ZW,?_,ZK.nil _ _ _ _⟩
  case refine_6 =>
   repeat first|exact Fr.own|apply Fr.new|apply Fr.put|apply Fr.upto
   all_goals simp only[go_sem]
  all_goals simp only[go_sem]
  all_goals rfl
end Go.Am
namespace Go.Am
open Go
variable [Z4]
set_option maxRecDepth 100000
set_option maxHeartbeats 8000000
def Step.norm (s:Step):Step:={ s with cond:=s.cond.norm }
def Prog.norm (p:Prog):Prog:={ p with nl:=true,steps:=p.steps.map Step.norm }
def Step.T0 (s:Step):List AV:=[.str s.cond.kind,.int .i64 s.cond.a,.int .i64 s.cond.b,.int .i64 s.cond.mi,.int .i64 s.cond.ma,.str s.cond.pat,ZG s.cond.nl (WW s.cond.kids),.int .i64 s.times,.int .i64 s.within]
theorem zS (s:Step):∃l,YL s=.agg l/\l.length=9:=⟨_,rfl,rfl⟩
theorem zR (s:St)(d:Nat)(c:Step):Yn U s (d+2) (YL c)=some (YL c):=by
 unfold YL;simp only[Vi,Xn,RF,B5,HP,UL,JQ,JP]
theorem c33 (p:Prog)(hf:p.fits):ZE U 33 [Vw p]=some (Vw p.norm):=by
 obtain⟨lines,nl,steps⟩:=p;obtain⟨f1,f2⟩:=hf;simp only at f1 f2;refine ZR k33 (by kernel_rfl) (by simp[ZU,X']) ?_;rw[X9,Prog.norm,X9];simp only[go_sem,r33];refine YH (σ:=Nat) (fun i=>steps.length-i) (fun i=>some (.agg [.int .i64 lines,ZG true (Zx (steps.map Step.norm))])) (fun i e s=>i<=steps.length/\Env.get e 1=.ptr 8 0/\Env.get e 2=.ptr 9 0/\Env.get e 3=.ptr 10 0/\Env.get e 4=.int .i64 i/\10<s.next/\Fr s /\
  s.get 8=some (.cells [.int .i64 lines,ZG nl (Zx steps)] 31 false 0 0)/\s.get 9=some (.cells [.int .i64 0,.ZW] 25 false 0 0) /\
  ∃v,s.get 10=some (.cells [.int .i64 lines,v] 25 false 0 0)/\ZK s 11 144 9 i ((steps.take i).flatMap fun c=>(YL c.norm).cells) v) 0 ?_ rfl ?_
 ·rintro L i e s ⟨hi,h1,h2,h3,h4,hn,PX,er,hs9,v,wy,hv⟩ IH;have ne:∀a k,a<=10->(s.next+k=a)=False:=fun a k ha=>by simp;omega
  have ne':∀a,a<=10->(s.next=a)=False:=fun a ha=>by simp;omega
  have Nc:=PX.at;by_cases hd:i<steps.length
  ·have hx:(Zx steps)[i]? = some (YL steps[i]):=by rw[Wu,aaa hd];rfl
   have hw:=ZN hd (by omega);have hc:=c24 steps[i].cond (f2 _ (adm hd));rw[ZV,ZV] at hc;simp only[Z5.cells,YL] at hx hc;rw[YR (X_ hd)] at er;have UP:(i+1)*104<=1099511627776:=by omega
   have VP:i+1<=1099511627776:=by omega
   have JS:(steps.take (i+1)).flatMap (fun c=>(YL c.norm).cells)=(steps.take i).flatMap (fun c=>(YL c.norm).cells)++steps[i].norm.T0:=by
    rw[alX hd,List.flatMap_append,List.flatMap_singleton];rfl
   have Jl:=hv.Xj;have Re:=hv.Zz;simp only[go_sem,wx,h1,h3,h4,er,wy,Z8,hd,YY,hx,hc,Nc,ZH,Nat.reducePow,amk,Jl,UP,VP];have rB:ZK ((s.upto (s.next+26)).put (s.next+22) (.cells steps[i].norm.T0 144 false 0 0)) 11 144 9 i ((steps.take i).flatMap fun c=>(YL c.norm).cells) v:=hv.mono (by rw[Z',Z6];omega) fun j _ hj=>by rw[Z9,ZT,if_neg (by omega)]
   obtain⟨s1,e1,e2,e3,e4,e5⟩:=rB.app (by rw[Z',Z6];omega) (m:=1) (new:=steps[i].norm.T0) (by omega) (by rfl) (by simp only[Step.T0,go_sem,ZL]);simp only[Step.T0,Step.norm] at e1 e3 e4 e5;have k8:=e4 8 (by omega);have k9:=e4 9 (by omega);have nj:=e4 10 (by omega);simp only[Z9,ZT,ne,↓reduceIte,er,hs9,wy,Nat.reduceLeDiff,Z',Z6] at k8 k9 nj e2;rw[e1];simp only[go_sem,h3,nj,hw,h4];refine IH (i+1) _ _ (by omega) ⟨by omega,?_,?_,?_,?_,?_,?_,?_,?_,.sl (s.next+26) 0 (i+1) none 9,?_,?_⟩
   case refine_10 =>
    rw[JS];exact e3.mono (by rw[Z'];omega) fun j hj _=>by rw[Z9,if_neg (by omega)]
   case refine_9=>rw[Z9,if_pos rfl]
   case refine_6 =>
    refine (e5 ?_).put (by omega) _;exact (PX.upto (by omega)).put (by rw[Z6];omega) _
   all_goals simp only[go_sem,h1,h2,h3,k8,k9,e2,YR (X_ hd),Nat.reduceEqDiff]
   all_goals omega
  ·have:i=steps.length:=by omega
   subst this;rw[amH] at hv;have Pd:∀x,ZK (s.put 9 x) 11 144 9 (steps.map Step.norm).length ((steps.map Step.norm).flatMap fun c=>(YL c).cells) v:=fun x=>by
    rw[agC,List.flatMap_map];exact hv.mono (by rw[Z'];omega) fun j hj _=>by rw[Z9,if_neg (by omega)]
   have Rk:∀x d,Yn U (s.put 9 x) (d+3) v=some (ZG true (Zx (steps.map Step.norm))):=fun x d=>by
    rw[(Pd x).Vi U me mc (by omega) zS (d:=d+2) (fun a=>zR _ _ _)];rfl
   have Re:=hv.Zz;simp only[go_sem,wx,h1,h2,h3,h4,er,hs9,wy,Z8,alh,ZI,YY,Re,Rk]
 ·refine⟨aic _,?_,?_,?_,?_,?_,?_,?_,?_,.ZW,?_,ZK.nil _ _ _ _⟩
  case refine_6 =>
   repeat first|exact Fr.own|apply Fr.new|apply Fr.put|apply Fr.upto
   all_goals simp only[go_sem]
  all_goals simp only[go_sem]
  all_goals rfl
mutual
def sc:Z5->Int->Bool
 |.mk k _ _ _ _ p _ kids,d=>br (decide (d>6)||decide ((k.length:Int)>20)||decide ((p.length:Int)>40)||decide ((kids.length:Int)>10)) false (tj kids (IntKind.i64.wrap (d+1)))
def tj:List Z5->Int->Bool
 |[],_=>true
 |c::l,d=>br (!(sc c d)) false (tj l d)
end
mutual
def leaves:Z5->Nat
 |.mk _ _ _ _ _ _ _ kids=>ZS kids+1
def ZS:List Z5->Nat
 |[]=>0
 |c::l=>leaves c+ZS l
end
theorem DM (p x y:Bool):some (AV.bool (br p x y))=br p (some (.bool x)) (some (.bool y)):=by cases p <;> rfl
theorem c86:∀c:Z5,∀depth:Int,ZE U 86 [Zw c,.int .i64 depth]=some (.bool (sc c depth)):=by
 intro c
 induction c using Z5.ind with
 |h kind a b mi ma pat nl kids ih =>
 intro depth;refine ZR k86 (by kernel_rfl) (by simp[ZU,Zt,still]) ?_;rw[Zw,sc];simp (maxSteps:=2000000) +contextual only[go_sem,r86,ZI,Yd];simp only[DM];refine SR fun QC=>?_
 have hlen:kids.length<=10:=by
  simp only[ame,decide_eq_false_iff_not] at QC;omega
 refine YH (σ:=Nat) (fun i=>kids.length-i) (fun i=>some (AV.bool (tj (kids.drop i) (IntKind.i64.wrap (depth+1))))) (fun i e s=>i<=kids.length/\Env.get e 5=.int .i64 i/\Env.get e 1=.int .i64 depth/\Env.get e 2=.ptr 8 0 /\
  s.get 8=some (.cells [.str kind,.int .i64 a,.int .i64 b,.int .i64 mi,.int .i64 ma,.str pat,ZG nl (WW kids)] 39 false 0 0)) 0 ?_ rfl ?_
 ·rintro L i e s ⟨hi,h5,h1,h2,hs⟩ IH;by_cases hd:i<kids.length
  ·have hx:(WW kids)[i]? = some (Zw kids[i]):=by rw[Vb,aaa hd];rfl
   have hw:=ZN hd (by omega);have hc:=ih kids[i] (adm hd) (IntKind.i64.wrap (depth+1));rw[YR (XL hd)] at hs;rw[ZV] at hx hc;simp only[Z5.cells] at hx hc;simp +contextual only[go_sem,wm,h5,h1,h2,hs,Z8,hd,Yd,hx,hc];rw[abc hd,tj]
   cases hb:sc kids[i] (IntKind.i64.wrap (depth+1))
   ·simp only[go_sem]
   ·simp only[go_sem,hw];refine IH (i+1) _ _ (by omega) ⟨by omega,?_,?_,?_,?_⟩ <;> simp +contextual only[go_sem,h1,h2,hs,YR (XL hd)]
  ·have:i=kids.length:=by omega
   subst this;simp +contextual only[go_sem,wm,h5,h2,hs,ZI,Yd,Z8,alh];rw[alO,tj]
 ·refine⟨aic _,?_,?_,?_,?_⟩ <;> simp +contextual only[go_sem] <;> rfl
theorem RR (c:Z5):1<=leaves c:=by cases c;simp[leaves]
theorem IJ:∀l,l.length<=ZS l
 |[]=>aic _
 |c::l=>by have:=IJ l;have:=RR c;simp only[ZS,akd];omega
theorem II:∀{l:List Z5} {c:Z5},c∈l->leaves c<=ZS l
 |c'::l,c,h=>by
  rw[ZS];rcases alL.1 h with rfl|h
  ·omega
  ·have:=II h;omega
theorem QW (l m:List Z5):ZS (l++m)=ZS l+ZS m:=by
 induction l with
 |nil=>simp[ZS]
 |cons c l ih=>simp only[alU,ZS,ih];omega
theorem c87:∀c:Z5,leaves c<2^62->ZE U 87 [Zw c]=some (.int .i64 (leaves c)):=by
 intro c
 induction c using Z5.ind with
 |h kind a b mi ma pat nl kids ih =>
 intro hb;rw[leaves] at hb ⊢;have hlen:=IJ kids;refine ZR k87 (by kernel_rfl) (by simp[ZU,Zt]) ?_;rw[Zw];simp (maxSteps:=2000000) +contextual only[go_sem,r87];refine YH (σ:=Nat) (fun i=>kids.length-i) (fun i=>some (AV.int .i64 ((ZS kids+1:Nat):Int))) (fun i e s=>i<=kids.length/\Env.get e 4=.int .i64 i/\Env.get e 3=.int .i64 ((ZS (kids.take i)+1:Nat):Int)/\Env.get e 1=.ptr 8 0 /\
  s.get 8=some (.cells [.str kind,.int .i64 a,.int .i64 b,.int .i64 mi,.int .i64 ma,.str pat,ZG nl (WW kids)] 39 false 0 0)) 0 ?_ rfl ?_
 ·rintro L i e s ⟨hi,h4,h3,h1,hs⟩ IH;by_cases hd:i<kids.length
  ·have hx:(WW kids)[i]? = some (Zw kids[i]):=by rw[Vb,aaa hd];rfl
   have hw:=ZN hd (by omega);have hc:=ih kids[i] (adm hd) (by have:=II (adm hd);omega);have JS:ZS (kids.take (i+1))=ZS (kids.take i)+leaves kids[i]:=by
    rw[alX hd,QW];simp[ZS]
   have hle:ZS (kids.take (i+1))<=ZS kids:=by
    have:=QW (kids.take (i+1)) (kids.drop (i+1));rw[List.take_append_drop] at this;omega
   have Mx:IntKind.i64.wrap (((ZS (kids.take i)+1:Nat):Int)+(leaves kids[i]:Int))=((ZS (kids.take (i+1))+1:Nat):Int):=by rw[wrap_i64] <;> omega
   rw[YR (XL hd)] at hs;rw[ZV] at hx hc;simp only[Z5.cells] at hx hc;simp +contextual only[go_sem,wh,h4,h3,h1,hs,Z8,hd,Yd,hx,hc,hw,Mx];refine IH (i+1) _ _ (by omega) ⟨by omega,?_,?_,?_,?_⟩ <;> simp +contextual only[go_sem,h1,hs,YR (XL hd)]
  ·have:i=kids.length:=by omega
   subst this;rw[amH] at h3;simp +contextual only[go_sem,wh,h4,h3,h1,hs,ZI,Yd,Z8,alh]
 ·refine⟨aic _,?_,?_,?_,?_⟩ <;> simp +contextual only[go_sem] <;> rfl
end Go.Am
namespace Go.Am
open Go
variable [Z4]
set_option maxRecDepth 100000
set_option maxHeartbeats 8000000
theorem tf {d:Int}:∀{l:List Z5},tj l d=true->∀c∈l,sc c d=true
 |c::l,h,x,hx=>by
  rw[tj] at h
  cases hc:sc c d
  ·rw[hc] at h;cases h
  ·rw[hc] at h;rcases alL.1 hx with rfl|hx
   ·exact hc
   ·exact tf h x hx
theorem eA {k:XV}{a b mi ma:Int}{p:XV}{nl:Bool}{kids:List Z5}{d:Int}(h:sc (.mk k a b mi ma p nl kids) d=true)(hd:1<=d):d<=6/\k.length<=20/\p.length<=40/\kids.length<=10/\∀c∈kids,sc c (d+1)=true:=by
 rw[sc] at h
 cases hb:(decide (d>6)||decide ((k.length:Int)>20)||decide ((p.length:Int)>40)||decide ((kids.length:Int)>10))
 ·rw[hb,Xv] at h;simp only[ame,decide_eq_false_iff_not] at hb;obtain⟨⟨⟨h1,h2⟩,h3⟩,h4⟩:=hb;have hw:IntKind.i64.wrap (d+1)=d+1:=wrap_i64 (by omega) (by omega);rw[hw] at h;exact⟨by omega,by omega,by omega,by omega,tf h⟩
 ·rw[hb] at h;cases h
theorem tb:∀(c:Z5) (d:Int),1<=d->sc c d=true->c.fits/\leaves c<=11^(7-d.toNat):=by
 intro c
 induction c using Z5.ind with
 |h kind a b mi ma pat nl kids ih =>
 intro d hd h;obtain⟨h1,h2,h3,h4,h5⟩:=eA h hd;have hk:∀x∈kids,x.fits/\leaves x<=11^(6-d.toNat):=fun x hx=>by
  have:=ih x hx (d+1) (by omega) (h5 x hx)
  rwa [show 7-(d+1).toNat=6-d.toNat from by omega] at this
 refine⟨?_,?_⟩
 ·rw[Z5.fits];exact⟨by omega,by omega,fun x hx=>(hk x hx).1⟩
 ·rw[leaves];have:∀l:List Z5,(∀x∈l,x∈kids)->ZS l<=l.length*11^(6-d.toNat):=by
   intro l
   induction l with
   |nil=>intro _;simp[ZS]
   |cons c l EJ =>
    intro hl;have:=EJ fun x hx=>hl x (aab _ hx)
    have:=(hk c (hl c (aba ..))).2;rw[ZS,akd,amx];omega
  have h6:=this kids fun _ h=>h
  have h7:kids.length*11^(6-d.toNat)<=10*11^(6-d.toNat):=amt _ h4;have h8:11^(7-d.toNat)=11*11^(6-d.toNat):=by
   rw[show 7-d.toNat=(6-d.toNat)+1 from by omega,Nat.pow_succ,Nat.mul_comm]
  have h9:1<=11^(6-d.toNat):=Nat.one_le_pow _ _ (by omega);omega
theorem qN {c:Z5}(h:sc c 1=true):leaves c<2^62:=by
 have:=(tb c 1 (by omega) h).2;have e:11^(7-(1:Int).toNat)=1771561:=rfl;rw[e] at this;omega
def GC (c:Z5)(n:Int):Bool:=sc c 1&&decide ((leaves c:Int)<=n)
theorem c21 (c:Z5)(n:Int):ZE U 21 [Zw c,.int .i64 n]=some (.bool (GC c n)):=by
 refine ZR k21 (by kernel_rfl) (by simp[ZU,Zt,still]) ?_;have h86:=c86 c 1;have h87:sc c 1=true->ZE U 87 [Zw c]=some (.int .i64 (leaves c)):=fun h=>c87 c (qN h)
 rw[ZV] at h86 h87 ⊢;simp only[Z5.cells] at h86 h87 ⊢;simp (maxSteps:=2000000) +contextual only[go_sem,r21,h86,h87];rfl
def Mh (n:Int):List Step->Bool
 |[]=>true
 |s::l=>br (!(GC s.cond n)) false (Mh n l)
def short (p:Prog)(n:Int):Bool:=br (decide ((p.steps.length:Int)>10)) false (Mh n p.steps)
theorem c31 (p:Prog)(n:Int):ZE U 31 [Vw p,.int .i64 n]=some (.bool (short p n)):=by
 obtain⟨lines,nl,steps⟩:=p;refine ZR k31 (by kernel_rfl) (by simp[ZU,X',still]) ?_;rw[X9,short];simp (maxSteps:=2000000) +contextual only[go_sem,r31,ZI,YY];simp only[DM];refine SR fun QC=>?_
 have hlen:steps.length<=10:=by
  simp only[decide_eq_false_iff_not] at QC;omega
 refine YH (σ:=Nat) (fun i=>steps.length-i) (fun i=>some (AV.bool (Mh n (steps.drop i)))) (fun i e s=>i<=steps.length/\Env.get e 5=.int .i64 i/\Env.get e 1=.int .i64 n/\Env.get e 2=.ptr 8 0 /\
  s.get 8=some (.cells [.int .i64 lines,ZG nl (Zx steps)] 31 false 0 0)) 0 ?_ rfl ?_
 ·rintro L i e s ⟨hi,h5,h1,h2,hs⟩ IH;by_cases hd:i<steps.length
  ·have hx:(Zx steps)[i]? = some (YL steps[i]):=by rw[Wu,aaa hd];rfl
   have hw:=ZN hd (by omega);have hc:=c21 steps[i].cond n;rw[YR (X_ hd)] at hs;rw[ZV] at hc;simp only[Z5.cells,YL] at hx hc;simp +contextual only[go_sem,wL,h5,h1,h2,hs,Z8,hd,YY,hx,hc];rw[abc hd,Mh]
   cases hb:GC steps[i].cond n
   ·simp only[go_sem]
   ·simp only[go_sem,hw];refine IH (i+1) _ _ (by omega) ⟨by omega,?_,?_,?_,?_⟩ <;> simp +contextual only[go_sem,h1,h2,hs,YR (X_ hd)]
  ·have:i=steps.length:=by omega
   subst this;simp +contextual only[go_sem,wL,h5,h2,hs,ZI,YY,Z8,alh];rw[alO,Mh]
 ·refine⟨aic _,?_,?_,?_,?_⟩ <;> simp +contextual only[go_sem] <;> rfl
theorem Gz {p:Prog}{n:Int}(h:short p n=true):p.steps.length<=10/\∀s∈p.steps,sc s.cond 1=true/\(leaves s.cond:Int)<=n:=by
 unfold short at h
 cases hb:decide ((p.steps.length:Int)>10)
 ·rw[hb,Xv] at h;refine⟨by simp only[decide_eq_false_iff_not] at hb;omega,?_⟩;have:∀l:List Step,Mh n l=true->∀s∈l,sc s.cond 1=true/\(leaves s.cond:Int)<=n:=by
   intro l
   induction l with
   |nil=>intro _ s hs;cases hs
   |cons x l ih =>
    intro h s hs;rw[Mh] at h
    cases hx:GC x.cond n
    ·rw[hx] at h;cases h
    ·rw[hx] at h;rcases alL.1 hs with rfl|hs
     ·simpa[GC] using hx
     ·exact ih h s hs
  exact this _ h
 ·rw[hb] at h;cases h
theorem wK {p:Prog}{n:Int}(h:short p n=true):p.fits:=by
 obtain⟨h1,h2⟩:=Gz h;exact⟨by omega,fun s hs=>(tb _ 1 (by omega) (h2 s hs).1).1⟩
end Go.Am
namespace Go.Am
open Go
variable [Z4]
set_option maxRecDepth 100000
def afJ:RC:=(sO [Zp 1 48 0,Zc 2] (sO [ZX 3 0 1,Z0 4 3,TY 5 9 4 110 111 116,om 6 5,VM 7 6 0 1,XH 8 6 7,zl 9 6 9 8 97 108 108,Yo 10 6 9,om 11 10,VM 12 11 0 1,XH 13 11 12,zl 14 11 9 13 97 110 121,Yo 15 11 14,om 2 15] .ret))
theorem ajs:Ze 213=some ([.tmp 2],afJ):=by kernel_rfl
def afI:RC:=(sO [ZA 4 0] (sO [om 5 0,om 6 1,sJ 7 3 5 6,kZ 8 7 65537 3 3,om 4 8] .ret))
theorem ajr:Ze 170=some ([.tmp 4],afI):=by kernel_rfl
def By:RC:=(sO [YW 20 3 19 18] (sQ (cS 20 (.exit 0)) (sQ (.block 1 (sO [Zk 21 7 17 19,Zr 22 7 21,Om 5 0 0 0 0 48,YU 7 5 22] (oP [om 23 3,Zr 24 7 5,YN 25 171 24,YV 26 170 23 25,om 3 26]))) (oP [YT 27 3 19 1,om 19 27]))))
def acw:RC:=(sO [Zp 1 48 0,ZA 2 0] (sQ (sO [Zr 6 7 1,YN 7 213 6,Wh 8 7] (cT 8 (sQ (.TP 8 [K5 9 156,ZX 10 0 1,Z0 11 10,zm 12 238 9 11,o 13 (.fd1 6 (.t 12)),Zr 14 7 1,⟨some 15,none,none,true,.IU (.t 13) [(.t 14)]⟩,om 2 15]) .ret))) (sO [ZA 3 1] (sQ (sO [ZX 16 6 1,Z0 17 16,YO 18 17,ZA 19 0] (.block 0 (.loop By))) (sO [om 28 3,om 2 28] .ret)))))
theorem ajE:Ze 171=some ([.tmp 2],acw):=by kernel_rfl
def afK:RC:=(sO [Zp 1 48 0,ZA 2 0] (sO [ZX 3 4 1,Z0 4 3,YT 5 3 4 3,om 2 5] .ret))
theorem aju:Ze 192=some ([.tmp 2],afK):=by kernel_rfl
def afL:RC:=(sO [Zp 1 48 0,ZA 2 0] (sO [ZX 3 3 1,Z0 4 3,YT 5 3 4 2,om 2 5] .ret))
theorem ajw:Ze 193=some ([.tmp 2],afL):=by kernel_rfl
def afM:RC:=(sO [Zp 1 48 0,ZA 2 0] (sO [ZA 2 1] .ret))
theorem ajy:Ze 194=some ([.tmp 2],afM):=by kernel_rfl
def afN:RC:=(sO [Zp 1 48 0,ZA 2 0] (sO [ZA 2 0] .ret))
theorem ajz:Ze 195=some ([.tmp 2],afN):=by kernel_rfl
def afO:RC:=(sO [Zp 1 48 0,ZA 2 0] (sO [ZX 3 3 1,Z0 4 3,om 2 4] .ret))
theorem ajA:Ze 208=some ([.tmp 2],afO):=by kernel_rfl
def afP:RC:=(sO [Zp 1 48 0,ZA 2 0] (sO [ZA 2 4] .ret))
theorem ajC:Ze 210=some ([.tmp 2],afP):=by kernel_rfl
def Bm:RC:=(sO [YW 15 3 14 13] (sQ (cS 15 (.exit 0)) (sQ (.block 1 (sO [Zk 16 9 12 14,Zr 17 9 16,zP 6 0 0 0 0 0 0 144,YU 9 6 17] (sO [om 18 3,ZX 19 0 6,Zr 20 7 19,YN 21 171 20,YV 22 170 18 21,om 3 22] (oP [om 23 4,ZX 24 7 6,Z0 25 24,ZX 26 8 6,Z0 27 26,YT 28 3 27 1,sJ 29 3 25 28,TK 30 3 23 29,om 4 30])))) (oP [YT 31 3 14 1,om 14 31]))))
def ahe:RC:=(sO [Zp 1 25 0,ZA 2 0] (sO [ZX 7 0 1,Z0 8 7,MS 9 3 1 8,YT 10 3 9 1,om 3 10,ZA 4 0] (sQ (sO [ZX 11 1 1,Z0 12 11,YO 13 12,ZA 14 0] (.block 0 (.loop Bm))) (sO [om 32 3,om 33 4,YV 34 170 32 33,om 2 34] .ret))))
theorem akT:Ze 102=some ([.tmp 2],ahe):=by kernel_rfl
def afH:RC:=(sO [ZA 4 0] (sO [om 5 0,om 6 1,sJ 7 3 5 6,kZ 8 7 65537 3 3,om 4 8] .ret))
theorem ajq:Ze 100=some ([.tmp 4],afH):=by kernel_rfl
def HD:RC:=(sQ (sO [om 21 4,ZX 22 6 1,Z0 23 22,YO 24 23,YW 25 3 21 24] (cS 25 (.exit 1))) (sQ (.block 2 (oP [om 28 3,ZX 29 6 1,Z0 30 29,om 31 4,Zk 32 7 30 31,Zr 33 7 32,YN 34 101 33,YV 35 100 28 34,om 3 35])) (oP [om 26 4,YT 27 3 26 1,om 4 27])))
def afl:RC:=(sO [Zp 1 39 0,ZA 2 0] (sQ (sO [ZX 5 0 1,Z0 6 5] (.block 0 (sQ (sO [MQ 8 9 6 112 117 108 115 101,om 7 8] (cS 7 (oP [TY 9 9 6 103 97 112,om 7 9]))) (cO 7 (sO [ZX 10 4 1,Z0 11 10,YT 12 3 11 3,om 2 12] .ret) (sQ (sO [Q6 14 9 6 105 100 108 101,om 13 14] (cS 13 (oP [MQ 15 9 6 115 101 116 117 112,om 13 15]))) (cO 13 (sO [ZX 16 3 1,Z0 17 16,YT 18 3 17 2,om 2 18] .ret) (sO [Q6 20 9 6 114 117 110 116,om 19 20] (cT 19 (sO [ZA 2 4] .ret))))))))) (sO [ZA 3 1] (sQ (sO [ZA 4 0] (.block 1 (.loop HD))) (sO [om 36 3,om 2 36] .ret)))))
theorem ai2:Ze 101=some ([.tmp 2],afl):=by kernel_rfl
def wP:RC:=(sQ (sO [om 10 5,ZX 11 1 1,Z0 12 11,YO 13 12,YW 14 3 10 13] (cS 14 (.exit 0))) (sQ (.block 1 (sO [om 17 3,ZX 18 1 1,Z0 19 18,om 20 5,Zk 21 9 19 20,ZX 22 0 21,Zr 23 7 22,YN 24 101 23,YV 25 100 17 24,om 3 25] (.TP 17 [om 26 4,ZX 27 1 1,Z0 28 27,om 29 5,Zk 30 9 28 29,ZX 31 7 30,Z0 32 31,ZX 33 1 1,Z0 34 33,om 35 5,Zk 36 9 34 35,ZX 37 8 36,Z0 38 37,YT 39 3 38 1,sJ 40 3 32 39,TK 41 3 26 40,om 4 41]))) (oP [om 15 5,YT 16 3 15 1,om 5 16])))
def r38:RC:=(sO [Zp 1 31 0,ZA 2 0] (sO [ZX 6 0 1,Z0 7 6,MS 8 3 1 7,YT 9 3 8 1,om 3 9] (sO [ZA 4 0] (sQ (sO [ZA 5 0] (.block 0 (.loop wP))) (sO [om 42 3,om 43 4,kZ 44 43 65537 3 3,YV 45 100 42 44,om 2 45] .ret)))))
theorem k38:Ze 38=some ([.tmp 2],r38):=by kernel_rfl
end Go.Am
namespace Go.Am
open Go
variable [Z4]
set_option maxRecDepth 100000
set_option maxHeartbeats 8000000
attribute [go_sem] NJ amg alZ alU
def GG (a b:Int):Int:=min (IntKind.i64.wrap (a*b)) 65537
theorem abf (a b:Int):ZE U 100 [.int .i64 a,.int .i64 b]=some (.int .i64 (GG a b)):=by
 refine ZR ajq (by kernel_rfl) rfl ?_;simp +contextual only[go_sem,afH];rfl
theorem acv (a b:Int):ZE U 170 [.int .i64 a,.int .i64 b]=some (.int .i64 (GG a b)):=by
 refine ZR ajr (by kernel_rfl) rfl ?_;simp +contextual only[go_sem,afI];rfl
def XD (k:XV):Bool:=k==[110,111,116]||(k==[97,108,108]||k==[97,110,121])
theorem aaV (c:Z5):ZE U 213 [Zw c]=some (.bool (XD c.kind)):=by
 refine ZR ajs (by kernel_rfl) (by simp[ZU,Zt]) ?_;rw[ZV];simp +contextual only[go_sem,afJ,Z5.cells];rw[XD]
 cases c.kind==[110,111,116] <;> rfl
theorem ajt (c:Z5):ZE U 192 [Zw c]=some (.int .i64 (IntKind.i64.wrap (c.ma+3))):=by
 refine ZR aju (by kernel_rfl) (by simp[ZU,Zt]) ?_;rw[ZV];simp +contextual only[go_sem,afK,Z5.cells]
theorem ajv (c:Z5):ZE U 193 [Zw c]=some (.int .i64 (IntKind.i64.wrap (c.mi+2))):=by
 refine ZR ajw (by kernel_rfl) (by simp[ZU,Zt]) ?_;rw[ZV];simp +contextual only[go_sem,afL,Z5.cells]
theorem ajx (c:Z5):ZE U 194 [Zw c]=some (.int .i64 1):=by
 refine ZR ajy (by kernel_rfl) (by simp[ZU,Zt]) ?_;rw[ZV];simp +contextual only[go_sem,afM,Z5.cells]
theorem ahG (c:Z5):ZE U 195 [Zw c]=some (.int .i64 0):=by
 refine ZR ajz (by kernel_rfl) (by simp[ZU,Zt]) ?_;rw[ZV];simp +contextual only[go_sem,afN,Z5.cells]
theorem ahH (c:Z5):ZE U 208 [Zw c]=some (.int .i64 c.mi):=by
 refine ZR ajA (by kernel_rfl) (by simp[ZU,Zt]) ?_;rw[ZV];simp +contextual only[go_sem,afO,Z5.cells]
theorem ajB (c:Z5):ZE U 210 [Zw c]=some (.int .i64 4):=by
 refine ZR ajC (by kernel_rfl) (by simp[ZU,Zt]) ?_;rw[ZV];simp +contextual only[go_sem,afP,Z5.cells]
def WQ (d:Kd)(c:Z5):Int:=match d with
 |.Vj|.gap=>IntKind.i64.wrap (c.ma+3)
 |.idle|.setup=>IntKind.i64.wrap (c.mi+2)
 |.Uf=>4
 |_=>1
def Kd.leaf:Kd->Bool
 |.QG|.EU|.OV|.other=>false
 |_=>true
theorem o6 (d:Kd)(h:d.leaf=true)(c:Z5)(s:St):GR U (Pk d) [Zw c] s=some (.int .i64 (WQ d c),s):=by
 cases d <;> first|cases h|skip
 all_goals simp only[Pk,NJ,amg,alZ,ajt,ajv,ajx,ajB,U8,WQ]
theorem NM (k:XV)(h:(ZF k).known=true):XD k=!(ZF k).leaf:=by
 obtain⟨h0,h1,h2,h3,h4,h5,h6,h7,h8,h9,h10,h11,h12,h13,h14⟩:=UN k;rw[XD,h12,h13,h14];generalize ZF k=d at *
 cases d <;> first|rfl|cases h
mutual
def Z5.allKnown:Z5->Bool
 |.mk k _ _ _ _ _ _ kids=>(ZF k).known&&((ZF k).leaf||Jz kids)
def Jz:List Z5->Bool
 |[]=>true
 |c::l=>c.allKnown&&Jz l
end
theorem FV:∀{l:List Z5},Jz l=true->∀c∈l,c.allKnown=true
 |c::l,h,x,hx=>by
  rw[Jz,agw] at h;rcases alL.1 hx with rfl|hx
  ·exact h.1
  ·exact FV h.2 x hx
mutual
def EC:Z5->Int
 |.mk k a b mi ma p nl kids=>bif (ZF k).leaf then WQ (ZF k) (.mk k a b mi ma p nl kids) else M8 kids 1
def M8:List Z5->Int->Int
 |[],x=>x
 |c::l,x=>M8 l (GG x (EC c))
end
theorem ajD:∀c:Z5,c.fits->c.allKnown=true->ZE U 171 [Zw c]=some (.int .i64 (EC c)):=by
 intro c
 induction c using Z5.ind with
 |h kind a b mi ma pat nl kids ih =>
 intro hf hk;rw[Z5.fits] at hf;obtain⟨f1,f2,f3⟩:=hf;rw[Z5.allKnown,agw] at hk;obtain⟨Jd,BW⟩:=hk;refine ZR ajE (by kernel_rfl) (by simp[ZU,Zt]) ?_;have h213:=aaV (.mk kind a b mi ma pat nl kids);have WE:(ZF kind).leaf=true->∀s,GR U (Pk (ZF kind)) [Zw (.mk kind a b mi ma pat nl kids)] s=some (.int .i64 (WQ (ZF kind) (.mk kind a b mi ma pat nl kids)),s):=fun h s=>o6 _ h _ s
 have pZ:=M1 kind;rw[show (Z5.mk kind a b mi ma pat nl kids).kind=kind from rfl,NM kind Jd] at h213;rw[EC];rw[Zw] at h213 WE ⊢;rw[Vz] at pZ;generalize WQ (ZF kind) (.mk kind a b mi ma pat nl kids)=ls at *
 cases Tk:(ZF kind).leaf
 ·rw[Tk] at h213 BW;simp (maxSteps:=2000000) +contextual only[go_sem,acw,h213,ZI,Yd];rw[amf] at BW;refine YH (σ:=Nat×Int) (fun x=>kids.length-x.1) (fun x=>some (AV.int .i64 (M8 (kids.drop x.1) x.2))) (fun x e s=>x.1<=kids.length/\Env.get e 3=.int .i64 x.2/\Env.get e 17=ZG nl (WW kids)/\Env.get e 18=.int .i64 kids.length/\Env.get e 19=.int .i64 x.1) (0,1) ?_ rfl ?_
  ·rintro L ⟨i,acc⟩ e s ⟨hi,h3,h17,h18,h19⟩ IH;simp only at hi h3 h17 h18 h19 IH ⊢;by_cases hd:i<kids.length
   ·have hx:(WW kids)[i]? = some (Zw kids[i]):=by rw[Vb,aaa hd];rfl
    have hw:=ZN hd (by omega);have hc:=ih kids[i] (adm hd) (f3 _ (adm hd)) (FV BW _ (adm hd));rw[ZV] at hx hc;simp only[Z5.cells] at hx hc;rw[YR (XL hd)] at h17;simp +contextual only[go_sem,By,h3,h17,h18,h19,Z8,hd,hx,hc,acv,ZL,hw];rw[abc hd,M8];refine IH (i+1,GG acc (EC kids[i])) _ _ (by simp only;omega) ⟨by simp only;omega,?_,?_,?_,?_⟩ <;> simp +contextual only[go_sem,h17,h18,YR (XL hd)]
   ·have:i=kids.length:=by omega
    subst this;simp +contextual only[go_sem,By,h3,h18,h19,Z8,alh];rw[alO,M8]
  ·refine⟨aic _,?_,?_,?_,?_⟩ <;> simp +contextual only[go_sem] <;> rfl
 ·rw[Tk] at h213;have WE:=WE Tk;simp (maxSteps:=2000000) +contextual only[go_sem,acw,h213,aaJ,pZ,WE]
end Go.Am
namespace Go.Am
open Go
variable [Z4]
set_option maxRecDepth 100000
set_option maxHeartbeats 8000000
def WL:List Step->Int->Int->Int×Int
 |[],n,x=>(n,x)
 |s::l,n,x=>WL l (GG n (EC s.cond)) (IntKind.i64.wrap (x+IntKind.i64.wrap (s.times*IntKind.i64.wrap (s.within+1))))
def Qp (p:Prog):Int:=GG (WL p.steps (IntKind.i64.wrap (2^p.lines.toNat+1)) 0).1 (WL p.steps (IntKind.i64.wrap (2^p.lines.toNat+1)) 0).2
theorem aem (p:Prog)(hf:p.fits)(hl:0<=p.lines/\p.lines<=16)(hk:∀s∈p.steps,s.cond.allKnown=true):ZE U 102 [Vw p]=some (.int .i64 (Qp p)):=by
 obtain⟨lines,nl,steps⟩:=p;obtain⟨f1,f2⟩:=hf;simp only at f1 f2 hl hk;refine ZR akT (by kernel_rfl) (by simp[ZU,X']) ?_;rw[X9,Qp];simp only[go_sem,ahe,ZI,YY,Tq U _ _ _ hl];refine YH (σ:=Nat×Int×Int) (fun x=>steps.length-x.1) (fun x=>some (AV.int .i64 (GG (WL (steps.drop x.1) x.2.1 x.2.2).1 (WL (steps.drop x.1) x.2.1 x.2.2).2))) (fun x e s=>x.1<=steps.length/\Env.get e 3=.int .i64 x.2.1/\Env.get e 4=.int .i64 x.2.2/\Env.get e 12=ZG nl (Zx steps)/\Env.get e 13=.int .i64 steps.length/\Env.get e 14=.int .i64 x.1) (0,IntKind.i64.wrap (2^lines.toNat+1),0) ?_ rfl ?_
 ·rintro L ⟨i,n,x⟩ e s ⟨hi,h3,h4,h12,h13,h14⟩ IH;simp only at hi h3 h4 h12 h13 h14 IH ⊢;by_cases hd:i<steps.length
  ·have hx:(Zx steps)[i]? = some (YL steps[i]):=by rw[Wu,aaa hd];rfl
   have hw:=ZN hd (by omega);have hc:=ajD steps[i].cond (f2 _ (adm hd)) (hk _ (adm hd));rw[ZV] at hc;simp only[Z5.cells,YL] at hx hc;rw[YR (X_ hd)] at h12;simp only[go_sem,Bm,h3,h4,h12,h13,h14,Z8,hd,hx,hc,acv,ZL,hw];rw[abc hd,WL];refine IH (i+1,GG n (EC steps[i].cond),IntKind.i64.wrap (x+IntKind.i64.wrap (steps[i].times*IntKind.i64.wrap (steps[i].within+1)))) _ _ (by simp only;omega) ⟨by simp only;omega,?_,?_,?_,?_,?_⟩ <;> simp only[go_sem,h12,h13,YR (X_ hd)]
  ·have:i=steps.length:=by omega
   subst this;simp only[go_sem,Bm,h3,h4,h13,h14,Z8,alh,acv];rw[alO,WL]
 ·refine⟨aic _,?_,?_,?_,?_,?_⟩ <;> simp only[go_sem] <;> rfl
theorem ND (lines:Int):∀(c:Z5) (d:Int),Mr lines c d=0->c.allKnown=true/\((ZF c.kind).leaf=true->c.kids=[]):=by
 intro c
 induction c using Z5.ind with
 |h kind a b mi ma pat nl kids ih =>
 intro d h;rw[Mr] at h;have ne:∀{p:Bool} {e x:Int},(e≠0)->br p e x=0->p=false/\x=0:=fun {p e x} he h=>by
  cases p
  ·exact⟨rfl,h⟩
  ·exact absurd h he
 obtain⟨_,h⟩:=ne (by omega) h;obtain⟨hk,h⟩:=ne (by omega) h;obtain⟨hu,h⟩:=ne (by omega) h;obtain⟨_,h⟩:=ne (by omega) h;obtain⟨_,h⟩:=ne (by omega) h;obtain⟨_,h⟩:=ne (by omega) h;obtain⟨_,h⟩:=ne (by omega) h;obtain⟨_,h⟩:=ne (by omega) h;obtain⟨_,h⟩:=ne (by omega) h;obtain⟨_,h⟩:=ne (by omega) h;obtain⟨_,h⟩:=ne (by omega) h;have hk:(ZF kind).known=true:=by simpa using hk
 have QJ:(ZF kind).leaf=true->kids=[]:=fun hl=>by
  have hun:(YQ (ZF kind)).kids=false:=by
   cases hd:ZF kind <;> rw[hd] at hl <;> first|rfl|cases hl
  simp only[ame,Bool.and_eq_false_iff,hun] at hu;have:=hu.2;simp only[amp,Bool.true_eq_false,decide_eq_false_iff_not,false_or] at this
  cases kids with
  |nil=>rfl
  |cons c l=>simp at this
 refine⟨?_,QJ⟩;rw[Z5.allKnown,hk,al9]
 cases hl:(ZF kind).leaf
 ·rw[amf];have:∀l:List Z5,(∀x∈l,x∈kids)->Pz lines l (IntKind.i64.wrap (d+1))=0->Jz l=true:=by
   intro l
   induction l with
   |nil=>intro _ _;rfl
   |cons c l EJ =>
    intro hl h;rw[Pz] at h
    cases hb:Mr lines c (IntKind.i64.wrap (d+1)) != 0
    ·rw[hb,Xv] at h;rw[Jz,EJ (fun x hx=>hl x (aab _ hx)) h,(ih c (hl c (aba ..)) _ (by simpa using hb)).1];rfl
    ·rw[hb,Xo] at h;rw[h] at hb;cases hb
  exact this kids (fun _ h=>h) h
 ·rfl
theorem Dn (n a b:Int):within n a b=br (outside n a b) 3 0:=rfl
theorem kF (lines:Int)(hl:1<=lines)(CM:lines<=16):∀(l:List Step) (i:Nat),vy lines i l=Ls lines i l
 |[],_=>rfl
 |s::l,i=>by
  rw[vy,Ls,aam lines hl CM,kF lines hl CM l (i+1)];simp only[Dn];generalize Mr lines s.cond 1=c;generalize outside s.times 1 64=a;generalize outside s.within 0 255=b;generalize ((i:Int)==0&&s.within != 0)=d
  cases hc:c != 0
  ·have:c=0:=by simpa using hc
   subst this
   cases a <;> cases b <;> cases d <;> rfl
  ·simp only[XY,hc,Xo]
theorem s8 (p:Prog):lZ p=At p:=by
 rw[lZ,At,RY,Dn]
 cases h:outside p.lines 1 16
 ·have hl:1<=p.lines/\p.lines<=16:=by
   simp only[outside,ame,decide_eq_false_iff_not] at h;omega
  rw[kF p.lines hl.1 hl.2]
  cases h1:((p.steps.length:Int)==0) <;> cases h2:decide ((p.steps.length:Int)>8) <;> rfl
 ·rfl
structure Prog.ok (p:Prog):Prop where
 lines:1<=p.lines/\p.lines<=16
 ne:p.steps≠[]
 few:p.steps.length<=8
 cond:∀s∈p.steps,Mr p.lines s.cond 1=0
 tm:∀s∈p.steps,1<=s.times/\s.times<=64
 wi:∀s∈p.steps,0<=s.within/\s.within<=255
 first:∀s,p.steps[0]? = some s->s.within=0
theorem UB {n a b:Int}(h:outside n a b=false):a<=n/\n<=b:=by
 simp only[outside,ame,decide_eq_false_iff_not] at h;omega
theorem Wb {p:Bool}{e x:Int}(he:e≠0)(h:br p e x=0):p=false/\x=0:=by
 cases p
 ·exact⟨rfl,h⟩
 ·exact absurd h he
theorem B9 {e x:Int}(h:br (e != 0) e x=0):e=0/\x=0:=by
 cases he:e != 0
 ·rw[he,Xv] at h;exact⟨by simpa using he,h⟩
 ·rw[he,Xo] at h;rw[h] at he;cases he
theorem Dm {lines:Int}:∀{l:List Step} {i:Nat},Ls lines i l=0->∀s∈l,Mr lines s.cond 1=0/\(1<=s.times/\s.times<=64)/\(0<=s.within/\s.within<=255)
 |x::l,i,h,s,hs=>by
  rw[Ls] at h;obtain⟨h1,h⟩:=B9 h;obtain⟨h2,h⟩:=Wb (by omega) h;rcases alL.1 hs with rfl|hs
  ·simp only[ame] at h2;exact⟨h1,UB h2.1.1,UB h2.1.2⟩
  ·exact Dm h s hs
theorem s9 {p:Prog}(h:At p=0):p.ok:=by
 rw[At] at h;obtain⟨h1,h⟩:=B9 h;obtain⟨h2,h⟩:=Wb (by omega) h;obtain⟨h3,h⟩:=Wb (by omega) h;have h4:=Dm h;refine⟨?_,?_,?_,fun s hs=>(h4 s hs).1,fun s hs=>(h4 s hs).2.1,fun s hs=>(h4 s hs).2.2,?_⟩
 ·rw[RY] at h1;exact UB (Wb (x:=0) (by omega:(3:Int)≠0) h1).1
 ·intro e;rw[e] at h2;cases h2
 ·simp only[decide_eq_false_iff_not] at h3;omega
 ·intro s hs
  cases hp:p.steps with
  |nil=>rw[hp] at hs;cases hs
  |cons x l =>
   rw[hp] at hs h
   cases hs
   rw[Ls] at h;obtain⟨_,h⟩:=B9 h;obtain⟨h2,_⟩:=Wb (by omega) h;simp only[ame] at h2
   simpa using h2.2
theorem Prog.ok.known {p:Prog}(h:p.ok):∀s∈p.steps,s.cond.allKnown=true:=fun s hs=>(ND _ _ _ (h.cond s hs)).1
mutual
def aj:Z5->Int
 |.mk k a b mi ma p nl kids=>bif (ZF k==.Vj||ZF k==.gap)||(ZF k==.idle||ZF k==.setup)||ZF k==.Uf then WQ (ZF k) (.mk k a b mi ma p nl kids) else Ac kids 1
def Ac:List Z5->Int->Int
 |[],x=>x
 |c::l,x=>Ac l (GG x (aj c))
end
theorem ah0:∀c:Z5,c.fits->ZE U 101 [Zw c]=some (.int .i64 (aj c)):=by
 intro c
 induction c using Z5.ind with
 |h kind a b mi ma pat nl kids ih =>
 intro hf;rw[Z5.fits] at hf;obtain⟨f1,f2,f3⟩:=hf;refine ZR ai2 (by kernel_rfl) (by simp[ZU,Zt]) ?_;have afk:∀e s,Env.get e 3=.int .i64 1->Env.get e 4=.int .i64 0->Env.get e 1=.ptr 8 0->s.get 8=some (.cells [.str kind,.int .i64 a,.int .i64 b,.int .i64 mi,.int .i64 ma,.str pat,ZG nl (WW kids)] 39 false 0 0)->∀ks,(∀e' s' x,Env.get e' 3=.int .i64 x->fX U (Mt U [.tmp 2]) ks 1 e' s'=some (.int .i64 x)) ->
   SD U (Mt U [.tmp 2]) ks HD e s=some (.int .i64 (Ac kids 1)):=by
  intro e s h3 h4 h1 hs ks hk;refine YH (σ:=Nat×Int) (fun x=>kids.length-x.1) (fun x=>some (AV.int .i64 (Ac (kids.drop x.1) x.2))) (fun x e s=>x.1<=kids.length/\Env.get e 3=.int .i64 x.2/\Env.get e 4=.int .i64 x.1/\Env.get e 1=.ptr 8 0/\s.get 8=some (.cells [.str kind,.int .i64 a,.int .i64 b,.int .i64 mi,.int .i64 ma,.str pat,ZG nl (WW kids)] 39 false 0 0)) (0,1) ?_ rfl ⟨aic _,h3,h4,h1,hs⟩;clear h3 h4 h1 hs e s;rintro L ⟨i,acc⟩ e s ⟨hi,h3,h4,h1,hs⟩ IH;simp only at hi h3 h4 h1 hs IH ⊢;by_cases hd:i<kids.length
  ·have hx:(WW kids)[i]? = some (Zw kids[i]):=by rw[Vb,aaa hd];rfl
   have hw:=ZN hd (by omega);have hc:=ih kids[i] (adm hd) (f3 _ (adm hd));rw[ZV] at hx hc;simp only[Z5.cells] at hx hc;rw[YR (XL hd)] at hs;simp only[go_sem,HD,h3,h4,h1,hs,Z8,hd,Yd,hx,hc,abf,hw];rw[abc hd,Ac];refine IH (i+1,GG acc (aj kids[i])) _ _ (by simp only;omega) ⟨by simp only;omega,?_,?_,?_,?_⟩ <;> simp only[go_sem,h1,hs,YR (XL hd)]
  ·have:i=kids.length:=by omega
   subst this;simp only[go_sem,HD,h4,h1,hs,ZI,Yd,Z8,alh];rw[alO,Ac];exact hk _ _ _ (by simp only[go_sem,h3])
 rw[Zw,aj];obtain⟨h0,h1,h2,h3,h4,h5,h6,h7,h8,h9,h10,h11,h12,h13,h14⟩:=UN kind;generalize ZF kind=d at *
 cases d
 all_goals simp only[reduceCtorEq,decide_true,decide_false] at h1 h2 h3 h4 h5 h6 h7 h8 h9 h10 h11 h12 h13 h14
 all_goals simp only[go_sem,afl,h7,h8,h9,h10,h11]
 all_goals first
  |rfl
  |(refine afk _ _ ?_ ?_ ?_ ?_ _ ?_
    rotate_right 1
    ·intro e' s' x h;simp only[go_sem,h]
    all_goals simp only[go_sem])
end Go.Am
namespace Go.Am
open Go
variable [Z4]
set_option maxRecDepth 100000
set_option maxHeartbeats 8000000
def PA:List Step->Int->Int->Int×Int
 |[],n,x=>(n,x)
 |s::l,n,x=>PA l (GG n (aj s.cond)) (IntKind.i64.wrap (x+IntKind.i64.wrap (s.times*IntKind.i64.wrap (s.within+1))))
def Ae (p:Prog):Int:=GG (PA p.steps (IntKind.i64.wrap (2^p.lines.toNat+1)) 0).1 (min (PA p.steps (IntKind.i64.wrap (2^p.lines.toNat+1)) 0).2 65537)
theorem c38 (p:Prog)(hf:p.fits)(hl:0<=p.lines/\p.lines<=16):ZE U 38 [Vw p]=some (.int .i64 (Ae p)):=by
 obtain⟨lines,nl,steps⟩:=p;obtain⟨f1,f2⟩:=hf;simp only at f1 f2 hl;refine ZR k38 (by kernel_rfl) (by simp[ZU,X']) ?_;rw[X9,Ae];simp only[go_sem,r38,Tq U _ _ _ hl];refine YH (σ:=Nat×Int×Int) (fun x=>steps.length-x.1) (fun x=>some (AV.int .i64 (GG (PA (steps.drop x.1) x.2.1 x.2.2).1 (min (PA (steps.drop x.1) x.2.1 x.2.2).2 65537)))) (fun x e s=>x.1<=steps.length/\Env.get e 3=.int .i64 x.2.1/\Env.get e 4=.int .i64 x.2.2/\Env.get e 5=.int .i64 x.1/\Env.get e 1=.ptr 8 0/\s.get 8=some (.cells [.int .i64 lines,ZG nl (Zx steps)] 31 false 0 0)) (0,IntKind.i64.wrap (2^lines.toNat+1),0) ?_ rfl ?_
 ·rintro L ⟨i,n,x⟩ e s ⟨hi,h3,h4,h5,h1,hs⟩ IH;simp only at hi h3 h4 h5 h1 hs IH ⊢;by_cases hd:i<steps.length
  ·have hx:(Zx steps)[i]? = some (YL steps[i]):=by rw[Wu,aaa hd];rfl
   have hw:=ZN hd (by omega);have hc:=ah0 steps[i].cond (f2 _ (adm hd));rw[ZV] at hc;simp only[Z5.cells,YL] at hx hc;rw[YR (X_ hd)] at hs;simp only[go_sem,wP,h3,h4,h5,h1,hs,Z8,hd,YY,hx,hc,abf,hw];rw[abc hd,PA];refine IH (i+1,GG n (aj steps[i].cond),IntKind.i64.wrap (x+IntKind.i64.wrap (steps[i].times*IntKind.i64.wrap (steps[i].within+1)))) _ _ (by simp only;omega) ⟨by simp only;omega,?_,?_,?_,?_,?_⟩ <;> simp only[go_sem,h1,hs,YR (X_ hd)]
  ·have:i=steps.length:=by omega
   subst this;simp only[go_sem,wP,h3,h4,h5,h1,hs,ZI,YY,Z8,alh,abf];rw[alO,PA]
 ·refine⟨aic _,?_,?_,?_,?_,?_⟩ <;> simp only[go_sem] <;> rfl
theorem mq {lines:Int}{k:XV}{a b mi ma:Int}{p:XV}{nl:Bool}{kids:List Z5}{d:Int}(h:Mr lines (.mk k a b mi ma p nl kids) d=0) :
  Pz lines kids (IntKind.i64.wrap (d+1))=0/\((YQ (ZF k)).mi=true->1<=mi/\mi<=255)/\((YQ (ZF k)).ma=true->1<=ma/\ma<=255):=by
 rw[Mr] at h;obtain⟨_,h⟩:=Wb (by omega) h;obtain⟨hk,h⟩:=Wb (by omega) h;obtain⟨hu,h⟩:=Wb (by omega) h;obtain⟨_,h⟩:=Wb (by omega) h;obtain⟨_,h⟩:=Wb (by omega) h;obtain⟨hm,h⟩:=Wb (by omega) h;obtain⟨_,h⟩:=Wb (by omega) h;obtain⟨_,h⟩:=Wb (by omega) h;obtain⟨_,h⟩:=Wb (by omega) h;obtain⟨_,h⟩:=Wb (by omega) h;obtain⟨_,h⟩:=Wb (by omega) h;rw[ame,Bool.and_eq_false_iff,Bool.and_eq_false_iff] at hm;refine⟨h,fun h1=>?_,fun h1=>?_⟩
 ·rcases hm.1 with h2|h2
  ·rw[h1] at h2;cases h2
  ·exact UB h2
 ·rcases hm.2 with h2|h2
  ·rw[h1] at h2;cases h2
  ·exact UB h2
theorem Ad {lines d:Int}:∀{l:List Z5},Pz lines l d=0->∀c∈l,Mr lines c d=0
 |c::l,h,x,hx=>by
  rw[Pz] at h;obtain⟨h1,h2⟩:=B9 h;rcases alL.1 hx with rfl|hx
  ·exact h1
  ·exact Ad h2 x hx
theorem ad' (lines:Int):∀(c:Z5) (d:Int),Mr lines c d=0->aj c=EC c/\1<=EC c/\EC c<=65537:=by
 intro c
 induction c using Z5.ind with
 |h kind a b mi ma pat nl kids ih =>
 intro d h;obtain⟨hk,Tk⟩:=ND lines _ d h;obtain⟨h1,h2,h3⟩:=mq h;have Xa:=Ad h1;have hl:∀(l:List Z5),(∀x∈l,x∈kids)->∀n,1<=n->n<=65537->Ac l n=M8 l n/\1<=M8 l n/\M8 l n<=65537:=by
  intro l
  induction l with
  |nil=>intro _ n h1 h2;exact⟨rfl,h1,h2⟩
  |cons c l EJ =>
   intro hl n h1 h2;obtain⟨e1,e2,e3⟩:=ih c (hl c (aba ..)) _ (Xa c (hl c (aba ..)));rw[Ac,M8,e1];have hp:n*EC c<=65537*65537:=Int.mul_le_mul h2 e3 (by omega) (by omega);have wI:1*1<=n*EC c:=Int.mul_le_mul h1 e2 (by omega) (by omega);refine EJ (fun x hx=>hl x (aab _ hx)) _ ?_ ?_
   ·rw[GG,wrap_i64 (by omega) (by omega)];omega
   ·rw[GG];omega
 have eJ:=hl kids (fun _ h=>h) 1 (by omega) (by omega);simp only[Z5.allKnown,agw] at hk;obtain⟨hk,_⟩:=hk;simp only[Z5.kind,Z5.kids] at Tk;rw[aj,EC];generalize ZF kind=dd at *
 cases dd <;> first|cases hk|skip
 all_goals simp only[Kd.leaf,cond_true,cond_false,BEq.rfl,reduceCtorEq,Bool.or_true,Bool.true_or,WQ,Z5.ma,Z5.mi,YQ] at *
 all_goals first
  |(have hn:=Tk trivial;subst hn;refine⟨rfl,by omega,by omega⟩)
  |exact eJ
  |skip
 all_goals first
  |(have:=h3 trivial;rw[wrap_i64 (by omega) (by omega)];exact⟨trivial,by omega,by omega⟩)
  |(have:=h2 trivial;rw[wrap_i64 (by omega) (by omega)];exact⟨trivial,by omega,by omega⟩)
  |exact⟨trivial,by omega,by omega⟩
theorem Ab {lines:Int}:∀(l:List Step),(∀s∈l,Mr lines s.cond 1=0/\(1<=s.times/\s.times<=64)/\(0<=s.within/\s.within<=255))->∀(n x:Int) (k:Nat),1<=n->n<=65537->0<=x->x<=16384*(k:Int)->k+l.length<=8 ->
  PA l n x=WL l n x/\1<=(WL l n x).1/\(WL l n x).1<=65537/\0<=(WL l n x).2/\(WL l n x).2<=131072
 |[],_,n,x,k,h1,h2,h3,h4,h5=>⟨rfl,h1,h2,h3,by simp only[WL];omega⟩
 |s::l,hs,n,x,k,h1,h2,h3,h4,h5=>by
  obtain⟨c1,c2,c3⟩:=hs s (aba ..);obtain⟨e1,e2,e3⟩:=ad' lines s.cond 1 c1;have hp:n*EC s.cond<=65537*65537:=Int.mul_le_mul h2 e3 (by omega) (by omega);have wI:1*1<=n*EC s.cond:=Int.mul_le_mul h1 e2 (by omega) (by omega);have hw:IntKind.i64.wrap (s.within+1)=s.within+1:=wrap_i64 (by omega) (by omega);have ht:s.times*(s.within+1)<=64*256:=Int.mul_le_mul c2.2 (by omega) (by omega) (by omega);have eV:0<=s.times*(s.within+1):=Int.mul_nonneg (by omega) (by omega);rw[PA,WL,e1,hw,wrap_i64 (n:=s.times*(s.within+1)) (by omega) (by omega),wrap_i64 (n:=x+s.times*(s.within+1)) (by simp only[akd] at h5;omega) (by simp only[akd] at h5;omega)];simp only[akd] at h5;refine Ab l (fun y hy=>hs y (aab _ hy)) _ _ (k+1) ?_ ?_ (by omega) (by omega) (by omega)
  ·rw[GG,wrap_i64 (by omega) (by omega)];omega
  ·rw[GG];omega
theorem size_eq {p:Prog}(h:p.ok):Ae p=Qp p:=by
 have hl:=h.lines;have hp:(2:Int)^p.lines.toNat<=2^16:=by
  have h2:(2:Nat)^p.lines.toNat<=2^16:=Nat.pow_le_pow_right (by omega) (by omega)
  exact_mod_cast h2
 have eB:(0:Int)<=2^p.lines.toNat:=Int.pow_nonneg (by omega);have hw:IntKind.i64.wrap (2^p.lines.toNat+1)=2^p.lines.toNat+1:=wrap_i64 (by omega) (by omega);obtain⟨e1,e2,e3,e4,e5⟩:=Ab (lines:=p.lines) p.steps (fun s hs=>⟨h.cond s hs,h.tm s hs,h.wi s hs⟩) (2^p.lines.toNat+1) 0 0 (by omega) (by omega) (by omega) (by omega) (by have:=h.few;omega);rw[Ae,Qp,hw,e1];generalize (WL p.steps (2^p.lines.toNat+1) 0).1=n at *;generalize (WL p.steps (2^p.lines.toNat+1) 0).2=x at *;have b1:n*x<=65537*131072:=Int.mul_le_mul e3 e5 (by omega) (by omega);have b0:0<=n*x:=Int.mul_nonneg (by omega) (by omega);rw[GG,GG];rcases Int.le_total x 65537 with hx|hx
 ·rw[Int.min_eq_left hx]
 ·rw[Int.min_eq_right hx];have b2:1*65537<=n*65537:=Int.mul_le_mul e2 (by omega) (by omega) (by omega);have b3:1*65537<=n*x:=Int.mul_le_mul e2 hx (by omega) (by omega);rw[wrap_i64 (by omega) (by omega),wrap_i64 (by omega) (by omega)];omega
end Go.Am
namespace Go.Am
open Go
variable [Z4]
set_option maxRecDepth 100000
def aeg:RC:=(sO [o 4 (.O9 (.v .TO))] (sO [om 5 0,YN 6 182 5] (sO [om 7 0,om 8 0,Yb 9 8,ZX 10 1 9,Z0 11 10,om 12 1,o 13 (.U3 5 1 1 [(.int .u8 0)] [(0,1,(.t 12))]),WZ 14 5 1 1 11 13,Yb 15 7,ZX 16 1 15,YU 1 16 14] (sO [o 4 (.O9 (.v .TO))] .ret))))
theorem ah4:Ze 130=some ([.tmp 4],aeg):=by kernel_rfl
end Go.Am
namespace Go.Am
open Go
variable [Z4]
set_option maxRecDepth 100000
set_option maxHeartbeats 8000000
def zt (n:Nat):XV:=if n<10 then [UInt8.ofNat (48+n)] else zt (n / 10)++[UInt8.ofNat (48+n%10)]
termination_by n
decreasing_by omega
theorem L9 {n:Nat}(h:n<10):zt n=[UInt8.ofNat (48+n)]:=by rw[zt,if_pos h]
theorem zr {n:Nat}(h:¬n<10):zt n=zt (n / 10)++[UInt8.ofNat (48+n%10)]:=by rw[zt,if_neg h]
def dg (n:Int):XV:=zt n.toNat
end Go.Am
