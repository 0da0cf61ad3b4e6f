/- A part of the proof of a statement of this seat: the machine on which the program is read, and what it computes; for every input. -/
import Derived.Test.YtikiipfbkfgmbaaGreatDoorZ02
import Derived.Test.YtikiipfbkfgmbaaGreatDoorZ03
import Derived.Laws.BitsLemmas
set_option linter.all false
namespace Go.Am
open Go
abbrev XV:=List UInt8
inductive Z5 where
 |mk (kind:XV) (a b mi ma:Int) (pat:XV) (nl:Bool) (kids:List Z5)
def ZG (nl:Bool)(l:List AV):AV:=match nl,l with
 |true,[]=>.ZW
 |_,l=>.fz l
mutual
def Zw:Z5->AV
 |.mk k a b mi ma p nl kids=>.agg [.str k,.int .i64 a,.int .i64 b,.int .i64 mi,.int .i64 ma,.str p,ZG nl (WW kids)]
def WW:List Z5->List AV
 |[]=>[]
 |c::l=>Zw c::WW l
end
theorem Oc:∀l,WW l=l.map Zw
 |[]=>by simp[WW]
 |c::l=>by simp[WW,Oc l]
theorem Vb (l:List Z5)(i:Nat):(WW l)[i]? = (l[i]?).map Zw:=by rw[Oc];simp
theorem Yd (l:List Z5):(WW l).length=l.length:=by rw[Oc];simp
def Z5.kind:Z5->XV|.mk k _ _ _ _ _ _ _=>k
def Z5.a:Z5->Int|.mk _ a _ _ _ _ _ _=>a
def Z5.b:Z5->Int|.mk _ _ b _ _ _ _ _=>b
def Z5.mi:Z5->Int|.mk _ _ _ m _ _ _ _=>m
def Z5.ma:Z5->Int|.mk _ _ _ _ m _ _ _=>m
def Z5.pat:Z5->XV|.mk _ _ _ _ _ p _ _=>p
def Z5.nl:Z5->Bool|.mk _ _ _ _ _ _ n _=>n
def Z5.kids:Z5->List Z5|.mk _ _ _ _ _ _ _ l=>l
def Z5.cells (c:Z5):List AV:=[.str c.kind,.int .i64 c.a,.int .i64 c.b,.int .i64 c.mi,.int .i64 c.ma,.str c.pat,ZG c.nl (WW c.kids)]
theorem ZV (c:Z5):Zw c=.agg c.cells:=by cases c;simp[Zw,Z5.cells,Z5.kind,Z5.a,Z5.b,Z5.mi,Z5.ma,Z5.pat,Z5.nl,Z5.kids]
structure Step where
 cond:Z5
 times:Int
 within:Int
def Step.cells (s:Step):List AV:=s.cond.cells++[.int .i64 s.times,.int .i64 s.within]
def YL (s:Step):AV:=.agg [.str s.cond.kind,.int .i64 s.cond.a,.int .i64 s.cond.b,.int .i64 s.cond.mi,.int .i64 s.cond.ma,.str s.cond.pat,ZG s.cond.nl (WW s.cond.kids),.int .i64 s.times,.int .i64 s.within]
structure Prog where
 lines:Int
 nl:Bool
 steps:List Step
def Vw (p:Prog):AV:=.agg [.int .i64 p.lines,ZG p.nl (p.steps.map YL)]
def ints (l:List Int):List AV:=l.map (.int .i64 ·)
def ZM (l:List Bool):List AV:=l.map .bool
structure Yi where
 lines:Int
 TH:Bool
 next:List (Bool×List Int)
 S6:Bool
 ZD:List (Bool×List Bool)
def Zn (r:Bool×List Int):AV:=ZG r.1 (ints r.2)
def Zv (r:Bool×List Bool):AV:=ZG r.1 (ZM r.2)
def Wd (a:Yi):AV:=.agg [.int .i64 a.lines,ZG a.TH (a.next.map Zn),ZG a.S6 (a.ZD.map Zv)]
theorem WH (l:List AV):ZG false l=.fz l:=by cases l <;> rfl
theorem JA (nl:Bool)(x:AV)(l:List AV):ZG nl (x::l)=.fz (x::l):=by cases nl <;> rfl
theorem X7 (nl:Bool)(l:List AV):still (ZG nl l)=true:=by
 cases nl <;> cases l <;> simp[ZG,still]
theorem ZL (nl:Bool)(l:List AV):Zz (ZG nl l)=true:=by
 cases nl <;> cases l <;> simp[ZG,Zz]
theorem Zu (nl:Bool)(l:List AV):(ZG nl l).cells=[ZG nl l]:=by
 cases nl <;> cases l <;> simp[ZG,AV.cells]
theorem ZI (nl:Bool)(l:List AV):Ti (ZG nl l)=some (.int .i64 l.length):=by
 cases nl <;> cases l <;> simp[ZG,Ti]
theorem UL (X:Cx)(s:St)(d:Nat)(nl:Bool)(l:List AV):Yn X s (d+1) (ZG nl l)=some (ZG nl l):=by
 cases nl <;> cases l <;> simp[ZG,Yn]
theorem Vr (n:Nat)(nl:Bool)(l:List AV)(k:IntKind)(i:Int)(x:AV)(h0:0<=i)(hx:l[i.toNat]? = some x)(hc:x.cells.length=n)(hn:n≠0):Ud n (ZG nl l) (.int k i)=some (.fp x.cells 0):=by
 have hl:l≠[]:=by intro h;rw[h] at hx;simp at hx
 have:ZG nl l=.fz l:=by cases l with
  |nil=>exact absurd rfl hl
  |cons y l=>exact JA ..
 rw[this,jz];simp[h0,hx,ixF,hc,hn]
theorem wrap_i64 {n:Int}(h0 : -2^63<=n)(h1:n<2^63):IntKind.i64.wrap n=n:=by
 rw[IntKind.wrap_i64];omega
end Go.Am
namespace Go.Am
open Go Go.Proofs
variable [Z4]
set_option maxRecDepth 100000
instance aeW:Stat:=⟨fun m c=>∃n,n<=m/\HK U n c=true/\Qh c=true,fun t=>Nat.beq t 207⟩
theorem aeX (t:TypeId):U.Zd t=Tryz.prog.underlying t:=by unfold U;rfl
theorem aeY (t:TypeId):U.inf t=Tryz.prog.info? t:=by unfold U;rfl
theorem zq (f:FuncId):U.ext f=lg f:=by unfold U;rfl
theorem ld (f:FuncId):U.pure f=!keeps.contains f:=by unfold U;rfl
theorem LJ (g:Nat):U.LK g=aJ g:=by unfold U;rfl
theorem He:U.glob=8:=by unfold U;rfl
theorem aeZ (f:FuncId):U.fn f=bif Nat.beq f 75 then none else Tryz.prog.funcs[f]? := by unfold U;rfl
noncomputable def Ze (f:FuncId):Option (List ResultVar×RC):=match U.fn f with
 |some fn=>match fn.body with
  |some c=>some (fn.results.toList,rc U c)
  |none=>none
 |none=>none
theorem Nt {f:FuncId}{rs:List ResultVar}{r:RC}(h:Ze f=some (rs,r)):∃fn c,U.fn f=some fn/\fn.body=some c/\fn.results.toList=rs/\rc U c=r:=by
 unfold Ze at h
 split at h
 ·rename_i fn hf
  split at h
  ·rename_i c hb
   cases h
   exact⟨fn,c,hf,hb,rfl,rfl⟩
  ·cases h
 ·cases h
def Me (f:FuncId):Bool:=!keeps.contains f&&(lg f).isNone
def vM (f:FuncId):Bool:=keeps.contains f&&(lg f).isNone
theorem Qk {f:FuncId}(h:Me f=true):U.pure f=true/\U.ext f=none:=by
 rw[Me,agw,amz] at h;rw[ld,zq];exact h
theorem qo {f:FuncId}(h:vM f=true):U.pure f=false/\U.ext f=none:=by
 rw[vM,agw,amz] at h;rw[ld,zq,h.1];exact⟨rfl,h.2⟩
theorem ZR {f:FuncId}{rs:List ResultVar}{r:RC}(h:Ze f=some (rs,r))(hp:Me f=true){args:List AV}(Xz:ZU args=true){v:AV}
  (hg:go U (Mt U rs) [] r (YX 0 args .nil) (X8 U)=some v):ZE U f args=some v:=by
 obtain⟨fn,c,h1,h2,h3,h4⟩:=Nt h;obtain⟨p1,p2⟩:=Qk hp;exact ql U p2 p1 h1 h2 h3 h4 Xz hg
theorem VE {f:FuncId}{rs:List ResultVar}{r:RC}(h:Ze f=some (rs,r))(hp:vM f=true){args:List AV}{s:St}{x:AV×St}
  (hg:go U (Sx U rs) [] r (YX 0 args .nil) s=some x):Rl U f args s=some x:=by
 obtain⟨fn,c,h1,h2,h3,h4⟩:=Nt h;obtain⟨p1,p2⟩:=qo hp;unfold Rl Uk;rw[p2,p1];exact KV U h1 h2 h3 h4 hg
theorem Ke {f:FuncId}(hp:Me f=true){args:List AV}(s:St)(Xz:ZU args=false):X6 U (ZE U f args) f args s=UR U f (Y' (Yn U s 40) args) s :=
 lK U s (Qk hp).2 (Qk hp).1 Xz
def Dw (p:Bool)(x:Option (AV×St))(s:St):Option (AV×St):=bif p then x else some (undef,s)
theorem vL (x:Option (AV×St))(s:St):Dw true x s=x:=(fun h=>h) rfl
theorem lr {f:FuncId}(hp:Me f=true){p:Bool}{args:List AV}(s:St)(Xz:ZU args=false):OU U p (ZE U f args) f args s=Dw p (UR U f (Y' (Yn U s 40) args) s) s:=by
 unfold OU Dw;rw[Ke hp s Xz]
theorem lU (s:St):∀(d:Nat) (v v':AV),Yn U s d v=some v'->flat v'=true->v=v':=by
 intro d
 induction d with
 |zero=>intro v v' h;simp[Yn] at h
 |succ d ih =>
  intro v v' h hf;have hl:∀(l l':List AV),Y' (Yn U s d) l=some l'->K4 l'=true->l=l':=by
   intro l
   induction l with
   |nil=>intro l' h _;simp only[Y'] at h;cases h;rfl
   |cons x l EJ =>
    intro l' h hf;simp only[Y'] at h
    split at h
    ·rename_i y r h1 h2
     cases h
     simp only[K4,agw] at hf;rw[ih _ _ h1 hf.1,EJ _ h2 hf.2]
    ·cases h
  cases v with
  |ptr b o =>
   rw[sX] at h;unfold ea at h
   split at h
   ·simp only[fpK,amB] at h;obtain⟨_,_,rfl⟩:=h;simp[flat] at hf
   ·cases h
  |sl b o len cap VH =>
   rw[VD] at h;unfold lG zC fzK at h
   split at h
   ·split at h
    ·split at h
     ·simp only[amB] at h;obtain⟨_,_,rfl⟩:=h;simp[flat] at hf
     ·cases h
    ·cases h
   ·cases h
  |map r =>
   simp only[Yn] at h
   split at h
   ·split at h
    ·cases h;simp[flat] at hf
    ·cases h
   ·cases h
  |fn f x y =>
   simp only[Yn] at h
   split at h
   ·split at h
    ·rename_i x' y' h1 h2
     cases h
     simp only[flat,agw] at hf;rw[hl _ _ h1 hf.1.2,hl _ _ h2 hf.2]
    ·cases h
   ·cases h
  |iface t x =>
   simp only[Yn] at h
   split at h
   ·rename_i x' h1
    cases h
    simp only[flat] at hf;rw[ih _ _ h1 hf]
   ·cases h
  |agg cs =>
   simp only[Yn] at h
   split at h
   ·rename_i x' h1
    cases h
    simp only[flat] at hf;rw[hl _ _ h1 hf]
   ·cases h
  |XU cs =>
   simp only[Yn] at h
   split at h
   ·rename_i x' h1
    cases h
    simp only[flat] at hf;rw[hl _ _ h1 hf]
   ·cases h
  |_=>simp only[Yn] at h;cases h;rfl
theorem an5 {f:FuncId}{rs:List ResultVar}{r:RC}(h:Ze f=some (rs,r)){us:List AV}{v:AV}(hf:flat v=true)
  (hg:go U (Mt U rs) [] r (YX 0 us .nil) (X8 U)=some v):Yg U (Yf U) f us false=some v:=by
 obtain⟨fn,c,h1,h2,h3,h4⟩:=Nt h;have hg:pj U (Sx U rs (den U r (YX 0 us .nil) (X8 U)))=some v:=hg
 cases hd:Sx U rs (den U r (YX 0 us .nil) (X8 U)) with
 |none=>rw[hd] at hg;simp[pj] at hg
 |some x =>
  obtain⟨v0,s'⟩:=x;rw[hd] at hg;have hB:=KV U h1 h2 h3 h4 (args:=us) (s:=X8 U) (x:=(v0,s')) hd;simp only[pj] at hg;have:=lU s' _ _ _ hg hf;subst this;unfold Yg;rw[hB];simp[hf]
theorem VL {f:FuncId}(hp:Me f=true){args:List AV}(Xz:ZU args=true){v:AV}(h:Yg U (Yf U) f args true=some v):ZE U f args=some v:=by
 refine sL fun s=>?_
 obtain⟨p1,p2⟩:=Qk hp;unfold Rl Uk;rw[p2];simp only[p1,if_true,Ox,Vf,Xz,h]
theorem ae0:U.Zd 3=some (.int .i64):=by kernel_rfl
theorem abE:U.Zd 21=some (.int .i32):=by kernel_rfl
theorem Ka:YC U 3=some false:=by kernel_rfl
theorem J':size U 3=some 1:=by kernel_rfl
theorem AI:YC U 4=some false:=by kernel_rfl
theorem AH:size U 4=some 1:=by kernel_rfl
theorem ae1:size U 5=some 1:=by kernel_rfl
theorem aP:YC U 25=some true:=by kernel_rfl
theorem aO:size U 25=some 2:=by kernel_rfl
theorem ae2:YC U 26=some false:=by kernel_rfl
theorem ae3:size U 26=some 1:=by kernel_rfl
theorem Ed:YC U 40=some false:=by kernel_rfl
theorem Ec:size U 40=some 1:=by kernel_rfl
theorem Eb:YC U 43=some false:=by kernel_rfl
theorem Ea:size U 43=some 1:=by kernel_rfl
theorem Ej:YC U 48=some true:=by kernel_rfl
theorem Ei:size U 48=some 7:=by kernel_rfl
theorem aN:YC U 69=some true:=by kernel_rfl
theorem aM:size U 69=some 3:=by kernel_rfl
theorem me:YC U 144=some true:=by kernel_rfl
theorem mc:size U 144=some 9:=by kernel_rfl
theorem nN:YC U 152=some true:=by kernel_rfl
theorem nM:size U 152=some 3:=by kernel_rfl
attribute [go_sem ↓] vL
attribute [go_sem] Int.reduceBEq Int.reduceBNe Int.reduceAdd He ae0 abE Ka J' AI AH ae1 aP aO ae2 ae3 Ed Ec Eb Ea Ej Ei aN aM me mc nN nM
abbrev o (d:Nat)(r:MN):RO:=⟨some d,none,none,false,r⟩
abbrev oS (r:MN):RO:=⟨none,none,none,false,r⟩
abbrev om (d t:Nat):RO:=⟨some d,none,none,false,.O9 (.t t)⟩
abbrev oF (d g:Nat)(r:MN):RO:=⟨some d,some (g,false),none,false,r⟩
abbrev oT (d g:Nat)(r:MN):RO:=⟨some d,some (g,true),none,false,r⟩
abbrev vI (n:Int):WB:=.v (.int .i64 n)
abbrev vF:WB:=.v (.bool false)
abbrev vT:WB:=.v (.bool true)
abbrev oP (l:List RO):RC:=.ops l
abbrev sQ (a b:RC):RC:=.seq a b
abbrev sO (l:List RO)(b:RC):RC:=.seq (.ops l) b
abbrev cO (n:Nat)(a b:RC):RC:=.cond (.t n) a b
abbrev cS (n:Nat)(b:RC):RC:=.cond (.t n) .skip b
abbrev cT (n:Nat)(a:RC):RC:=.cond (.t n) a .skip
abbrev Z0 (x0 x1):=o x0 (.SL (.t x1))
abbrev ZX (x0 x1 x2):=o x0 (.fa x1 (.t x2))
abbrev ZA (x0 x1):=o x0 (.O9 (vI x1))
abbrev Zr (x0 x1 x2):=o x0 (.NQ x1 (.t x2))
abbrev Zk (x0 x1 x2 x3):=o x0 (.Jb x1 (.t x2) (.t x3))
abbrev YU (x0 x1):=o x0 (.SW (.t x1))
abbrev YT (x0 x1 x2):=oS (.st x0 (.t x1) (.t x2))
abbrev YO (x0 x1 x2):=o x0 (.ext (.t x1) x2)
abbrev YJ (x0 x1 x2):=o x0 (.pick (.t x1) (.t x2) vF)
abbrev YE (x0 x1 x2 x3):=o x0 (.bin .add x1 true (.t x2) (vI x3))
abbrev Zp (x0 x1 x2):=oT x0 x1 (.O9 (.t x2))
abbrev Zi (x0 x1 x2):=o x0 (.box x1 (.t x2))
abbrev Zj (x0):=o x0 (.O9 vF)
abbrev Zc (x0 x1 x2):=o x0 (.call x1 [(.t x2)])
abbrev Zb (x0 x1 x2 x3):=o x0 (.call x1 [(.t x2),(.t x3)])
abbrev YV (x0 x1 x2):=oT x0 x1 (.SL (.t x2))
abbrev YW (x0 x1 x2 x3):=oT x0 x1 (.fa x2 (.t x3))
abbrev YN (x0 x1 x2 x3):=o x0 (.bin .lss x1 false (.t x2) (.t x3))
abbrev Yp (x0 x1 x2):=o x0 (.pick (.t x1) vT (.t x2))
abbrev Yo (x0 x1 x2):=oF x0 x1 (.O9 (.t x2))
abbrev Yb (x0 x1):=o x0 (.raw (.nilCheck (.tmp x1)))
abbrev XH (x0 x1 x2):=oF x0 x1 (.SL (.t x2))
abbrev WY (x0):=o x0 (.O9 (.v .ZW))
abbrev WZ (x0 x1):=o x0 (.un .not (.t x1))
abbrev Wh (x0 x1 x2 x3):=o x0 (.call x1 [(.t x2),(vI x3)])
abbrev VT (x0 x1 x2 x3 x4 x5):=o x0 (.app x1 x2 x3 (.t x4) (.t x5))
abbrev VR (x0 x1 x2 x3):=o x0 (.bin .eql x1 true (.t x2) (vI x3))
abbrev VM (x0 x1 x2 x3):=o x0 (.bin .gtr x1 true (.t x2) (vI x3))
abbrev UA (x0 x1 x2):=oF x0 x1 (.un .not (.t x2))
abbrev Un (x0 x1 x2 x3 x4):=oT x0 x1 (.call x2 [(.t x3),(.t x4)])
abbrev Uj (x0 x1 x2 x3):=oF x0 x1 (.fa x2 (.t x3))
abbrev TY (x0 x1 x2 x3):=o x0 (.bin .neq x1 true (.t x2) (vI x3))
abbrev TK (x0):=o x0 (.O9 vT)
abbrev TM (x0 x1 x2 x3):=oF x0 x1 (.pick (.t x2) (.t x3) vF)
abbrev TL (x0 x1 x2 x3):=o x0 (.bin .add x1 false (.t x2) (.t x3))
abbrev Tg (x0 x1 x2 x3):=oT x0 x1 (.NQ x2 (.t x3))
abbrev Tf (x0 x1 x2):=o x0 (.al [(iI x1),.ZW,.ZW] x2)
abbrev Td (x0 x1 x2 x3 x4 x5):=o x0 (.bin .eql x1 true (.t x2) (.v (.str [x3,x4,x5])))
abbrev RE (x0 x1 x2 x3 x4):=oT x0 x1 (.bin .neq x2 true (.t x3) (vI x4))
abbrev RQ (x0 x1 x2 x3 x4 x5 x6 x7):=o x0 (.U3 x1 x2 x3 [(iI x4)] [(x5,x6,(.t x7))])
abbrev Q6 (x0 x1 x2):=oT x0 x1 (.un .not (.t x2))
abbrev Qq (x0 x1 x2 x3):=oF x0 x1 (.NQ x2 (.t x3))
abbrev Qc (x0 x1 x2 x3 x4 x5 x6):=o x0 (.bin .eql x1 true (.t x2) (.v (.str [x3,x4,x5,x6])))
abbrev Pa (x0 x1 x2 x3 x4 x5):=o x0 (.al [(.str []),(iI x1),(iI x2),(iI x3),(iI x4),(.str []),.ZW] x5)
abbrev O8 (x0 x1 x2 x3):=o x0 (.bin .sub x1 true (.t x2) (vI x3))
abbrev O7 (x0 x1):=o x0 (.call x1 [])
abbrev OD (x0 x1):=o x0 (.O9 (.t x1))
abbrev Om (x0 x1):=o x0 (.wk (.t x1))
abbrev Oe (x0 x1 x2 x3):=o x0 (.bin .neq x1 false (.t x2) (.t x3))
abbrev MQ (x0 x1 x2 x3 x4):=o x0 (.call x1 [(.t x2),(.t x3),(.t x4)])
abbrev MP (x0 x1 x2 x3 x4):=oT x0 x1 (.bin .eql x2 true (.t x3) (vI x4))
abbrev MS (x0 x1 x2 x3 x4 x5 x6 x7):=o x0 (.bin .eql x1 true (.t x2) (.v (.str [x3,x4,x5,x6,x7])))
abbrev ML (x0 x1 x2 x3 x4):=o x0 (.aw x1 x2 (.t x3) (vI x4))
abbrev KX (x0 x1 x2):=oT x0 x1 (.SW (.t x2))
abbrev KW (x0 x1 x2 x3 x4 x5):=oF x0 x1 (.aw x2 x3 (.t x4) (vI x5))
abbrev K5 (x0 x1 x2 x3 x4):=oF x0 x1 (.bin .gtr x2 true (.t x3) (vI x4))
abbrev Lg (x0 x1 x2 x3 x4):=oT x0 x1 (.bin .leq x2 false (.t x3) (.t x4))
abbrev IZ (x0 x1 x2 x3 x4):=oF x0 x1 (.call x2 [(.t x3),(vI x4)])
abbrev Ja (x0 x1 x2 x3):=o x0 (.bin .eql x1 false (.t x2) (.t x3))
abbrev Gu (x0):=o x0 (.O9 (.v (.str [])))
abbrev Gv (x0 x1 x2):=o x0 (.al [(iI x1),.ZW] x2)
abbrev Gg (x0 x1 x2 x3 x4):=oF x0 x1 (.call x2 [(.t x3),(.t x4)])
abbrev Gf (x0 x1 x2 x3 x4):=o x0 (.call x1 [(.t x2),(vI x3),(vI x4)])
abbrev DB (x0 x1 x2 x3 x4 x5 x6 x7):=o x0 (.al [(.str []),(iI x1),(iI x2),(iI x3),(iI x4),(.str []),.ZW,(iI x5),(iI x6)] x7)
abbrev DC (x0 x1 x2):=o x0 (.IU (.t x1) [(.t x2)])
abbrev DP (x0 x1 x2 x3):=o x0 (.bin .shl x1 true (vI x2) (.t x3))
abbrev zQ (x0 x1 x2 x3 x4):=oT x0 x1 (.bin .sub x2 true (.t x3) (vI x4))
abbrev zP (x0 x1 x2 x3 x4):=o x0 (.al [(iI x1),(iI x2),(iI x3)] x4)
abbrev zO (x0 x1 x2 x3):=o x0 (.raw (.lookup x1 (.tmp x2) (.tmp x3) false))
abbrev zp (x0 x1 x2 x3 x4):=oF x0 x1 (.bin .neq x2 true (.t x3) (vI x4))
abbrev zo (x0 x1 x2 x3 x4 x5):=oT x0 x1 (.call x2 [(.t x3),(vI x4),(vI x5)])
abbrev Ag (x0 x1 x2 x3 x4):=oT x0 x1 (.bin .gtr x2 false (.t x3) (.t x4))
abbrev zm (x0 x1 x2 x3 x4):=oF x0 x1 (.bin .geq x2 false (.t x3) (.t x4))
abbrev zl (x0 x1):=o x0 (.al [.ZW,.ZW,.ZW] x1)
abbrev zk (x0 x1 x2 x3 x4 x5 x6):=oF x0 x1 (.bin .eql x2 true (.t x3) (.v (.str [x4,x5,x6])))
abbrev sY (x0 x1 x2 x3):=o x0 (.bin .mul x1 false (.t x2) (.t x3))
abbrev sK (x0 x1 x2 x3):=o x0 (.bin .shr x1 false (.t x2) (.t x3))
abbrev tw (x0 x1 x2 x3):=o x0 (.bin .and x1 true (.t x2) (vI x3))
abbrev tu (x0 x1 x2 x3):=oS (.raw (.mapUpdate x0 (.tmp x1) (.tmp x2) (.tmp x3)))
abbrev sJ (x0 x1 x2 x3 x4):=o x0 (.raw (.call { callee:=.builtin .min,args:=#[(.tmp x1),(.const (.int .i64 x2))],argTypes:=#[x3,x4] }))
abbrev sI (x0 x1 x2 x3 x4):=o x0 (.raw (.call { callee:=.builtin .min,args:=#[(.tmp x1),(.tmp x2)],argTypes:=#[x3,x4] }))
end Go.Am
namespace Go.Am
open Go
structure Pb where
 lo:Nat
 hi:Nat
 e:Env
 op:MN
 v:AV
def SE (v:AV)(x:Option (AV×St)):Bool:=match x with
 |some (u,_)=>same u v
 |none=>false
section
variable (X:Cx)
noncomputable def bA (base:Nat)(e:Env)(op:MN)(v:AV):List St->Bool
 |[]=>true
 |s::l=>SE v (WG X base none e s op)&&bA base e op v l
noncomputable def O2 (base:Nat)(H:List St):List Pb->Bool
 |[]=>true
 |p::P=>bA X base p.e p.op p.v ((H.take (p.hi+1)).drop p.lo)&&O2 base H P
abbrev lq:=RO×Option (Nat×Nat)
def S_ (base:Nat)(s:St)(l:List lq):Bool:=Wm base s (l.map Prod.fst)
def bu (c:Option (Nat×Nat))(e:Env)(op:MN)(v:AV)(P:List Pb):List Pb:=match c with
 |some (lo,hi)=>⟨lo,hi,e,op,v⟩::P
 |none=>P
noncomputable def NZ (base:Nat):List lq->Env->St->List St->List Pb->Option (Env×St)
 |[],e,s,H,P=>bif O2 X base H P then some (e,s) else none
 |(o,c)::l,e,s,H,P=>match (bif Rt e o.g then WG X base o.at_ e s o.op else some (undef,s)) with
  |some (v,s')=>bif !o.w||S_ base s' l then NZ base l (Yt e o.d v) s' (bif o.w then H++[s'] else H) (bu c e o.op v P) else none
  |none=>none
def CY (ops:Array Oper)(i:Nat):Bool :=
 (UI X 0 ops.toList).all (fun k=>!decide (k<i)||Xy ops k i)&&(Zh X ops 0 ops.toList).all (fun k=>Xy ops k i||Xy ops i k)
def opC (ops:Array Oper)(i:Nat):Option (Nat×Nat):=match ops[i]? with
 |some o=>if ((cls X o.op).Ye||(match cls X o.op with|.q=>true|_=>false))&&!CY X ops i then
   some (Yk (fun j=>Xy ops j i) (Zh X ops 0 ops.toList),Yk (fun j=>!Xy ops i j) (Zh X ops 0 ops.toList)) else none
 |none=>none
def bh (ops:Array Oper):List (Option (Nat×Nat)):=(List.range ops.size).map (opC X ops)
def gZ (ops:Array Oper):Bool :=
 !Nu X ops&&(List.range ops.size).all fun i=>match ops[i]? with
  |some o=>!((cls X o.op).Ye||(match cls X o.op with|.q=>true|_=>false))||CY X ops i ||
   ((cls X o.op).Ye&&(o.guard.isNone&&(UI X 0 ops.toList).all fun k=>!Xy ops k i))
  |none=>true
def O_:Code->Option (Nat×List lq)
 |.region _ ops d=>if d&&gZ X ops&&Xw X ops then match UT X ops true 0 ops.toList with
   |some l=>some (ops.size,l.zip (bh X ops))
   |none=>none
   else none
 |_=>none
end
section
variable [Stat]
variable {X:Cx}{ops:Array Oper}{base:Nat}
theorem Pn {b:Bool}:∀(l:List Oper) (i:Nat) (r:List RO),UT X ops b i l=some r->r.length=l.length
 |[],i,r,h=>by simp only[UT] at h;cases h;rfl
 |o::l,i,r,h=>by
  simp only[UT] at h
  split at h
  ·rename_i g r' h1 h2
   cases h
   simp[Pn l (i+1) r' h2]
  ·cases h
theorem rV {r:Env×St}:∀(l:List lq) (e:Env) (s:St) (H:List St) (P:List Pb),NZ X base l e s H P=some r->P_ X base (l.map Prod.fst) e s=some r
 |[],e,s,H,P,h=>by
  simp only[NZ] at h
  cases hb:O2 X base H P with
  |true=>rw[hb] at h;exact h
  |false=>rw[hb] at h;cases h
 |(o,c)::l,e,s,H,P,h=>by
  simp only[NZ] at h;simp only[alT,P_]
  split at h
  ·rename_i v s' hv;rw[hv];simp only
   cases hb:(!o.w||S_ base s' l) with
   |false=>rw[hb] at h;cases h
   |true =>
    rw[hb] at h;rw[if_pos (by exact hb)];exact rV l _ _ _ _ h
  ·cases h
theorem ac7 {i:Nat}{o:Oper}{g:Option (Nat×Bool)}{e:Env}{s s1:St}{v:AV}(h1:rcG ops o.guard=some g)
  (hr:(bif Rt e g then WG X base (if true&&(cls X o.op).BY then some i else none) e s (yl X o.op) else some (undef,s))=some (v,s1)) :
  SF X (Yf X) ops base i o e s=some (Yt e o.dst v,s1):=by
 have Kv:=Fz h1 e
 cases hw:Rt e g with
 |false =>
  rw[hw] at hr Kv;simp only[cond_false] at hr
  cases hr
  simp only[SF,<-Kv,ali,if_false]
 |true =>
  rw[hw] at hr Kv;simp only[cond_true,al9] at hr;simp only[SF,<-Kv,if_true];by_cases ha:(cls X o.op).BY=true
  ·rw[if_pos ha] at hr;obtain⟨s2,e1,e2⟩:=iy (Xp.1 ha) hr;rw[Xp.1 ha];simp only[e1,e2]
  ·rw[if_neg ha] at hr;have:=N1 hr
   cases hk:cls X o.op <;> rw[hk] at ha <;> first|exact absurd rfl ha|simp only[this]
theorem rU {i m:Nat}{tr:List (Env×St)}{s:St}:∀(l:List Nat),(∀k∈l,Xy ops k i=false)->TU ops base i m tr l s=s
 |[],_=>rfl
 |j::l,h=>by
  unfold TU;rw[if_neg (by simp[h j (aba ..)])];exact rU l fun k hk=>h k (aab _ hk)
theorem CX {H:List St}:∀(P:List Pb),O2 X base H P=true->∀p∈P,bA X base p.e p.op p.v ((H.take (p.hi+1)).drop p.lo)=true
 |[],_,p,hp=>by simp at hp
 |q::P,h,p,hp=>by
  simp only[O2,agw] at h;rcases alL.1 hp with rfl|hp
  ·exact h.1
  ·exact CX P h.2 p hp
theorem rT {e:Env}{op:MN}{v:AV}:∀(l:List St),bA X base e op v l=true->∀s∈l,SE v (WG X base none e s op)=true
 |[],_,s,hs=>by simp at hs
 |x::l,h,s,hs=>by
  simp only[bA,agw] at h;rcases alL.1 hs with rfl|hs
  ·exact h.1
  ·exact rT l h.2 s hs
theorem gY (a_:Nu X ops=false):∀(l:List Oper) (i:Nat) (l':List lq) (e:Env) (s:St) (H:List St) (P:List Pb) (r:Env×St) (tr:List (Env×St)),
  UT X ops true i l=some (l'.map Prod.fst)->NZ X base l' e s H P=some r->xD X (Yf X) ops base i l e s=some tr ->
  ∃P',O2 X base (H++(Zh X ops i l).map (fun j=>W_ tr (j+1-i))) P'=true/\(∀p∈P,p∈P') /\
   ∀(k:Nat) o q lo hi,l[k]? = some o->l'[k]? = some (q,some (lo,hi))->o.guard=none->cls X o.op=.r ->
    ∃v,YI X (Yf X) (SB tr k) o.op (W_ tr k)=some (v,W_ tr (k+1))/\(⟨lo,hi,SB tr k,yl X o.op,v⟩:Pb)∈P'
 |[],i,l',e,s,H,P,r,tr,h1,h2,h3=>by
  have CM:l'=[]:=by
   simp only[UT] at h1
   cases l' with
   |nil=>rfl
   |cons x y=>simp at h1
  subst CM;simp only[NZ] at h2;refine⟨P,?_,fun p hp=>hp,fun k o q lo hi hk=>by simp at hk⟩;simp only[Zh,List.map_nil,alZ]
  cases hb:O2 X base H P with
  |true=>rfl
  |false=>rw[hb] at h2;cases h2
 |o::l,i,l',e,s,H,P,r,tr,h1,h2,h3=>by
  simp only[UT] at h1
  split at h1
  ·rename_i g r' e1 e2
   cases l' with
   |nil=>simp at h1
   |cons x l2 =>
    obtain⟨ro,c⟩:=x;simp only[alT,Option.some.injEq,List.cons.injEq] at h1;obtain⟨rfl,rfl⟩:=h1;simp only[NZ] at h2
    split at h2
    ·rename_i v s1 hv;have Xz:=ac7 e1 hv;simp only[xD,Xz] at h3
     split at h3
     ·rename_i Rn g1
      cases h3
      cases hb:(!(true&&(cls X o.op).qA)||S_ base s1 l2) with
      |false=>rw[hb] at h2;cases h2
      |true =>
       rw[hb] at h2;simp only[cond_true] at h2;obtain⟨P',q1,q2,q3⟩:=gY a_ l (i+1) l2 _ s1 _ _ r Rn e2 h2 g1;obtain⟨k1,k2,_⟩:=QA _ _ _ _ _ g1;have dQ:∀n,W_ ((e,s)::Rn) (n+1)=W_ Rn n:=fun n=>by simp[W_]
       have hte:∀n,SB ((e,s)::Rn) (n+1)=SB Rn n:=fun n=>by simp[SB]
       have QK:W_ Rn 0=s1:=by simp[W_,k2]
       have ag4:(Zh X ops (i+1) l).map (fun j=>W_ ((e,s)::Rn) (j+1-i))=(Zh X ops (i+1) l).map (fun j=>W_ Rn (j+1-(i+1))):=by
        refine amc fun j hj=>?_
        obtain⟨k,_,_,hjk,_⟩:=(Qz l (i+1) j).1 hj;rw[show j+1-i=(j+1-(i+1))+1 by omega,dQ]
       refine⟨P',?_,fun p hp=>q2 p (by unfold bu;split <;> simp[hp]),fun k o' q lo hi Jd BW hg hc=>?_⟩
       ·have Yh:late X ops i=false:=by simp[late,a_]
        simp only[Zh,Yh,amp,Bool.and_true]
        cases hw:(cls X o.op).qA with
        |true =>
         rw[hw] at q1;simp only[if_true,alT];rw[ag4,show i+1-i=0+1 by omega,dQ,QK]
         simpa using q1
        |false =>
         rw[hw] at q1;simp only[ali,if_false];rw[ag4]
         simpa using q1
       ·cases k with
        |zero =>
         simp at Jd BW;obtain⟨_,rfl⟩:=BW;subst Jd;have hgn:g=none:=by rw[hg] at e1;simp[rcG] at e1;exact e1.symm
         subst hgn;simp only[Rt,cond_true,hc,Bd.BY,Bool.and_false,ali,if_false] at hv;have:=N1 hv;refine⟨v,?_,?_⟩
         ·rw[dQ,QK];exact this
         ·exact q2 _ (by simp[bu,SB])
        |succ k =>
         obtain⟨v',w1,w2⟩:=q3 k o' q lo hi (by simpa using Jd) (by simpa using BW) hg hc;refine⟨v',?_,?_⟩
         ·rw[hte,dQ,dQ];exact w1
         ·rw[hte];exact w2
     ·cases h3
    ·cases h2
  ·cases h1
theorem gW {l:List RO}{e:Env}{s:St}{r:Env×St}(yj:UT X ops true 0 ops.toList=some l)(gV:gZ X ops=true)(ac8:Xw X ops=true)(hn:Wm s.next s l=true)
  (hrC:NZ X s.next (l.zip (bh X ops)) e { s with next:=s.next+ops.size } [{ s with next:=s.next+ops.size }] []=some r):OQ X (Yf X) ops e s=some r:=by
 have X5:=w_ ac8;have hlen:l.length=ops.size:=by rw[Pn _ _ _ yj];simp
 have tV:(l.zip (bh X ops)).map Prod.fst=l:=by rw[List.map_fst_zip];rw[hlen];simp[bh]
 have hr:P_ X s.next l e { s with next:=s.next+ops.size }=some r:=by
  have:=rV _ _ _ _ _ hrC;rw[tV] at this;exact this
 unfold gZ at gV;simp only[agw,ams,alK,al4] at gV;obtain⟨a_,Xa⟩:=gV;obtain⟨tr,g1,g2,g3⟩:=Fy _ _ _ _ _ yj hr;obtain⟨P',hP1,_,hP2⟩:=gY a_ ops.toList 0 (l.zip (bh X ops)) e _ _ [] r tr (by rw[tV];exact yj) hrC g1;obtain⟨k1,k2,k3⟩:=QA _ _ _ _ _ g1;have k1:tr.length=ops.size+1:=by simpa using k1
 have ht:EP X (Yf X) ops s.next (SB tr) (W_ tr):=⟨fun i o ho=>by
  have:=k3 i o (by simpa using ho)
  simpa using this⟩
 have J8:W_ tr 0={ s with next:=s.next+ops.size }:=by simp[W_,k2]
 have G8:∀i,late X ops i=false:=fun i=>by simp[late,a_]
 have Mu:∀j,j∈Zh X ops 0 ops.toList<->∃o,ops[j]? = some o/\cls X o.op=.w:=by
  intro j;rw[Qz]
  constructor
  ·rintro⟨k,o,h1,rfl,h3⟩;simp only[agw] at h3;exact⟨o,by simpa using h1,Rb.1 h3.1⟩
  ·rintro⟨o,h1,h3⟩;exact⟨j,o,by simpa using h1,by omega,by simp[Rb.2 h3,G8]⟩
 have ac9:∀j,kA X ops j->j∈UI X 0 ops.toList:=by
  have:∀(l:List Oper) (i k:Nat) o,l[k]? = some o->cls X o.op=.a->i+k∈UI X i l:=by
   intro l
   induction l with
   |nil=>intro i k o h;simp at h
   |cons x l ih =>
    intro i k o h hc;unfold UI
    cases k with
    |zero=>simp at h;subst h;rw[if_pos (Xp.2 hc)];exact aba ..
    |succ k =>
     have:=ih (i+1) k o (by simpa using h) hc;rw[show i+(k+1)=i+1+k by omega]
     split
     ·exact aab _ this
     ·exact this
  rintro j ⟨o,ho,hc⟩;have:=this ops.toList 0 j o (by simpa using ho) hc
  simpa using this
 have ac_:=LZ (tr:=tr) (Zh X ops 0 ops.toList) fun j hj=>by
  obtain⟨o,ho,_⟩:=(Mu j).1 hj;have:=(agz.1 ho).1;omega
 unfold OQ;rw[g1];simp only[ac_];have Fj:∀m,m=0\/(∃j,m=j+1/\j∈Zh X ops 0 ops.toList)->∀i,m<=i->kA X ops i->(W_ tr m).get (s.next+i)=none:=by
  rintro m (rfl|⟨j,rfl,hj⟩) i hi ⟨o,ho,hc⟩
  ·rw[J8];have:=N0 _ _ _ yj hn i o (by simpa using ho) (Xp.2 hc);rw[ald] at this;exact this
  ·obtain⟨oj,hoj,hcj⟩:=(Mu j).1 hj;have:=g3 j oj (by simpa using hoj) (Rb.2 hcj) i (by omega) o (by simpa using ho) (Xp.2 hc)
   simpa using this
 have hss:∀m s1,(m,s1)∈(0,({ s with next:=s.next+ops.size }:St))::((Zh X ops 0 ops.toList).map fun j=>(j+1,W_ tr (j+1)))->(m=0\/∃j,m=j+1/\j∈Zh X ops 0 ops.toList)/\s1=W_ tr m:=by
  intro m s1 hm;rcases alL.1 hm with e|hm
  ·cases e;exact⟨.inl rfl,J8.symm⟩
  ·obtain⟨j,hj,e⟩:=alN.1 hm
   cases e
   exact⟨.inr ⟨j,rfl,hj⟩,rfl⟩
 have hnA:Ss X ops s.next ((0,({ s with next:=s.next+ops.size }:St))::((Zh X ops 0 ops.toList).map fun j=>(j+1,W_ tr (j+1))))=true:=LY _ fun m s1 hm i hi hk=>by
  obtain⟨h1,rfl⟩:=hss m s1 hm;exact Fj m h1 i hi hk
 have J9:TD X (Yf X) ops s.next (Zh X ops 0 ops.toList) (UI X 0 ops.toList) ((0,({ s with next:=s.next+ops.size }:St))::((Zh X ops 0 ops.toList).map fun j=>(j+1,W_ tr (j+1)))) tr 0 ops.toList tr=true:=by
  refine Js _ _ _ fun i o es ho htr hw=>?_
  have Vo:ops[i]? = some o:=by simpa using ho
  have hi:i<ops.size:=(agz.1 Vo).1;have fR:es=(SB tr i,W_ tr i):=by simp[SB,W_,htr]
  subst fR;simp only at hw;rw[ald];have xI:cls X o.op≠.a->∃v,YI X (Yf X) (SB tr i) o.op (W_ tr i)=some (v,W_ tr (i+1)):=fun ZC=>by
   rcases U9 (ht.step i o Vo) with⟨h1,_⟩|⟨_,v,_,⟨hc,_⟩|⟨_,h3⟩⟩
   ·rw[hw] at h1;cases h1
   ·exact absurd (Xp.1 hc) ZC
   ·exact⟨v,h3⟩
  have uL:(cls X o.op=.r\/cls X o.op=.q)->CY X ops i=true->∃m,Uu ops (Zh X ops 0 ops.toList) ((0,({ s with next:=s.next+ops.size }:St))::((Zh X ops 0 ops.toList).map fun j=>(j+1,W_ tr (j+1)))) i=[(m,W_ tr m)] /\
    TU ops s.next i m tr (UI X 0 ops.toList) (W_ tr m)=W_ tr i:=by
   intro hk gU;unfold CY at gU;rw[agw] at gU;obtain⟨ha,rk⟩:=gU;rw[alK] at ha rk;have hab:∀k,k<i->kA X ops k->Xy ops k i=true:=fun k Fo xC=>by
    have:=ha k (ac9 k xC)
    simpa[Fo] using this
   have oG:∀k∈Zh X ops 0 ops.toList,(Xy ops k i=true<->k<i)/\(Xy ops i k=true<->i<k):=by
    intro k ur;have:=rk k ur;simp only[amE] at this;rcases this with h1|h1
    ·have:=X5.RZ i k h1;refine⟨⟨fun _=>this,fun _=>h1⟩,⟨fun h2=>?_,fun h2=>by omega⟩⟩;have:=X5.RZ k i h2;omega
    ·have:=X5.RZ k i h1;refine⟨⟨fun h2=>?_,fun h2=>by omega⟩,⟨fun _=>this,fun _=>h1⟩⟩;have:=X5.RZ i k h2;omega
   have ZC:∀k∈Zh X ops 0 ops.toList,k≠i:=fun k ur e=>by
    obtain⟨o2,G9,xJ⟩:=(Mu k).1 ur;rw[e,Vo] at G9;cases G9;rcases hk with hk|hk <;> rw[hk] at xJ <;> cases xJ
   have ac':Yk (fun j=>!Xy ops i j) (Zh X ops 0 ops.toList)=Yk (fun j=>Xy ops j i) (Zh X ops 0 ops.toList):=by
    refine Nat.le_antisymm (U_ _ fun x hx h=>?_) (U_ _ fun x hx h=>?_)
    ·have h1:Xy ops i x=false:=by simpa using h
     refine ((oG x hx).1).2 (Nat.lt_of_not_le fun hle=>?_);have:=((oG x hx).2).2 (by have:=ZC x hx;omega);rw[h1] at this;cases this
    ·have h1:=((oG x hx).1).1 h;simp only[ams]
     cases hb:Xy ops i x with
     |false=>rfl
     |true=>have:=((oG x hx).2).1 hb;omega
   unfold Uu;rw[ac'];generalize hq:Yk (fun j=>Xy ops j i) (Zh X ops 0 ops.toList)=q;have G7:=List.pairwise_iff_getElem.1 (To (X:=X) (ops:=ops) ops.toList 0);have hql:q<=(Zh X ops 0 ops.toList).length:=by
    rw[<-hq];generalize Zh X ops 0 ops.toList=L
    induction L with
    |nil=>exact agB _
    |cons x L ih=>simp only[Yk,akd];split <;> omega
   have LX:∀n (hn:n<(Zh X ops 0 ops.toList).length),(n<q<->(Zh X ops 0 ops.toList)[n]<i):=by
    obtain⟨p,sV,EF,G'⟩:∃p,p<=(Zh X ops 0 ops.toList).length/\(∀n (hn:n<(Zh X ops 0 ops.toList).length),n<p->(Zh X ops 0 ops.toList)[n]<i)/\(∀n (hn:n<(Zh X ops 0 ops.toList).length),p<=n->¬(Zh X ops 0 ops.toList)[n]<i):=by
     rcases HF (fun n=>∃hn:n<(Zh X ops 0 ops.toList).length,(Zh X ops 0 ops.toList)[n]<i) (Zh X ops 0 ops.toList).length with h|⟨n0,h1,⟨h2,h3⟩,h4⟩
     ·exact⟨0,aic _,fun n _ hn=>by omega,fun n hn _ Yh=>h n hn ⟨hn,Yh⟩⟩
     ·refine⟨n0+1,h1,fun n hn Yh=>?_,fun n hn hle Yh=>h4 n (by omega) hn ⟨hn,Yh⟩⟩;by_cases e:n=n0
      ·subst e;exact h3
      ·have:=G7 n n0 hn h2 (by omega);omega
    have tH:p=q:=by
     rw[<-hq];refine (U1 _ p sV (fun x hx=>?_) (fun x hx=>?_)).symm
     ·obtain⟨n,hn,rfl⟩:=alP.1 hx;rw[List.getElem_take];have r9:n<p/\n<(Zh X ops 0 ops.toList).length:=by rw[amr] at hn;omega
      exact ((oG _ (adm r9.2)).1).2 (EF n r9.2 r9.1)
     ·obtain⟨n,hn,rfl⟩:=alP.1 hx;rw[List.getElem_drop];rw[List.length_drop] at hn;have:=G' (p+n) (by omega) (by omega)
      cases hb:Xy ops (Zh X ops 0 ops.toList)[p+n] i with
      |false=>rfl
      |true=>exact absurd (((oG _ (adm (by omega))).1).1 hb) this
    subst tH;exact fun n hn=>⟨EF n hn,fun Yh=>Nat.lt_of_not_le fun hle=>G' n hn hle Yh⟩
   have fin:∀m,(m=0\/∃j,m=j+1/\j∈Zh X ops 0 ops.toList)->m<=i->(∀k∈Zh X ops 0 ops.toList,k<i->k<m) ->
     TU ops s.next i m tr (UI X 0 ops.toList) (W_ tr m)=W_ tr i:=fun m hm Bi hwm =>
    CW ht k1 X5 hi Bi (fun k ok h1 h2 ada hc=>by
     have:=hwm k ((Mu k).2 ⟨ok,ada,hc⟩) h2;omega) hab (fun k h1 h2=>Fj m hm k h1 h2)
   cases q with
   |zero =>
    refine⟨0,by simp[J8],fin 0 (.inl rfl) (aic _) fun k ur Fo=>?_⟩;obtain⟨n,hn,rfl⟩:=alP.1 ur;have:=(LX n hn).2 Fo;omega
   |succ q =>
    have hqn:q<(Zh X ops 0 ops.toList).length:=by omega
    have hqi:=(LX q hqn).1 (by omega);refine⟨(Zh X ops 0 ops.toList)[q]+1,?_,fin _ (.inr ⟨_,rfl,adm _⟩) (by omega) fun k ur Fo=>?_⟩
    ·rw[List.drop_take];rw[show q+1+1-(q+1)=1 by omega,List.drop_succ_cons,abc (by simpa using hqn)];simp
    ·obtain⟨n,hn,rfl⟩:=alP.1 ur;have hnq:=(LX n hn).2 Fo;by_cases e:n=q
     ·subst e;omega
     ·have:=G7 n q hn hqn (by omega);omega
  have Fi:=Xa i hi;rw[Vo] at Fi;simp only at Fi;refine⟨fun hk=>?_,fun hk=>?_⟩
  ·cases Ef:CY X ops i with
   |true =>
    obtain⟨v,hv⟩:=xI (by rw[hk];simp);obtain⟨m,Be,bR⟩:=uL (.inl hk) Ef;refine⟨v,_,hv,?_⟩;rw[Be];simp only[WS,bR,hv,P0,Bool.and_self]
   |false =>
    rw[hk,Ef] at Fi;simp only[Bd.Ye,Bool.true_or,ama,amf,al9,agw,amz,alK,ams] at Fi;obtain⟨hgn,SX⟩:=Fi;have MT:(l.zip (bh X ops))[i]? = some ((l[i]'(by omega)),some (Yk (fun j=>Xy ops j i) (Zh X ops 0 ops.toList),Yk (fun j=>!Xy ops i j) (Zh X ops 0 ops.toList))):=by
     rw[List.getElem?_zip_eq_some];refine⟨by simp[aaa (show i<l.length by omega)],?_⟩;simp only[bh,alV,List.getElem?_range hi,amo,opC,Vo,hk,Ef,Bd.Ye];rfl
    obtain⟨v,hv,SY⟩:=hP2 i o _ _ _ (by simpa using Vo) MT hgn hk;refine⟨v,_,hv,?_⟩;have Mw:=CX _ hP1 _ SY;simp only at Mw;have adb:∀x∈Uu ops (Zh X ops 0 ops.toList) ((0,({ s with next:=s.next+ops.size }:St))::((Zh X ops 0 ops.toList).map fun j=>(j+1,W_ tr (j+1)))) i,SE v (WG X s.next none (SB tr i) x.2 (yl X o.op))=true:=by
     intro x hx;refine rT _ Mw x.2 ?_;have:(([{ s with next:=s.next+ops.size }]:List St)++(Zh X ops 0 ops.toList).map (fun j=>W_ tr (j+1-0)))=((0,({ s with next:=s.next+ops.size }:St))::((Zh X ops 0 ops.toList).map fun j=>(j+1,W_ tr (j+1)))).map Prod.snd:=by
      simp[Function.comp_def]
     rw[this,<-List.map_take,<-List.map_drop];exact List.mem_map_of_mem hx
    generalize Uu ops (Zh X ops 0 ops.toList) ((0,({ s with next:=s.next+ops.size }:St))::((Zh X ops 0 ops.toList).map fun j=>(j+1,W_ tr (j+1)))) i=L at adb
    induction L with
    |nil=>rfl
    |cons x L ih =>
     obtain⟨m,s1⟩:=x;have h0:=adb (m,s1) (aba ..);simp only[WS];rw[rU _ SX];unfold SE at h0
     split at h0
     ·rename_i u s2 hu;simp only at hu;simp only[N1 hu,h0,al9];exact ih fun x hx=>adb x (aab _ hx)
     ·cases h0
  ·cases Ef:CY X ops i with
   |true =>
    obtain⟨v,hv⟩:=xI (by rw[hk];simp);obtain⟨m,Be,bR⟩:=uL (.inr hk) Ef;obtain⟨_,c,vs,us,e1,e2,e3,_⟩:=D4 hk hv;refine⟨c,vs,us,e1,e2,e3,?_⟩;rw[Be];simp only[Ta,bR,e3,WK,Bool.and_self]
   |false =>
    rw[hk,Ef] at Fi;simp[Bd.Ye] at Fi
 rw[NY a_];simp only[Oi,J9,hnA,Bool.and_self,if_true];exact g2
end
section
variable (X:Cx){β:Type}(back:β)(fin:Fl->β)(ks:List K)
noncomputable def lj (base:Nat)(l:List lq)(e:Env)(s:St)(H:List St)(P:List Pb):β:=match NZ X base l e s H P with
 |some (e,s)=>goN X fin ks e s
 |none=>back
noncomputable def uj (base:Nat)(x:Option (AV×St))(d:Option Nat)(w:Bool)(c:Option (Nat×Nat))(op:MN)(l:List lq)(e:Env)(H:List St)(P:List Pb):β:=match x with
 |some (v,s)=>bif !w||S_ base s l then lj X back fin ks base l (Yt e d v) s (bif w then H++[s] else H) (bu c e op v P) else back
 |none=>back
noncomputable def sN (c:Code)(e:Env)(s:St):β:=pop X fin ks (Yf X c e s)
variable (base:Nat)(e:Env)(s:St)(H:List St)(P:List Pb)(l:List lq)
theorem a8:lj X back fin ks base [] e s H P=bif O2 X base H P then goN X fin ks e s else back:=by
 simp only[lj,NZ]
 cases O2 X base H P <;> rfl
theorem gT (d:Option Nat)(a:Option Nat)(w:Bool)(op:MN)(c:Option (Nat×Nat)) :
  lj X back fin ks base ((⟨d,none,a,w,op⟩,c)::l) e s H P=uj X back fin ks base (WG X base a e s op) d w c op l e H P:=by
 simp only[lj,NZ,uj,Rt,cond_true]
 cases WG X base a e s op with
 |none=>rfl
 |some x =>
  simp only
  cases (!w||S_ base x.2 l) <;> rfl
theorem ui (v:AV)(d:Option Nat)(op:MN):uj X back fin ks base (some (v,s)) d false none op l e H P=lj X back fin ks base l (Yt e d v) s H P:=(fun h=>h) rfl
theorem x9 (v:AV)(d:Option Nat)(lo hi:Nat)(op:MN):uj X back fin ks base (some (v,s)) d false (some (lo,hi)) op l e H P=lj X back fin ks base l (Yt e d v) s H (⟨lo,hi,e,op,v⟩::P):=(fun h=>h) rfl
theorem ug (v:AV)(d:Option Nat)(op:MN):uj X back fin ks base (some (v,s)) d true none op l e H P=bif S_ base s l then lj X back fin ks base l (Yt e d v) s (H++[s]) P else back:=(fun h=>h) rfl
theorem oE:S_ base s []=true:=(fun h=>h) rfl
theorem x8 (d:Option Nat)(g:Option (Nat×Bool))(w:Bool)(op:MN)(c:Option (Nat×Nat)):S_ base s ((⟨d,g,none,w,op⟩,c)::l)=S_ base s l:=by
 simp[S_,Wm]
theorem xZ (i:Nat)(d:Option Nat)(g:Option (Nat×Bool))(w:Bool)(op:MN)(c:Option (Nat×Nat)):S_ base s ((⟨d,g,some i,w,op⟩,c)::l)=((s.get (base+i)).isNone&&S_ base s l):=by
 simp[S_,Wm]
theorem oD:O2 X base H []=true:=(fun h=>h) rfl
theorem ue (lo hi:Nat)(op:MN)(v:AV):O2 X base H (⟨lo,hi,e,op,v⟩::P)=(bA X base e op v ((H.take (hi+1)).drop lo)&&O2 X base H P):=(fun h=>h) rfl
theorem a0 (op:MN)(v:AV):bA X base e op v []=true:=(fun h=>h) rfl
theorem gS (op:MN)(v:AV)(L:List St):bA X base e op v (s::L)=(SE v (WG X base none e s op)&&bA X base e op v L):=(fun h=>h) rfl
def pbO (v:AV)(x:Option AV):Bool:=match x with
 |some u=>same u v
 |none=>false
theorem xY (v:AV)(x:Option AV):SE v (Zm x s)=pbO v x:=by cases x <;> rfl
theorem gR (u v:AV):pbO v (some u)=same u v:=(fun h=>h) rfl
theorem ade (v:AV)(x:WB):SE v (WG X base none e s (.SL x))=pbO v (SL (XE e x) s):=xY s v _
theorem aZ (v:AV)(x:WB):SE v (WG X base none e s (.SW x))=pbO v (Ti (XE e x)):=xY s v _
theorem gQ {α:Type}(x:α)(l m:List α):(x::l)++m=x::(l++m):=(fun h=>h) rfl
theorem aY {α:Type}(m:List α):([]:List α)++m=m:=(fun h=>h) rfl
theorem abA [Stat] {c:Code}{n:Nat}{l:List lq}(h:O_ X c=some (n,l))(fin:Fl->β)(ks:List K)(e:Env)(s:St):go X fin ks (.raw c) e s =
  bif S_ s.next s l then lj X (sN X fin ks c e s) fin ks s.next l e { s with next:=s.next+n } [{ s with next:=s.next+n }] [] else sN X fin ks c e s:=by
 unfold O_ at h
 split at h
 ·rename_i id ops d
  split at h
  ·rename_i hc;simp only[agw] at hc
   split at h
   ·rename_i l0 hl
    cases h
    have hz:S_ s.next s (l0.zip (bh X ops))=Wm s.next s l0:=by
     unfold S_;rw[List.map_fst_zip];rw[Pn _ _ _ hl];simp[bh]
    rw[hz]
    cases hn:Wm s.next s l0 with
    |false=>rfl
    |true =>
     simp only[cond_true,lj]
     split
     ·rename_i e1 s1 h1;have:=gW hl hc.1.2 hc.2 hn h1;simp only[go,den,goN];rw[Vq];simp only[Xc,hc.1.1,if_true,this]
     ·rfl
   ·cases h
  ·cases h
 ·cases h
end
@[congr] theorem adf {X:Cx} {β:Type} {back:β} {fin:Fl->β} {ks:List K} {base:Nat} {x x':Option (AV×St)} {d:Option Nat} {w:Bool} {c:Option (Nat×Nat)} {op:MN} {l:List lq} {e:Env} {H:List St} {P:List Pb} (h:x=x'):uj X back fin ks base x d w c op l e H P=uj X back fin ks base x' d w c op l e H P:=by rw[h]
attribute [go_sem ↓] a8 gT ui x9 ug oE x8 xZ oD ue a0 gS ade aZ gQ aY List.take_succ_cons amF List.drop_succ_cons amd
attribute [go_sem] gR P0
end Go.Am
namespace Go.Am
open Go
variable [Z4]
set_option maxRecDepth 100000
set_option maxHeartbeats 8000000
def uw:RC->List Code
 |.seq a b=>uw a++uw b
 |.cond _ a b=>uw a++uw b
 |.block _ b=>uw b
 |.loop b=>uw b
 |.raw c=>[c]
 |_=>[]
noncomputable def KQ (f k:Nat):Code:=match U.fn f with
 |some fn=>match fn.body with
  |some c=>((uw (rc U c))[k]?).getD .skip
  |none=>.skip
 |none=>.skip
def vR:RC:=(sQ (sO [om 9 5,om 10 1,YU 11 10,YN 12 3 9 11] (cS 12 (.exit 0))) (sQ (.block 1 (sQ (.TP 8 [om 15 1,om 16 5,Zk 17 1 15 16,Z0 18 17,om 19 0,DP 20 3 1 19,O8 21 3 20 1,o 22 (.call 94 [(.t 18),(vI 0),(.t 21)])]) (cT 22 (sO [ZA 4 3] .ret)))) (oP [om 13 5,YE 14 3 13 1,om 5 14])))
def r28:RC:=(sO [ZA 4 0] (sQ (sO [om 6 1,YU 7 6,VM 8 3 7 4096] (cT 8 (sO [ZA 4 5] .ret))) (sQ (sO [ZA 5 0] (.block 0 (.loop vR))) (sO [ZA 4 0] .ret))))
theorem k28:Ze 28=some ([.tmp 4],r28):=by kernel_rfl
def r56:RC:=(sO [Zj 4] (sO [om 5 0,om 6 1,Zb 7 109 5 6,om 4 7] .ret))
theorem k56:Ze 56=some ([.tmp 4],r56):=by kernel_rfl
def r91:RC:=(sO [Zi 2 3 0,ZA 4 0] (sQ (sO [om 5 1,YU 6 5,VM 7 3 6 4096] (cT 7 (sO [ZA 4 5] .ret))) (sO [om 8 1,o 9 (.mkf 159 [] [(.t 2)]),Zb 10 125 8 9,Wh 11 116 10 3,om 4 11] .ret)))
theorem k91:Ze 91=some ([.tmp 4],r91):=by kernel_rfl
def BQ:RC:=(sQ (sO [om 11 5,om 12 0,YU 13 12,YN 14 3 11 13] (cS 14 (.exit 0))) (sQ (.block 1 (sQ (.TP 9 [om 17 0,om 18 5,Zk 19 1 17 18,Z0 20 19,om 21 1,om 22 5,Zk 23 1 21 22,Z0 24 23,Oe 25 3 20 24]) (cT 25 (sO [Zj 4] .ret)))) (oP [om 15 5,YE 16 3 15 1,om 5 16])))
def aeR:RC:=(sO [Zj 4] (sQ (sO [om 6 0,YU 7 6,om 8 1,YU 9 8,Oe 10 3 7 9] (cT 10 (sO [Zj 4] .ret))) (sQ (sO [ZA 5 0] (.block 0 (.loop BQ))) (sO [TK 4] .ret))))
theorem aiM:Ze 109=some ([.tmp 4],aeR):=by kernel_rfl
def anp:RC:=(sO [Zj 4] (sO [om 5 0,om 6 1,Zb 7 179 5 6,o 8 (.bin .geq 3 true (.t 7) (vI 0)),om 4 8] .ret))
theorem anH:Ze 125=some ([.tmp 4],anp):=by kernel_rfl
def anF:RC:=(sO [Zj 3] (sO [om 4 0,o 5 (.bin .lss 3 true (.t 4) (vI 0)),om 6 5,Yo 7 6 0,XH 8 6 1,oF 9 6 (.bin .shl 3 true (vI 1) (.t 8)),zm 10 6 3 7 9,Yp 11 6 10,om 3 11] .ret))
theorem an0:Ze 159=some ([.tmp 3],anF):=by kernel_rfl
def uf:RC:=(sO [YN 9 3 8 7] (sQ (cS 9 (.exit 0)) (sQ (.block 1 (sO [om 10 8,om 5 10] (sO [om 11 1,om 12 0,om 13 5,Zk 14 1 12 13,Z0 15 14,DC 16 11 15] (cT 16 (sO [om 17 5,om 4 17] .ret))))) (oP [YE 18 3 8 1,om 8 18]))))
def ano:RC:=(sO [ZA 4 0] (sQ (sO [om 6 0,YU 7 6,ZA 8 0] (.block 0 (.loop uf))) (sO [o 4 (.O9 (vI (-1)))] .ret)))
theorem anG:Ze 179=some ([.tmp 4],ano):=by kernel_rfl
end Go.Am
namespace Go.Am
open Go
variable [Z4]
set_option maxRecDepth 100000
def r94:RC:=(sO [Zj 6] (sO [om 7 0,om 8 1,YN 9 3 7 8,om 10 9,Yo 11 10 0,Yo 12 10 2,oF 13 10 (.bin .gtr 3 false (.t 11) (.t 12)),Yp 14 10 13,om 6 14] .ret))
theorem k94:Ze 94=some ([.tmp 6],r94):=by kernel_rfl
def r26:RC:=(sO [ZA 2 0] (sQ (sO [om 3 0,Gf 4 94 3 1 16] (cT 4 (sO [ZA 2 3] .ret))) (sO [ZA 2 0] .ret)))
theorem k26:Ze 26=some ([.tmp 2],r26):=by kernel_rfl
def r95:RC:=(sO [o 2 (.al [bF,bF,bF,bF,bF,bF] 160),Zj 3] (sQ (sO [om 4 0] (.block 0 (sQ (sO [Qc 6 9 4 104 105 103 104,om 5 6] (cS 5 (sO [Td 7 9 4 108 111 119,om 5 7] (cS 5 (sO [Qc 8 9 4 114 105 115 101,om 5 8] (cS 5 (oP [Qc 9 9 4 102 97 108 108,om 5 9]))))))) (cO 5 (sO [o 10 (.On [bF,bF,bF,bF,bF,bF] [(0,1,vT),(1,1,vF),(2,1,vF),(3,1,vF),(4,1,vF),(5,1,vF)]),YT 6 2 10,TK 3] .ret) (sQ (sO [o 12 (.bin .eql 9 true (.t 4) (.v (.str [112,97,116,116,101,114,110]))),om 11 12] (cS 11 (oP [MS 13 9 4 101 110 116 101 114,om 11 13]))) (cO 11 (sO [o 14 (.On [bF,bF,bF,bF,bF,bF] [(0,1,vF),(1,1,vF),(2,1,vF),(3,1,vF),(4,1,vT),(5,1,vF)]),YT 6 2 14,TK 3] .ret) (sQ (sO [MS 16 9 4 112 117 108 115 101,om 15 16] (cS 15 (oP [Td 17 9 4 103 97 112,om 15 17]))) (cO 15 (sO [o 18 (.On [bF,bF,bF,bF,bF,bF] [(0,1,vT),(1,1,vF),(2,1,vT),(3,1,vT),(4,1,vF),(5,1,vF)]),YT 6 2 18,TK 3] .ret) (sO [Qc 20 9 4 105 100 108 101,om 19 20] (cO 19 (sO [o 21 (.On [bF,bF,bF,bF,bF,bF] [(0,1,vT),(1,1,vF),(2,1,vT),(3,1,vF),(4,1,vF),(5,1,vF)]),YT 6 2 21,TK 3] .ret) (sO [MS 23 9 4 115 101 116 117 112,om 22 23] (cO 22 (sO [o 24 (.On [bF,bF,bF,bF,bF,bF] [(0,1,vT),(1,1,vT),(2,1,vT),(3,1,vF),(4,1,vF),(5,1,vF)]),YT 6 2 24,TK 3] .ret) (sO [Qc 26 9 4 114 117 110 116,om 25 26] (cO 25 (sO [o 27 (.On [bF,bF,bF,bF,bF,bF] [(0,1,vT),(1,1,vT),(2,1,vF),(3,1,vF),(4,1,vF),(5,1,vF)]),YT 6 2 27,TK 3] .ret) (sQ (sO [Td 29 9 4 110 111 116,om 28 29] (cS 28 (sO [Td 30 9 4 97 108 108,om 28 30] (cS 28 (oP [Td 31 9 4 97 110 121,om 28 31]))))) (cT 28 (sO [o 32 (.On [bF,bF,bF,bF,bF,bF] [(0,1,vF),(1,1,vF),(2,1,vF),(3,1,vF),(4,1,vF),(5,1,vT)]),YT 6 2 32,TK 3] .ret))))))))))))))))) (sO [o 33 (.On [bF,bF,bF,bF,bF,bF] []),YT 6 2 33,Zj 3] .ret)))
theorem k95:Ze 95=some ([.cell 2 160,.tmp 3],r95):=by kernel_rfl
def wq:RC:=(sQ (sO [om 10 5,om 11 0,Om 12 11,YN 13 3 10 12] (cS 13 (.exit 0))) (sQ (.block 1 (sO [om 16 0,om 17 5,o 18 (.sZ (.t 16) (.t 17)),o 19 (.bin .neq 5 true (.t 18) (.v (.int .u8 48))),om 20 19,Zp 21 20 0,Zp 22 20 5,oT 23 20 (.sZ (.t 21) (.t 22)),oT 24 20 (.bin .neq 5 true (.t 23) (.v (.int .u8 49))),YJ 25 20 24,om 26 25,Zp 27 26 0,Zp 28 26 5,oT 29 26 (.sZ (.t 27) (.t 28)),oT 30 26 (.bin .neq 5 true (.t 29) (.v (.int .u8 120))),YJ 31 26 30] (cT 31 (sO [TK 4] .ret)))) (oP [om 14 5,YE 15 3 14 1,om 5 15])))
def r96:RC:=(sO [Zj 4] (sQ (sO [om 6 0,Om 7 6,om 8 1,Oe 9 3 7 8] (cT 9 (sO [TK 4] .ret))) (sQ (sO [ZA 5 0] (.block 0 (.loop wq))) (sO [Zj 4] .ret))))
theorem k96:Ze 96=some ([.tmp 4],r96):=by kernel_rfl
def wH:RC:=(sQ (sO [om 167 9,ZX 168 6 4,Z0 169 168,YU 170 169,YN 171 3 167 170] (cS 171 (.exit 0))) (sQ (.block 1 (sO [om 174 0,ZX 175 6 4,Z0 176 175,om 177 9,Zk 178 7 176 177,Zr 179 7 178,om 180 2,YE 181 3 180 1,MQ 182 27 174 179 181,om 10 182] (sO [om 183 10,TY 184 3 183 0] (cT 184 (sO [om 185 10,om 6 185] .ret))))) (oP [om 172 9,YE 173 3 172 1,om 9 173])))
def r27:RC:=(sO [Zi 4 39 1,ZA 6 0] (sQ (sO [om 11 2,VM 12 3 11 4] (cT 12 (sO [ZA 6 5] .ret))) (sO [ZX 14 0 4,Z0 15 14,Zc 16 95 15,om 13 16,YO 17 13 0,YO 18 13 1,o 7 (.al [bF,bF,bF,bF,bF,bF] 160),YT 6 7 17,om 8 18] (sQ (sO [om 19 8,WZ 20 19] (cT 20 (sO [ZA 6 13] .ret))) (sQ (sO [ML 21 6 1 7 0,Z0 22 21,WZ 23 22,om 24 23,YW 25 24 1 4,YV 26 24 25,RE 27 24 3 26 0,YJ 28 24 27,om 29 28,KW 30 29 6 1 7 1,XH 31 29 30,UA 32 29 31,Yo 33 29 32,YW 34 33 2 4,YV 35 33 34,RE 36 33 3 35 0,TM 37 29 33 36,Yp 38 29 37,om 39 38,KW 40 39 6 1 7 2,XH 41 39 40,UA 42 39 41,Yo 43 39 42,YW 44 43 3 4,YV 45 43 44,RE 46 43 3 45 0,TM 47 39 43 46,Yp 48 39 47,om 49 48,KW 50 49 6 1 7 3,XH 51 49 50,UA 52 49 51,Yo 53 49 52,YW 54 53 4 4,YV 55 53 54,RE 56 53 3 55 0,TM 57 49 53 56,Yp 58 49 57,om 59 58,KW 60 59 6 1 7 4,XH 61 59 60,UA 62 59 61,Yo 63 59 62,YW 64 63 5 4,YV 65 63 64,oT 66 63 (.bin .neq 9 true (.t 65) (.v (.str []))),TM 67 59 63 66,Yp 68 59 67,om 69 68,KW 70 69 6 1 7 5,XH 71 69 70,UA 72 69 71,Yo 73 69 72,YW 74 73 6 4,YV 75 73 74,KX 76 73 75,oT 77 73 (.bin .gtr 3 true (.t 76) (vI 0)),TM 78 69 73 77,Yp 79 69 78] (cT 79 (sO [ZA 6 2] .ret))) (sQ (sO [ML 80 6 1 7 0,Z0 81 80,om 82 81,YW 83 82 1 4,YV 84 82 83,Zp 85 82 0,zQ 86 82 3 85 1,oT 87 82 (.call 94 [(.t 84),(vI 0),(.t 86)]),YJ 88 82 87,om 89 88,KW 90 89 6 1 7 1,XH 91 89 90,Yo 92 89 91,YW 93 92 2 4,YV 94 92 93,Zp 95 92 0,zQ 96 92 3 95 1,oT 97 92 (.call 94 [(.t 94),(vI 0),(.t 96)]),TM 98 89 92 97,Yp 99 89 98] (cT 99 (sO [ZA 6 3] .ret))) (sQ (sO [ML 100 6 1 7 1,Z0 101 100,om 102 101,YW 103 102 1 4,YV 104 102 103,YW 105 102 2 4,YV 106 102 105,oT 107 102 (.bin .eql 3 false (.t 104) (.t 106)),YJ 108 102 107] (cT 108 (sO [ZA 6 9] .ret))) (sQ (sO [ML 109 6 1 7 2,Z0 110 109,om 111 110,YW 112 111 3 4,YV 113 111 112,zo 114 111 94 113 1 255,YJ 115 111 114,om 116 115,KW 117 116 6 1 7 3,XH 118 116 117,Yo 119 116 118,YW 120 119 4 4,YV 121 119 120,zo 122 119 94 121 1 255,TM 123 116 119 122,Yp 124 116 123] (cT 124 (sO [ZA 6 3] .ret))) (sQ (sO [ML 125 6 1 7 3,Z0 126 125,om 127 126,YW 128 127 3 4,YV 129 127 128,YW 130 127 4 4,YV 131 127 130,Ag 132 127 3 129 131,YJ 133 127 132] (cT 133 (sO [ZA 6 11] .ret))) (sQ (sO [ML 134 6 1 7 4,Z0 135 134,om 136 135,YW 137 136 5 4,YV 138 136 137,Zp 139 136 0,Un 140 136 96 138 139,YJ 141 136 140] (cT 141 (sO [ZA 6 1] .ret))) (sQ (sO [ZX 142 0 4,Z0 143 142,Td 144 9 143 110 111 116,om 145 144,YW 146 145 6 4,YV 147 145 146,KX 148 145 147,RE 149 145 3 148 1,YJ 150 145 149] (cT 150 (sO [ZA 6 2] .ret))) (sQ (sO [ML 151 6 1 7 5,Z0 152 151,om 153 152,YW 154 153 6 4,YV 155 153 154,KX 156 153 155,MP 157 153 3 156 0,YJ 158 153 157] (cT 158 (sO [ZA 6 12] .ret))) (sQ (sO [ML 159 6 1 7 5,Z0 160 159,om 161 160,YW 162 161 6 4,YV 163 161 162,KX 164 161 163,oT 165 161 (.bin .gtr 3 true (.t 164) (vI 8)),YJ 166 161 165] (cT 166 (sO [ZA 6 5] .ret))) (sQ (sO [ZA 9 0] (.block 0 (.loop wH))) (sO [ZA 6 0] .ret)))))))))))))))
theorem k27:Ze 27=some ([.tmp 6],r27):=by kernel_rfl
def w7:RC:=(sQ (sO [om 21 4,ZX 22 1 1,Z0 23 22,YU 24 23,YN 25 3 21 24] (cS 25 (.exit 0))) (sQ (.block 1 (sO [ZX 28 1 1,Z0 29 28,om 30 4,Zk 31 9 29 30,Zr 32 9 31,DB 5 0 0 0 0 0 0 90,YT 9 5 32] (sQ (sO [ZX 33 0 1,Z0 34 33,ZX 35 0 5,Zr 36 7 35,o 37 (.call 27 [(.t 34),(.t 36),(vI 1)]),om 6 37] (sO [om 38 6,TY 39 3 38 0] (cT 39 (sO [om 40 6,om 2 40] .ret)))) (sO [ZX 41 7 5,Z0 42 41,Gf 43 94 42 1 64,om 44 43,Uj 45 44 8 5,XH 46 44 45,oF 47 44 (.call 94 [(.t 46),(vI 0),(vI 255)]),Yp 48 44 47,om 49 48,Yo 50 49 4,oF 51 49 (.bin .eql 3 true (.t 50) (vI 0)),Yo 52 49 51,YW 53 52 8 5,YV 54 52 53,RE 55 52 3 54 0,TM 56 49 52 55,Yp 57 49 56] (cT 57 (sO [ZA 2 3] .ret)))))) (oP [om 26 4,YE 27 3 26 1,om 4 27])))
def r34:RC:=(sO [Zi 1 31 0,ZA 2 0] (sQ (sO [ZX 7 0 1,Z0 8 7,Zc 9 26 8,om 3 9] (sO [om 10 3,TY 11 3 10 0] (cT 11 (sO [om 12 3,om 2 12] .ret)))) (sQ (sO [ZX 13 1 1,Z0 14 13,YU 15 14,VR 16 3 15 0] (cT 16 (sO [ZA 2 12] .ret))) (sQ (sO [ZX 17 1 1,Z0 18 17,YU 19 18,VM 20 3 19 8] (cT 20 (sO [ZA 2 5] .ret))) (sQ (sO [ZA 4 0] (.block 0 (.loop w7))) (sO [ZA 2 0] .ret))))))
theorem k34:Ze 34=some ([.tmp 2],r34):=by kernel_rfl
def aen:RC:=(sO [ZA 4 0] (sQ (sO [om 5 0] (cT 5 (sO [om 6 1,om 4 6] .ret))) (sO [ZA 4 0] .ret)))
theorem aif:Ze 116=some ([.tmp 4],aen):=by kernel_rfl
def aeo:RC:=(sO [ZA 6 0] (sO [om 7 0,om 8 1,YN 9 3 7 8,om 10 9,Yo 11 10 0,Yo 12 10 2,oF 13 10 (.bin .gtr 3 false (.t 11) (.t 12)),Yp 14 10 13,Wh 15 116 14 3,om 6 15] .ret))
theorem aih:Ze 124=some ([.tmp 6],aeo):=by kernel_rfl
def r88:RC:=(sO [ZA 2 0] (sO [om 3 0,Gf 4 124 3 1 16,om 2 4] .ret))
theorem k88:Ze 88=some ([.tmp 2],r88):=by kernel_rfl
def wM:RC:=(sO [YN 8 3 7 6] (sQ (cS 8 (.exit 0)) (sQ (.block 1 (sO [Zk 9 1 5 7,Z0 10 9,om 4 10] (sO [om 11 4,TY 12 26 11 0] (cT 12 (sO [om 13 4,om 2 13] .ret))))) (oP [YE 14 3 7 1,om 7 14]))))
def r89:RC:=(sO [ZA 2 0] (sQ (sO [om 5 0,YU 6 5,ZA 7 0] (.block 0 (.loop wM))) (sO [ZA 2 0] .ret)))
theorem k89:Ze 89=some ([.tmp 2],r89):=by kernel_rfl
def adE:RC:=(sO [Zi 2 236 0,Zi 3 48 1,Zj 4] (sO [ZX 5 0 2,Z0 6 5,WZ 7 6,om 8 7,YW 9 8 1 3,YV 10 8 9,RE 11 8 3 10 0,YJ 12 8 11,om 13 12,Uj 14 13 1 2,XH 15 13 14,UA 16 13 15,Yo 17 13 16,YW 18 17 2 3,YV 19 17 18,RE 20 17 3 19 0,TM 21 13 17 20,Yp 22 13 21,om 23 22,Uj 24 23 2 2,XH 25 23 24,UA 26 23 25,Yo 27 23 26,YW 28 27 3 3,YV 29 27 28,RE 30 27 3 29 0,TM 31 23 27 30,Yp 32 23 31,om 33 32,Uj 34 33 3 2,XH 35 33 34,UA 36 33 35,Yo 37 33 36,YW 38 37 4 3,YV 39 37 38,RE 40 37 3 39 0,TM 41 33 37 40,Yp 42 33 41,om 43 42,Uj 44 43 4 2,XH 45 43 44,UA 46 43 45,Yo 47 43 46,YW 48 47 5 3,YV 49 47 48,oT 50 47 (.bin .neq 9 true (.t 49) (.v (.str []))),TM 51 43 47 50,Yp 52 43 51,om 53 52,Uj 54 53 5 2,XH 55 53 54,UA 56 53 55,Yo 57 53 56,YW 58 57 6 3,YV 59 57 58,KX 60 57 59,oT 61 57 (.bin .gtr 3 true (.t 60) (vI 0)),TM 62 53 57 61,Yp 63 53 62,om 4 63] .ret))
theorem ahx:Ze 157=some ([.tmp 4],adE):=by kernel_rfl
def adD:RC:=(sO [ZA 4 0] (sO [om 5 1,Om 6 5,om 7 0,Oe 8 3 6 7,om 9 8,Yo 10 9 1,oF 11 9 (.call 212 [(.t 10),(.v (.str [48,49,120]))]),oF 12 9 (.bin .neq 9 true (.t 11) (.v (.str []))),Yp 13 9 12,Wh 14 116 13 1,om 4 14] .ret))
theorem ahu:Ze 158=some ([.tmp 4],adD):=by kernel_rfl
def Cq:RC:=(sO [YN 144 3 143 142] (sQ (cS 144 (.exit 0)) (sQ (.block 1 (sO [Zk 145 7 141 143,Zr 146 7 145,Pa 12 0 0 0 0 48,YT 7 12 146] (sO [om 147 10,VR 148 26 147 0] (cT 148 (oP [om 149 0,Zr 150 7 12,om 151 2,YE 152 3 151 1,MQ 153 90 149 150 152,om 10 153]))))) (oP [YE 154 3 143 1,om 143 154]))))
def r90:RC:=(sO [Zi 4 48 1,ZA 6 0] (sQ (.TP 10 [O7 14 156,ZX 15 0 4,Z0 16 15,o 17 (.raw (.lookup 238 (.tmp 14) (.tmp 16) true)),om 13 17,YO 18 13 0,YO 19 13 1,⟨some 7,none,some 7,false,.al [bF,bF,bF,bF,bF,bF,.Wa,.Wa,.Wa] 236⟩,⟨none,none,none,true,.st 9 (.t 7) (.t 18)⟩,om 8 19]) (sQ (sO [om 20 2,VM 21 3 20 4,Wh 22 116 21 5,om 23 8,WZ 24 23,Wh 25 116 24 13,o 26 (.U3 26 1 2 [(iI 0),(iI 0)] [(0,1,(.t 22)),(1,1,(.t 25))]),Zc 27 89 26,om 9 27] (sO [om 28 9,TY 29 26 28 0] (cT 29 (sO [om 30 9,om 6 30] .ret)))) (sQ (.TP 73 [Zr 31 9 7,Zr 32 7 4,Zb 33 157 31 32,Wh 34 116 33 2,ZX 35 0 7,Z0 36 35,om 37 36,YW 38 37 1 4,YV 39 37 38,oT 40 37 (.bin .lss 3 true (.t 39) (vI 0)),Zp 41 37 40,Uj 42 41 1 4,XH 43 41 42,Yo 44 41 0,zm 45 41 3 43 44,oT 46 37 (.pick (.t 41) vT (.t 45)),YJ 47 37 46,Wh 48 116 47 3,ZX 49 1 7,Z0 50 49,om 51 50,YW 52 51 2 4,YV 53 51 52,oT 54 51 (.bin .lss 3 true (.t 53) (vI 0)),Zp 55 51 54,Uj 56 55 2 4,XH 57 55 56,Yo 58 55 0,zm 59 55 3 57 58,oT 60 51 (.pick (.t 55) vT (.t 59)),YJ 61 51 60,Wh 62 116 61 3,ZX 63 1 7,Z0 64 63,om 65 64,YW 66 65 1 4,YV 67 65 66,YW 68 65 2 4,YV 69 65 68,oT 70 65 (.bin .eql 3 false (.t 67) (.t 69)),YJ 71 65 70,Wh 72 116 71 9,ZX 73 2 7,Z0 74 73,om 75 74,YW 76 75 3 4,YV 77 75 76,zo 78 75 124 77 1 255,RE 79 75 26 78 0,YJ 80 75 79,Wh 81 116 80 3,ZX 82 3 7,Z0 83 82,om 84 83,YW 85 84 4 4,YV 86 84 85,zo 87 84 124 86 1 255,RE 88 84 26 87 0,YJ 89 84 88,Wh 90 116 89 3,ZX 91 3 7,Z0 92 91,om 93 92,YW 94 93 3 4,YV 95 93 94,YW 96 93 4 4,YV 97 93 96,Ag 98 93 3 95 97,YJ 99 93 98,Wh 100 116 99 11,⟨some 101,none,some 70,false,.U3 26 1 7 [(iI 0),(iI 0),(iI 0),(iI 0),(iI 0),(iI 0),(iI 0)] [(0,1,(.t 34)),(1,1,(.t 48)),(2,1,(.t 62)),(3,1,(.t 72)),(4,1,(.t 81)),(5,1,(.t 90)),(6,1,(.t 100))]⟩,Zc 102 89 101,om 10 102]) (sQ (sO [ZX 103 4 7,Z0 104 103] (cT 104 (oP [om 105 10,om 106 0,ZX 107 5 4,Z0 108 107,Zb 109 158 106 108,o 110 (.U3 26 1 2 [(iI 0),(iI 0)] [(0,1,(.t 105)),(1,1,(.t 109))]),Zc 111 89 110,om 10 111]))) (sQ (sO [om 112 10,TY 113 26 112 0,om 114 113,Uj 115 114 5 7,XH 116 114 115,UA 117 114 116,Yp 118 114 117] (cT 118 (sO [om 119 10,om 6 119] .ret))) (sQ (sO [ZX 120 0 4,Z0 121 120,Td 122 9 121 110 111 116] (cO 122 (oP [ZX 123 6 4,Z0 124 123,YU 125 124,TY 126 3 125 1,Wh 127 116 126 2,om 10 127]) (.TP 13 [ZX 128 6 4,Z0 129 128,YU 130 129,VR 131 3 130 0,Wh 132 116 131 12,ZX 133 6 4,Z0 134 133,YU 135 134,VM 136 3 135 8,Wh 137 116 136 5,⟨some 138,none,some 10,false,.U3 26 1 2 [(iI 0),(iI 0)] [(0,1,(.t 132)),(1,1,(.t 137))]⟩,Zc 139 89 138,om 10 139]))) (sQ (sO [ZX 140 6 4,Z0 141 140,YU 142 141,ZA 143 0] (.block 0 (.loop Cq))) (sO [om 155 10,om 6 155] .ret)))))))))
theorem k90:Ze 90=some ([.tmp 6],r90):=by kernel_rfl
def wo:RC:=(sO [YN 29 3 28 27] (sQ (cS 29 (.exit 0)) (sQ (.block 1 (sO [om 30 28,Zk 31 9 26 28,Zr 32 9 31,DB 5 0 0 0 0 0 0 144,om 4 30,YT 9 5 32] (sQ (.TP 22 [ZX 33 0 1,Z0 34 33,ZX 35 0 5,Zr 36 7 35,o 37 (.call 90 [(.t 34),(.t 36),(vI 1)]),ZX 38 7 5,Z0 39 38,Gf 40 124 39 1 64,ZX 41 8 5,Z0 42 41,Gf 43 124 42 0 255,om 44 4,VR 45 3 44 0,om 46 45,YW 47 46 8 5,YV 48 46 47,RE 49 46 3 48 0,YJ 50 46 49,Wh 51 116 50 3,⟨some 52,none,some 19,false,.U3 26 1 4 [(iI 0),(iI 0),(iI 0),(iI 0)] [(0,1,(.t 37)),(1,1,(.t 40)),(2,1,(.t 43)),(3,1,(.t 51))]⟩,Zc 53 89 52,om 6 53]) (sO [om 54 6,TY 55 26 54 0] (cT 55 (sO [om 56 6,om 2 56] .ret)))))) (oP [YE 57 3 28 1,om 28 57]))))
def r64:RC:=(sO [Zi 1 25 0,ZA 2 0] (sQ (sQ (.TP 16 [ZX 7 0 1,Z0 8 7,Zc 9 88 8,ZX 10 1 1,Z0 11 10,YU 12 11,VR 13 3 12 0,Wh 14 116 13 12,ZX 15 1 1,Z0 16 15,YU 17 16,VM 18 3 17 8,Wh 19 116 18 5,⟨some 20,none,some 13,false,.U3 26 1 3 [(iI 0),(iI 0),(iI 0)] [(0,1,(.t 9)),(1,1,(.t 14)),(2,1,(.t 19))]⟩,Zc 21 89 20,om 3 21]) (sO [om 22 3,TY 23 26 22 0] (cT 23 (sO [om 24 3,om 2 24] .ret)))) (sQ (sO [ZX 25 1 1,Z0 26 25,YU 27 26,ZA 28 0] (.block 0 (.loop wo))) (sO [ZA 2 0] .ret))))
theorem k64:Ze 64=some ([.tmp 2],r64):=by kernel_rfl
def wm:RC:=(sQ (sO [om 26 5,ZX 27 6 2,Z0 28 27,YU 29 28,YN 30 3 26 29] (cS 30 (.exit 0))) (sQ (.block 1 (sO [ZX 33 6 2,Z0 34 33,om 35 5,Zk 36 7 34 35,Zr 37 7 36,om 38 1,YE 39 3 38 1,Zb 40 86 37 39,WZ 41 40] (cT 41 (sO [Zj 4] .ret)))) (oP [om 31 5,YE 32 3 31 1,om 5 32])))
def r86:RC:=(sO [Zi 2 39 0,Zj 4] (sQ (sO [om 6 1,VM 7 3 6 6,om 8 7,Uj 9 8 0 2,XH 10 8 9,oF 11 8 (.wk (.t 10)),K5 12 8 3 11 20,Yp 13 8 12,om 14 13,Uj 15 14 5 2,XH 16 14 15,oF 17 14 (.wk (.t 16)),K5 18 14 3 17 40,Yp 19 14 18,om 20 19,Uj 21 20 6 2,XH 22 20 21,oF 23 20 (.SW (.t 22)),K5 24 20 3 23 10,Yp 25 20 24] (cT 25 (sO [Zj 4] .ret))) (sQ (sO [ZA 5 0] (.block 0 (.loop wm))) (sO [TK 4] .ret))))
theorem k86:Ze 86=some ([.tmp 4],r86):=by kernel_rfl
def wh:RC:=(sQ (sO [om 5 4,ZX 6 6 1,Z0 7 6,YU 8 7,YN 9 3 5 8] (cS 9 (.exit 0))) (sQ (.block 1 (oP [om 12 3,ZX 13 6 1,Z0 14 13,om 15 4,Zk 16 7 14 15,Zr 17 7 16,Zc 18 87 17,TL 19 3 12 18,om 3 19])) (oP [om 10 4,YE 11 3 10 1,om 4 11])))
def r87:RC:=(sO [Zi 1 39 0,ZA 2 0] (sO [ZA 3 1] (sQ (sO [ZA 4 0] (.block 0 (.loop wh))) (sO [om 20 3,om 2 20] .ret))))
theorem k87:Ze 87=some ([.tmp 2],r87):=by kernel_rfl
def r21:RC:=(sO [Zi 2 39 0,Zj 4] (sO [Zr 5 7 2,Wh 6 86 5 1,om 7 6,Tg 8 7 7 2,oT 9 7 (.call 87 [(.t 8)]),Zp 10 7 1,Lg 11 7 3 9 10,YJ 12 7 11,om 4 12] .ret))
theorem k21:Ze 21=some ([.tmp 4],r21):=by kernel_rfl
def wL:RC:=(sQ (sO [om 10 5,ZX 11 1 2,Z0 12 11,YU 13 12,YN 14 3 10 13] (cS 14 (.exit 0))) (sQ (.block 1 (sO [ZX 17 1 2,Z0 18 17,om 19 5,Zk 20 9 18 19,ZX 21 0 20,Zr 22 7 21,om 23 1,Zb 24 21 22 23,WZ 25 24] (cT 25 (sO [Zj 4] .ret)))) (oP [om 15 5,YE 16 3 15 1,om 5 16])))
def r31:RC:=(sO [Zi 2 31 0,Zj 4] (sQ (sO [ZX 6 1 2,Z0 7 6,YU 8 7,VM 9 3 8 10] (cT 9 (sO [Zj 4] .ret))) (sQ (sO [ZA 5 0] (.block 0 (.loop wL))) (sO [TK 4] .ret))))
theorem k31:Ze 31=some ([.tmp 4],r31):=by kernel_rfl
def wg:RC:=(sQ (sO [om 18 4,ZX 19 6 1,Z0 20 19,YU 21 20,YN 22 3 18 21] (cS 22 (.exit 0))) (sQ (.block 1 (.TP 12 [ZX 25 6 3,Z0 26 25,ZX 27 6 1,Z0 28 27,om 29 4,Zk 30 7 28 29,Zr 31 7 30,Zc 32 24 31,⟨some 33,none,some 8,false,.U3 48 7 1 [(.str []),(iI 0),(iI 0),(iI 0),(iI 0),(.str []),.ZW] [(0,7,(.t 32))]⟩,⟨some 34,none,none,true,.app 48 7 88 (.t 26) (.t 33)⟩,ZX 35 6 3,⟨none,none,none,true,.st 1 (.t 35) (.t 34)⟩])) (oP [om 23 4,YE 24 3 23 1,om 4 24])))
def r24:RC:=(sO [Zi 1 39 0,Pa 2 0 0 0 0 48] (sO [ZX 5 0 1,Z0 6 5,ZX 7 1 1,Z0 8 7,ZX 9 2 1,Z0 10 9,ZX 11 3 1,Z0 12 11,ZX 13 4 1,Z0 14 13,ZX 15 5 1,Z0 16 15,o 17 (.On [(.str []),(iI 0),(iI 0),(iI 0),(iI 0),(.str []),.ZW] [(0,1,(.t 6)),(1,1,(.t 8)),(2,1,(.t 10)),(3,1,(.t 12)),(4,1,(.t 14)),(5,1,(.t 16))]),Pa 3 0 0 0 0 48,YT 7 3 17] (sQ (sO [ZA 4 0] (.block 0 (.loop wg))) (sO [Zr 36 7 3,YT 7 2 36] .ret))))
theorem k24:Ze 24=some ([.cell 2 48],r24):=by kernel_rfl
def wx:RC:=(sQ (sO [om 8 4,ZX 9 1 1,Z0 10 9,YU 11 10,YN 12 3 8 11] (cS 12 (.exit 0))) (sQ (.block 1 (.TP 26 [ZX 15 1 3,Z0 16 15,ZX 17 1 1,Z0 18 17,om 19 4,Zk 20 9 18 19,ZX 21 0 20,Zr 22 7 21,Zc 23 24 22,ZX 24 1 1,Z0 25 24,om 26 4,Zk 27 9 25 26,ZX 28 7 27,Z0 29 28,ZX 30 1 1,Z0 31 30,om 32 4,Zk 33 9 31 32,ZX 34 8 33,Z0 35 34,o 36 (.On [(.str []),(iI 0),(iI 0),(iI 0),(iI 0),(.str []),.ZW,(iI 0),(iI 0)] [(0,7,(.t 23)),(7,1,(.t 29)),(8,1,(.t 35))]),⟨some 37,none,some 22,false,.U3 144 9 1 [(.str []),(iI 0),(iI 0),(iI 0),(iI 0),(.str []),.ZW,(iI 0),(iI 0)] [(0,9,(.t 36))]⟩,⟨some 38,none,none,true,.app 144 9 104 (.t 16) (.t 37)⟩,ZX 39 1 3,⟨none,none,none,true,.st 1 (.t 39) (.t 38)⟩])) (oP [om 13 4,YE 14 3 13 1,om 4 14])))
def r33:RC:=(sO [Zi 1 31 0,Gv 2 0 25] (sO [ZX 5 0 1,Z0 6 5,o 7 (.On [(iI 0),.ZW] [(0,1,(.t 6))]),Gv 3 0 25,YT 2 3 7] (sQ (sO [ZA 4 0] (.block 0 (.loop wx))) (sO [Zr 40 2 3,YT 2 2 40] .ret))))
theorem k33:Ze 33=some ([.cell 2 25],r33):=by kernel_rfl
end Go.Am
namespace Go.Am
open Go Go.Proofs
variable [Z4]
set_option maxRecDepth 100000
theorem adu (a:AV)(s:St):Vc U 25 a s=NQ 2 a s:=Rg U aP aO a s
theorem adv (a:AV)(s:St):Vc U 48 a s=NQ 7 a s:=Rg U Ej Ei a s
theorem adw (a:AV)(s:St):Vc U 69 a s=NQ 3 a s:=Rg U aN aM a s
theorem aaK (a:AV)(s:St):Vc U 152 a s=NQ 3 a s:=Rg U nN nM a s
theorem nL:YC U 160=some true:=by kernel_rfl
theorem nK:size U 160=some 6:=by kernel_rfl
theorem aaL (a:AV)(s:St):Vc U 160 a s=NQ 6 a s:=Rg U nL nK a s
theorem nJ:YC U 167=some true:=by kernel_rfl
theorem nI:size U 167=some 3:=by kernel_rfl
theorem aaM (a:AV)(s:St):Vc U 167 a s=NQ 3 a s:=Rg U nJ nI a s
theorem AX (x:Option AV)(s:St):SJ false x s=some (undef,s):=(fun h=>h) rfl
theorem AW (X:Cx)(x:Option AV)(f:FuncId)(args:List AV)(s:St):OU X false x f args s=some (undef,s):=(fun h=>h) rfl
def St.upto (s:St)(k:Nat):St:={ s with next:=k }
theorem ZT (s:St)(k j:Nat):(s.upto k).get j=s.get j:=(fun h=>h) rfl
theorem Z6 (s:St)(k:Nat):(s.upto k).next=k:=(fun h=>h) rfl
theorem AU {X:Cx}{β:Type}(fin:Fl->β)(ks:List K)(e:Env)(s:St)(n:Nat)(l:List RO):go X fin ks (.TP n l) e s=bif Wm s.next s l then ES X fin ks s.next l e (s.upto (s.next+n)) else stuck X fin ks:=nF X fin ks e s n l
theorem tU {n:Nat}(h:4<=n):U.LK n=none:=by
 rw[LJ];unfold aJ nE
 match n,h with
 |n+4,_=>rfl
def Fr (s:St):Prop:=∀j,s.next<=j->s.get j=none
theorem Fr.at {s:St}(h:Fr s)(k:Nat):s.get (s.next+k)=none:=h _ (by omega)
theorem Fr.own:Fr (X8 U):=fun j hj=>by
 rw[CJ];rw[Hf,He] at hj;exact tU (by omega)
theorem Fr.new {s:St}(h:Fr s)(x:Uy):Fr (s.new x):=fun j hj=>by
 rw[Z_] at hj;rw[Z7,if_neg (by omega)];exact h j (by omega)
theorem Fr.put {s:St}(h:Fr s){k:Nat}(hk:k<s.next)(x:Uy):Fr (s.put k x):=fun j hj=>by
 rw[Z'] at hj;rw[Z9,if_neg (by omega)];exact h j (by omega)
theorem Fr.upto {s:St}(h:Fr s){k:Nat}(hk:s.next<=k):Fr (s.upto k):=fun j hj=>by
 rw[Z6] at hj;rw[ZT];exact h j (by omega)
attribute [go_sem ↓ high] AU
attribute [go_sem ↓] ZT Z6
attribute [go_sem] tU Option.isNone_none
attribute [go_sem ↓] AX AW
attribute [go_sem] adu adv adw aaK nL nK aaL nJ nI aaM
end Go.Am
namespace Go.Am
open Go
inductive Kd where
 |high|low|Iz|fall|pattern|enter|Vj|gap|idle|setup|Uf|QG|EU|OV|other
 deriving DecidableEq
def ZF (k:XV):Kd :=
 br (k==[104,105,103,104]) .high <|
 br (k==[108,111,119]) .low <|
 br (k==[114,105,115,101]) .Iz <|
 br (k==[102,97,108,108]) .fall <|
 br (k==[112,97,116,116,101,114,110]) .pattern <|
 br (k==[101,110,116,101,114]) .enter <|
 br (k==[112,117,108,115,101]) .Vj <|
 br (k==[103,97,112]) .gap <|
 br (k==[105,100,108,101]) .idle <|
 br (k==[115,101,116,117,112]) .setup <|
 br (k==[114,117,110,116]) .Uf <|
 br (k==[110,111,116]) .QG <|
 br (k==[97,108,108]) .EU <|
 br (k==[97,110,121]) .OV <|
 .other
structure Uses where
 a:Bool
 b:Bool
 mi:Bool
 ma:Bool
 pat:Bool
 kids:Bool
def YQ:Kd->Uses
 |.high|.low|.Iz|.fall=>⟨true,false,false,false,false,false⟩
 |.pattern|.enter=>⟨false,false,false,false,true,false⟩
 |.Vj|.gap=>⟨true,false,true,true,false,false⟩
 |.idle=>⟨true,false,true,false,false,false⟩
 |.setup=>⟨true,true,true,false,false,false⟩
 |.Uf=>⟨true,true,false,false,false,false⟩
 |.QG|.EU|.OV=>⟨false,false,false,false,false,true⟩
 |.other=>⟨false,false,false,false,false,false⟩
def Kd.known:Kd->Bool
 |.other=>false
 |_=>true
def fe (k:XV)(d:Kd):Prop:=ZF k=d/\(k==[104,105,103,104])=decide (d=.high)/\(k==[108,111,119])=decide (d=.low)/\(k==[114,105,115,101])=decide (d=.Iz)/\(k==[102,97,108,108])=decide (d=.fall)/\(k==[112,97,116,116,101,114,110])=decide (d=.pattern)/\(k==[101,110,116,101,114])=decide (d=.enter)/\(k==[112,117,108,115,101])=decide (d=.Vj)/\(k==[103,97,112])=decide (d=.gap)/\(k==[105,100,108,101])=decide (d=.idle)/\(k==[115,101,116,117,112])=decide (d=.setup)/\(k==[114,117,110,116])=decide (d=.Uf)/\(k==[110,111,116])=decide (d=.QG)/\(k==[97,108,108])=decide (d=.EU)/\(k==[97,110,121])=decide (d=.OV)
theorem UN (k:XV):fe k (ZF k):=by
 by_cases e0:k=[104,105,103,104]
 ·subst e0;exact⟨rfl,rfl,rfl,rfl,rfl,rfl,rfl,rfl,rfl,rfl,rfl,rfl,rfl,rfl,rfl⟩
 by_cases e1:k=[108,111,119]
 ·subst e1;exact⟨rfl,rfl,rfl,rfl,rfl,rfl,rfl,rfl,rfl,rfl,rfl,rfl,rfl,rfl,rfl⟩
 by_cases e2:k=[114,105,115,101]
 ·subst e2;exact⟨rfl,rfl,rfl,rfl,rfl,rfl,rfl,rfl,rfl,rfl,rfl,rfl,rfl,rfl,rfl⟩
 by_cases e3:k=[102,97,108,108]
 ·subst e3;exact⟨rfl,rfl,rfl,rfl,rfl,rfl,rfl,rfl,rfl,rfl,rfl,rfl,rfl,rfl,rfl⟩
 by_cases e4:k=[112,97,116,116,101,114,110]
 ·subst e4;exact⟨rfl,rfl,rfl,rfl,rfl,rfl,rfl,rfl,rfl,rfl,rfl,rfl,rfl,rfl,rfl⟩
 by_cases e5:k=[101,110,116,101,114]
 ·subst e5;exact⟨rfl,rfl,rfl,rfl,rfl,rfl,rfl,rfl,rfl,rfl,rfl,rfl,rfl,rfl,rfl⟩
 by_cases e6:k=[112,117,108,115,101]
 ·subst e6;exact⟨rfl,rfl,rfl,rfl,rfl,rfl,rfl,rfl,rfl,rfl,rfl,rfl,rfl,rfl,rfl⟩
 by_cases e7:k=[103,97,112]
 ·subst e7;exact⟨rfl,rfl,rfl,rfl,rfl,rfl,rfl,rfl,rfl,rfl,rfl,rfl,rfl,rfl,rfl⟩
 by_cases e8:k=[105,100,108,101]
 ·subst e8;exact⟨rfl,rfl,rfl,rfl,rfl,rfl,rfl,rfl,rfl,rfl,rfl,rfl,rfl,rfl,rfl⟩
 by_cases e9:k=[115,101,116,117,112]
 ·subst e9;exact⟨rfl,rfl,rfl,rfl,rfl,rfl,rfl,rfl,rfl,rfl,rfl,rfl,rfl,rfl,rfl⟩
 by_cases e10:k=[114,117,110,116]
 ·subst e10;exact⟨rfl,rfl,rfl,rfl,rfl,rfl,rfl,rfl,rfl,rfl,rfl,rfl,rfl,rfl,rfl⟩
 by_cases e11:k=[110,111,116]
 ·subst e11;exact⟨rfl,rfl,rfl,rfl,rfl,rfl,rfl,rfl,rfl,rfl,rfl,rfl,rfl,rfl,rfl⟩
 by_cases e12:k=[97,108,108]
 ·subst e12;exact⟨rfl,rfl,rfl,rfl,rfl,rfl,rfl,rfl,rfl,rfl,rfl,rfl,rfl,rfl,rfl⟩
 by_cases e13:k=[97,110,121]
 ·subst e13;exact⟨rfl,rfl,rfl,rfl,rfl,rfl,rfl,rfl,rfl,rfl,rfl,rfl,rfl,rfl,rfl⟩
 have f0:(k==[104,105,103,104])=false:=beq_eq_false_iff_ne.2 e0;have f1:(k==[108,111,119])=false:=beq_eq_false_iff_ne.2 e1;have f2:(k==[114,105,115,101])=false:=beq_eq_false_iff_ne.2 e2;have f3:(k==[102,97,108,108])=false:=beq_eq_false_iff_ne.2 e3;have f4:(k==[112,97,116,116,101,114,110])=false:=beq_eq_false_iff_ne.2 e4;have f5:(k==[101,110,116,101,114])=false:=beq_eq_false_iff_ne.2 e5;have f6:(k==[112,117,108,115,101])=false:=beq_eq_false_iff_ne.2 e6;have f7:(k==[103,97,112])=false:=beq_eq_false_iff_ne.2 e7;have f8:(k==[105,100,108,101])=false:=beq_eq_false_iff_ne.2 e8;have f9:(k==[115,101,116,117,112])=false:=beq_eq_false_iff_ne.2 e9;have f10:(k==[114,117,110,116])=false:=beq_eq_false_iff_ne.2 e10;have f11:(k==[110,111,116])=false:=beq_eq_false_iff_ne.2 e11;have f12:(k==[97,108,108])=false:=beq_eq_false_iff_ne.2 e12;have f13:(k==[97,110,121])=false:=beq_eq_false_iff_ne.2 e13;have hk:ZF k=.other:=by simp only[ZF,f0,f1,f2,f3,f4,f5,f6,f7,f8,f9,f10,f11,f12,f13,Xv]
 rw[hk];exact⟨hk,f0,f1,f2,f3,f4,f5,f6,f7,f8,f9,f10,f11,f12,f13⟩
def outside (n a b:Int):Bool:=decide (n<a)||decide (n>b)
def MA (s:XV)(lines:Int):Bool:=(s.length:Int) != lines||s.any fun c=>c != 48&&c != 49&&c != 120
mutual
def Mr (lines:Int):Z5->Int->Int
 |.mk kind a b mi ma pat nl kids,depth =>
  let u:=YQ (ZF kind)
  let len:Int:=kids.length
  br (decide (depth>4)) 5 <|
  br (!(ZF kind).known) 13 <|
  br (!u.a&&a != 0||!u.b&&b != 0||!u.mi&&mi != 0||!u.ma&&ma != 0||!u.pat&&!pat==[]||!u.kids&&decide (len>0)) 2 <|
  br (u.a&&outside a 0 (IntKind.i64.wrap (lines-1))||u.b&&outside b 0 (IntKind.i64.wrap (lines-1))) 3 <|
  br (u.b&&a==b) 9 <|
  br (u.mi&&outside mi 1 255||u.ma&&outside ma 1 255) 3 <|
  br (u.ma&&decide (mi>ma)) 11 <|
  br (u.pat&&MA pat lines) 1 <|
  br (kind==[110,111,116]&&len != 1) 2 <|
  br (u.kids&&len==0) 12 <|
  br (u.kids&&decide (len>8)) 5 <|
  Pz lines kids (IntKind.i64.wrap (depth+1))
def Pz (lines:Int):List Z5->Int->Int
 |[],_=>0
 |c::l,depth=>br (Mr lines c depth != 0) (Mr lines c depth) (Pz lines l depth)
end
def XY:List Int->Int
 |[]=>0
 |e::l=>br (e != 0) e (XY l)
def within (n a b:Int):Int:=br (decide (n<a)||decide (n>b)) 3 0
def LH (lines:Int)(pat:XV):Int:=br (MA pat lines) 1 0
mutual
def aE (lines:Int):Z5->Int->Int
 |.mk kind a b mi ma pat nl kids,depth =>
  let u:=YQ (ZF kind)
  let len:Int:=kids.length
  let e0:=XY [br (decide (depth>4)) 5 0,br (!(ZF kind).known) 13 0]
  let e1:=XY [br (!u.a&&a != 0||!u.b&&b != 0||!u.mi&&mi != 0||!u.ma&&ma != 0||!u.pat&&!pat==[]||!u.kids&&decide (len>0)) 2 0,
   br (u.a&&(decide (a<0)||decide (a>=lines))) 3 0,br (u.b&&(decide (b<0)||decide (b>=lines))) 3 0,br (u.b&&a==b) 9 0,
   br (u.mi&&within mi 1 255 != 0) 3 0,br (u.ma&&within ma 1 255 != 0) 3 0,br (u.ma&&decide (mi>ma)) 11 0]
  let e2:=br u.pat (XY [e1,LH lines pat]) e1
  let e3:=br (kind==[110,111,116]) (br (len != 1) 2 0) (XY [br (len==0) 12 0,br (decide (len>8)) 5 0])
  br (e0 != 0) e0 <| br (e2 != 0||!u.kids) e2 <| Ms lines kids (IntKind.i64.wrap (depth+1)) e3
def Ms (lines:Int):List Z5->Int->Int->Int
 |[],_,e=>e
 |c::l,depth,e=>Ms lines l depth (br (e==0) (aE lines c depth) e)
end
theorem F5 (lines depth:Int):∀(l:List Z5) (e:Int),e≠0->Ms lines l depth e=e
 |[],e,h=>by simp[Ms]
 |c::l,e,h=>by
  have:(e==0)=false:=by simp[h]
  rw[Ms,this,Xv,F5 lines depth l e h]
theorem qe:XY []=0:=rfl
theorem vA {p:Bool}{e x:Int}{l:List Int}(h:(e != 0)=true):XY (br p e x::l)=br p e (XY (x::l)):=by
 cases p
 ·rfl
 ·rw[Xo,Xo,XY,h,Xo]
theorem vz (l:List Int):XY (0::l)=XY l:=rfl
theorem dO (F:Int->Int)(hF:∀e,e≠0->F e=e){p:Bool}{e x:Int}(h:(e != 0)=true):F (br p e x)=br p e (F x):=by
 cases p
 ·rfl
 ·rw[Xo,Xo];exact hF _ (by simpa using h)
theorem dN {p:Bool}{e:Int}{x y:Int}(h:(e != 0)=true):br (br p e x != 0) (br p e x) y=br p e (br (x != 0) x y):=by
 cases p
 ·rfl
 ·rw[Xo,Xo,h,Xo]
theorem afj {β:Type}(p q:Bool)(x y:β):br (p||q) x y=br p x (br q x y):=by cases p <;> cases q <;> rfl
theorem SR {β:Type}{p:Bool}{x y y':β}(h:p=false->y=y'):br p x y=br p x y':=by
 cases p
 ·rw[h rfl]
 ·rfl
theorem ze (k:XV):(k==[110,111,116])=decide (ZF k=.QG):=by
 obtain⟨h0,h1,h2,h3,h4,h5,h6,h7,h8,h9,h10,h11,h12,h13,h14⟩:=UN k;exact h12
mutual
theorem aam (lines:Int)(hl:1<=lines)(CM:lines<=16):∀(c:Z5) (depth:Int),aE lines c depth=Mr lines c depth
 |.mk kind a b mi ma pat nl kids,depth=>by
  have ih:=kG lines hl CM kids (IntKind.i64.wrap (depth+1));have hw:IntKind.i64.wrap (lines-1)=lines-1:=wrap_i64 (by omega) (by omega);have ho:∀x:Int,outside x 0 (lines-1)=(decide (x<0)||decide (x>=lines)):=fun x=>by
   have:(x>lines-1)=(x>=lines):=by apply propext;omega
   simp only[outside,this]
  rw[aE,Mr];simp only[hw,ho,ze,<-ih];have hF:=F5 lines (IntKind.i64.wrap (depth+1)) kids;have hF0:decide ((kids.length:Int)>0)=false->0=Ms lines kids (IntKind.i64.wrap (depth+1)) 0:=fun h=>by
   have:kids=[]:=by
    cases kids with
    |nil=>rfl
    |cons c l=>simp at h
   rw[this,Ms]
  generalize Ms lines kids (IntKind.i64.wrap (depth+1))=F at hF hF0;generalize (decide (a<0)||decide (a>=lines))=oa;generalize (decide (b<0)||decide (b>=lines))=ob;have Bi:outside mi 1 255=(within mi 1 255 != 0):=by rw[within,outside];cases decide (mi<1)||decide (mi>255) <;> rfl
  have ny:outside ma 1 255=(within ma 1 255 != 0):=by rw[within,outside];cases decide (ma<1)||decide (ma>255) <;> rfl
  rw[Bi,ny];generalize hK:ZF kind=K
  cases K <;> simp (decide:=true) only[YQ,Kd.known,ama,amp,al9,amq,amf,Bool.or_false,Bool.true_or,Bool.or_true,Xv,Xo,vA,vz,alU,amg,qe,dN,dO F hF,bne_self_eq_false,afj,LH,decide_true,decide_false,reduceCtorEq]
  all_goals repeat' (refine SR fun _=>?_)
  all_goals first|rfl|(apply hF0;assumption)|skip
  rename_i hlen;have hlen:(kids.length:Int)=1:=by simpa using hlen
  rw[hlen];rfl
theorem kG (lines:Int)(hl:1<=lines)(CM:lines<=16):∀(l:List Z5) (depth:Int),Ms lines l depth 0=Pz lines l depth
 |[],_=>by simp[Ms,Pz]
 |c::l,depth=>by
  have ih:=kG lines hl CM l depth;rw[Ms,Pz,aam lines hl CM c depth];simp only[BEq.rfl,Xo]
  cases h:Mr lines c depth != 0
  ·have:Mr lines c depth=0:=by simpa using h
   rw[Xv,this,ih]
  ·rw[Xo,F5]
   simpa using h
end
end Go.Am
