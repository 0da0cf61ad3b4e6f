/- A part of the proof of a statement of this seat: the machine on which the program is read, and what it computes; for every input. -/
import Derived.Test.YtkmaeondbkpajaaGreatDoorN02
import Derived.Test.YtkmaeondbkpajaaGreatDoorN03
import Derived.Laws.BitsLemmas
set_option linter.all false
namespace Go.Am
open Go
abbrev Uw:=List UInt8
inductive Uo where
 |mk (kind:Uw) (a b mi ma:Int) (pat:Uw) (nl:Bool) (kids:List Uo)
def ZP (nl:Bool)(l:List AV):AV:=match nl,l with
 |true,[]=>.ZR
 |_,l=>.fz l
def Uo.kind:Uo->Uw|.mk k _ _ _ _ _ _ _=>k
def Uo.a:Uo->Int|.mk _ a _ _ _ _ _ _=>a
def Uo.b:Uo->Int|.mk _ _ b _ _ _ _ _=>b
def Uo.mi:Uo->Int|.mk _ _ _ m _ _ _ _=>m
def Uo.ma:Uo->Int|.mk _ _ _ _ m _ _ _=>m
def Uo.pat:Uo->Uw|.mk _ _ _ _ _ p _ _=>p
def Uo.nl:Uo->Bool|.mk _ _ _ _ _ _ n _=>n
def Uo.kids:Uo->List Uo|.mk _ _ _ _ _ _ _ l=>l
structure Step where
 cond:Uo
 times:Int
 within:Int
structure Prog where
 lines:Int
 nl:Bool
 steps:List Step
def ints (l:List Int):List AV:=l.map (.int .i64 ·)
def ZH (l:List Bool):List AV:=l.map .bool
structure ZN where
 lines:Int
 YC:Bool
 next:List (Bool×List Int)
 Yx:Bool
 Z4:List (Bool×List Bool)
def ZX (r:Bool×List Int):AV:=ZP r.1 (ints r.2)
def ZY (r:Bool×List Bool):AV:=ZP r.1 (ZH r.2)
def YP (a:ZN):AV:=.agg [.int .i64 a.lines,ZP a.YC (a.next.map ZX),ZP a.Yx (a.Z4.map ZY)]
theorem Sl (l:List AV):ZP false l=.fz l:=by cases l <;> rfl
theorem Ic (nl:Bool)(x:AV)(l:List AV):ZP nl (x::l)=.fz (x::l):=by cases nl <;> rfl
theorem Wk (nl:Bool)(l:List AV):still (ZP nl l)=true:=by
 cases nl <;> cases l <;> simp[ZP,still]
theorem ZT (nl:Bool)(l:List AV):Zw (ZP nl l)=true:=by
 cases nl <;> cases l <;> simp[ZP,Zw]
theorem ZS (nl:Bool)(l:List AV):(ZP nl l).cells=[ZP nl l]:=by
 cases nl <;> cases l <;> simp[ZP,AV.cells]
theorem ZL (nl:Bool)(l:List AV):U7 (ZP nl l)=some (.int .i64 l.length):=by
 cases nl <;> cases l <;> simp[ZP,U7]
theorem KD (X:Cx)(s:St)(d:Nat)(nl:Bool)(l:List AV):YG X s (d+1) (ZP nl l)=some (ZP nl l):=by
 cases nl <;> cases l <;> simp[ZP,YG]
theorem Ve (n:Nat)(nl:Bool)(l:List AV)(k:IntKind)(i:Int)(x:AV)(h0:0<=i)(hx:l[i.toNat]? = some x)(hc:x.cells.length=n)(hn:n≠0):UT n (ZP nl l) (.int k i)=some (.fp x.cells 0):=by
 have hl:l≠[]:=by intro h;rw[h] at hx;simp at hx
 have:ZP nl l=.fz l:=by cases l with
  |nil=>exact absurd rfl hl
  |cons y l=>exact Ic ..
 rw[this,uz];simp[h0,hx,ixF,hc,hn]
theorem wrap_i64 {n:Int}(h0 : -2^63<=n)(h1:n<2^63):IntKind.i64.wrap n=n:=by
 rw[IntKind.wrap_i64];omega
end Go.Am
namespace Go.Am
open Go Go.Proofs
variable [Z3]
set_option maxRecDepth 100000
instance bH:Stat:=⟨fun m c=>∃n,n<=m/\Lu U n c=true/\SK c=true,fun t=>Nat.beq t 150⟩
theorem bG (t:TypeId):U.Zt t=Tryz.prog.underlying t:=by unfold U;rfl
theorem bE (t:TypeId):U.inf t=Tryz.prog.info? t:=by unfold U;rfl
theorem FK (f:FuncId):U.ext f=vN f:=by unfold U;rfl
theorem vM (f:FuncId):U.pure f=!keeps.contains f:=by unfold U;rfl
theorem O9 (g:Nat):U.O_ g=nQ g:=by unfold U;rfl
theorem K5:U.glob=8:=by unfold U;rfl
theorem bD (f:FuncId):U.fn f=Tryz.prog.funcs[f]? := by unfold U;rfl
noncomputable def YQ (f:FuncId):Option (List ResultVar×RC):=match U.fn f with
 |some fn=>match fn.body with
  |some c=>some (fn.results.toList,rc U c)
  |none=>none
 |none=>none
theorem Nb {f:FuncId}{rs:List ResultVar}{r:RC}(h:YQ f=some (rs,r)):∃fn c,U.fn f=some fn/\fn.body=some c/\fn.results.toList=rs/\rc U c=r:=by
 unfold YQ at h
 split at h
 ·rename_i fn hf
  split at h
  ·rename_i c hb
   cases h
   exact⟨fn,c,hf,hb,rfl,rfl⟩
  ·cases h
 ·cases h
def Re (f:FuncId):Bool:=!keeps.contains f&&(vN f).isNone
def Da (f:FuncId):Bool:=keeps.contains f&&(vN f).isNone
theorem Ui {f:FuncId}(h:Re f=true):U.pure f=true/\U.ext f=none:=by
 rw[Re,aab,afK] at h;rw[vM,FK];exact h
theorem zr {f:FuncId}(h:Da f=true):U.pure f=false/\U.ext f=none:=by
 rw[Da,aab,afK] at h;rw[vM,FK,h.1];exact⟨rfl,h.2⟩
theorem Za {f:FuncId}{rs:List ResultVar}{r:RC}(h:YQ f=some (rs,r))(hp:Re f=true){args:List AV}(Xg:ZK args=true){v:AV}
  (hg:go U (VZ U rs) [] r (ZM 0 args .nil) (YH U)=some v):Zv U f args=some v:=by
 obtain⟨fn,c,h1,h2,h3,h4⟩:=Nb h;obtain⟨p1,p2⟩:=Ui hp;exact zq U p2 p1 h1 h2 h3 h4 Xg hg
theorem Y3 {f:FuncId}{rs:List ResultVar}{r:RC}(h:YQ f=some (rs,r))(hp:Da f=true){args:List AV}{s:St}{x:AV×St}
  (hg:go U (XZ U rs) [] r (ZM 0 args .nil) s=some x):WW U f args s=some x:=by
 obtain⟨fn,c,h1,h2,h3,h4⟩:=Nb h;obtain⟨p1,p2⟩:=zr hp;unfold WW Wa;rw[p2,p1];exact Km U h1 h2 h3 h4 hg
theorem Jv {f:FuncId}(hp:Re f=true){args:List AV}(s:St)(Xg:ZK args=false):YX U (Zv U f args) f args s=UC U f (Zg (YG U s 40) args) s :=
 wy U s (Ui hp).2 (Ui hp).1 Xg
def Mn (p:Bool)(x:Option (AV×St))(s:St):Option (AV×St):=bif p then x else some (undef,s)
theorem C' (x:Option (AV×St))(s:St):Mn true x s=x:=(fun h=>h) rfl
theorem Ff {f:FuncId}(hp:Re f=true){p:Bool}{args:List AV}(s:St)(Xg:ZK args=false):S1 U p (Zv U f args) f args s=Mn p (UC U f (Zg (YG U s 40) args) s) s:=by
 unfold S1 Mn;rw[Jv hp s Xg]
theorem Fu (s:St):∀(d:Nat) (v v':AV),YG U s d v=some v'->flat v'=true->v=v':=by
 intro d
 induction d with
 |zero=>intro v v' h;simp[YG] at h
 |succ d ih =>
  intro v v' h hf;have hl:∀(l l':List AV),Zg (YG U s d) l=some l'->Ox l'=true->l=l':=by
   intro l
   induction l with
   |nil=>intro l' h _;simp only[Zg] at h;cases h;rfl
   |cons x l rD =>
    intro l' h hf;simp only[Zg] at h
    split at h
    ·rename_i y r h1 h2
     cases h
     simp only[Ox,aab] at hf;rw[ih _ _ h1 hf.1,rD _ h2 hf.2]
    ·cases h
  cases v with
  |ptr b o =>
   rw[A9] at h;unfold qI at h
   split at h
   ·simp only[db,afL] at h;obtain⟨_,_,rfl⟩:=h;simp[flat] at hf
   ·cases h
  |sl b o len cap Xo =>
   rw[WQ] at h;unfold qJ Fm fQ at h
   split at h
   ·split at h
    ·split at h
     ·simp only[afL] at h;obtain⟨_,_,rfl⟩:=h;simp[flat] at hf
     ·cases h
    ·cases h
   ·cases h
  |map r =>
   simp only[YG] at h
   split at h
   ·split at h
    ·cases h;simp[flat] at hf
    ·cases h
   ·cases h
  |fn f x y =>
   simp only[YG] at h
   split at h
   ·split at h
    ·rename_i x' y' h1 h2
     cases h
     simp only[flat,aab] at hf;rw[hl _ _ h1 hf.1.2,hl _ _ h2 hf.2]
    ·cases h
   ·cases h
  |iface t x =>
   simp only[YG] at h
   split at h
   ·rename_i x' h1
    cases h
    simp only[flat] at hf;rw[ih _ _ h1 hf]
   ·cases h
  |agg cs =>
   simp only[YG] at h
   split at h
   ·rename_i x' h1
    cases h
    simp only[flat] at hf;rw[hl _ _ h1 hf]
   ·cases h
  |X' cs =>
   simp only[YG] at h
   split at h
   ·rename_i x' h1
    cases h
    simp only[flat] at hf;rw[hl _ _ h1 hf]
   ·cases h
  |_=>simp only[YG] at h;cases h;rfl
theorem acB {f:FuncId}{rs:List ResultVar}{r:RC}(h:YQ f=some (rs,r)){us:List AV}{v:AV}(hf:flat v=true)
  (hg:go U (VZ U rs) [] r (ZM 0 us .nil) (YH U)=some v):YV U (Y0 U) f us false=some v:=by
 obtain⟨fn,c,h1,h2,h3,h4⟩:=Nb h;have hg:GX U (XZ U rs (den U r (ZM 0 us .nil) (YH U)))=some v:=hg
 cases hd:XZ U rs (den U r (ZM 0 us .nil) (YH U)) with
 |none=>rw[hd] at hg;simp[GX] at hg
 |some x =>
  obtain⟨v0,s'⟩:=x;rw[hd] at hg;have hB:=Km U h1 h2 h3 h4 (args:=us) (s:=YH U) (x:=(v0,s')) hd;simp only[GX] at hg;have:=Fu s' _ _ _ hg hf;subst this;unfold YV;rw[hB];simp[hf]
theorem Wn {f:FuncId}(hp:Re f=true){args:List AV}(Xg:ZK args=true){v:AV}(h:YV U (Y0 U) f args true=some v):Zv U f args=some v:=by
 refine A1 fun s=>?_
 obtain⟨p1,p2⟩:=Ui hp;unfold WW Wa;rw[p2];simp only[p1,if_true,Rm,Yb,Xg,h]
theorem bC:U.Zt 3=some (.int .i64):=by kernel_rfl
theorem qt:U.Zt 236=some (.int .u64):=by kernel_rfl
theorem De:YZ U 3=some false:=by kernel_rfl
theorem Dd:size U 3=some 1:=by kernel_rfl
theorem vR:YZ U 4=some false:=by kernel_rfl
theorem vQ:size U 4=some 1:=by kernel_rfl
theorem bB:size U 5=some 1:=by kernel_rfl
theorem bA:YZ U 26=some false:=by kernel_rfl
theorem bz:size U 26=some 1:=by kernel_rfl
theorem AZ:YZ U 48=some false:=by kernel_rfl
theorem AY:size U 48=some 1:=by kernel_rfl
theorem AX:YZ U 72=some false:=by kernel_rfl
theorem AW:size U 72=some 1:=by kernel_rfl
theorem nS:YZ U 42=some true:=by kernel_rfl
theorem nR:size U 42=some 3:=by kernel_rfl
theorem xA:YZ U 55=some true:=by kernel_rfl
theorem xy:size U 55=some 2:=by kernel_rfl
attribute [go_sem ↓] C'
attribute [go_sem] Int.reduceBEq Int.reduceBNe Int.reduceAdd K5 bC qt De Dd vR vQ bB bA bz AZ AY AX AW nS nR xA xy
abbrev o (d:Nat)(r:Sk):RO:=⟨some d,none,none,false,r⟩
abbrev oS (r:Sk):RO:=⟨none,none,none,false,r⟩
abbrev om (d t:Nat):RO:=⟨some d,none,none,false,.Z1 (.t t)⟩
abbrev oF (d g:Nat)(r:Sk):RO:=⟨some d,some (g,false),none,false,r⟩
abbrev oT (d g:Nat)(r:Sk):RO:=⟨some d,some (g,true),none,false,r⟩
abbrev vI (n:Int):XU:=.v (.int .i64 n)
abbrev vF:XU:=.v (.bool false)
abbrev vT:XU:=.v (.bool true)
abbrev oP (l:List RO):RC:=.ops l
abbrev sQ (a b:RC):RC:=.seq a b
abbrev sO (l:List RO)(b:RC):RC:=.seq (.ops l) b
abbrev cO (n:Nat)(a b:RC):RC:=.cond (.t n) a b
abbrev cS (n:Nat)(b:RC):RC:=.cond (.t n) .skip b
abbrev cT (n:Nat)(a:RC):RC:=.cond (.t n) a .skip
abbrev Ze (x0 x1):=o x0 (.Zk (.t x1))
abbrev YS (x0 x1 x2 x3):=o x0 (.XV x1 (.t x2) (.t x3))
abbrev YR (x0 x1 x2):=o x0 (.fa x1 (.t x2))
abbrev Xr (x0 x1 x2):=o x0 (.UL x1 (.t x2))
abbrev WZ (x0 x1):=o x0 (.Z1 (vI x1))
abbrev Wj (x0 x1):=o x0 (.Zf (.t x1))
abbrev VY (x0 x1 x2):=oT x0 x1 (.Z1 (.t x2))
abbrev Vw (x0 x1 x2 x3):=o x0 (.bin .add x1 true (.t x2) (vI x3))
abbrev U1 (x0 x1 x2):=o x0 (.ext (.t x1) x2)
abbrev UY (x0 x1):=o x0 (.raw (.nilCheck (.tmp x1)))
abbrev VF (x0 x1 x2 x3):=o x0 (.bin .lss x1 false (.t x2) (.t x3))
abbrev Vz (x0 x1 x2 x3):=o x0 (.bin .sub x1 true (.t x2) (vI x3))
abbrev U5 (x0 x1 x2):=oS (.st x0 (.t x1) (.t x2))
abbrev Vf (x0 x1 x2):=o x0 (.call x1 [(.t x2)])
abbrev UE (x0):=o x0 (.Z1 vF)
abbrev UD (x0 x1 x2 x3):=o x0 (.bin .add x1 false (.t x2) (.t x3))
abbrev TW (x0 x1 x2):=o x0 (.box x1 (.t x2))
abbrev TV (x0 x1 x2):=o x0 (.pick (.t x1) (.t x2) vF)
abbrev Tk (x0 x1 x2):=oF x0 x1 (.Zk (.t x2))
abbrev Tj (x0 x1 x2):=o x0 (.pick (.t x1) vT (.t x2))
abbrev RZ (x0 x1 x2 x3):=oT x0 x1 (.UL x2 (.t x3))
abbrev RY (x0 x1 x2 x3 x4):=oT x0 x1 (.XV x2 (.t x3) (.t x4))
abbrev RL (x0 x1 x2 x3):=o x0 (.call x1 [(.t x2),(.t x3)])
abbrev Ra (x0):=o x0 (.Z1 (.v .ZR))
abbrev P5 (x0 x1 x2 x3):=oF x0 x1 (.fa x2 (.t x3))
abbrev P0 (x0 x1 x2):=oT x0 x1 (.Zk (.t x2))
abbrev PZ (x0 x1 x2):=oF x0 x1 (.Zf (.t x2))
abbrev Pg (x0 x1 x2 x3 x4 x5):=o x0 (.app x1 x2 x3 (.t x4) (.t x5))
abbrev Oi (x0 x1 x2 x3):=o x0 (.call x1 [(.t x2),(vI x3)])
abbrev Oc (x0 x1 x2 x3):=o x0 (.bin .gtr x1 true (.t x2) (vI x3))
abbrev Ob (x0 x1 x2):=o x0 (.al [(iI x1),.ZR,.ZR] x2)
abbrev Oa (x0 x1 x2 x3):=o x0 (.bin .neq x1 true (.t x2) (vI x3))
abbrev Mm (x0 x1 x2 x3):=o x0 (.bin .sub x1 false (.t x2) (.t x3))
abbrev Ml (x0 x1 x2 x3):=o x0 (.bin .neq x1 false (.t x2) (.t x3))
abbrev Mj (x0 x1):=o x0 (.un .not (.t x1))
abbrev Mi (x0 x1 x2 x3 x4):=o x0 (.xV x1 x2 (.t x3) (vI x4))
abbrev Mh (x0 x1 x2):=oF x0 x1 (.Z1 (.t x2))
abbrev Mg (x0 x1 x2 x3):=o x0 (.bin .eql x1 true (.t x2) (vI x3))
abbrev K' (x0 x1 x2 x3):=o x0 (.bin .lss x1 true (.t x2) (vI x3))
abbrev Kl (x0 x1 x2 x3 x4 x5 x6 x7):=o x0 (.VC x1 x2 x3 [(iI x4)] [(x5,x6,(.t x7))])
abbrev Is (x0 x1 x2 x3):=o x0 (.bin .geq x1 true (.t x2) (vI x3))
abbrev I5 (x0 x1 x2 x3):=oF x0 x1 (.UL x2 (.t x3))
abbrev Iq (x0 x1 x2 x3 x4):=oT x0 x1 (.call x2 [(.t x3),(.t x4)])
abbrev Ip (x0):=o x0 (.Z1 vT)
abbrev Io (x0 x1 x2 x3 x4 x5 x6):=o x0 (.call x1 [(.t x2),(.t x3),(.t x4),(.t x5),(.t x6)])
abbrev Fc (x0 x1 x2 x3 x4 x5):=o x0 (.call x1 [(.t x2),(.t x3),(.t x4),(.t x5)])
abbrev Fb (x0 x1 x2 x3 x4):=oT x0 x1 (.bin .lss x2 true (.t x3) (vI x4))
abbrev E' (x0 x1 x2 x3):=o x0 (.al [(iI x1),(iI x2)] x3)
abbrev E_ (x0 x1 x2 x3 x4 x5):=oF x0 x1 (.xV x2 x3 (.t x4) (vI x5))
abbrev E9 (x0 x1 x2 x3):=o x0 (.bin .quo x1 true (.t x2) (vI x3))
abbrev BW (x0 x1 x2 x3 x4):=oT x0 x1 (.bin .eql x2 true (.t x3) (vI x4))
abbrev Bq (x0 x1 x2 x3):=o x0 (.bin .gtr x1 false (.t x2) (.t x3))
abbrev AU (x0 x1 x2 x3 x4):=oF x0 x1 (.bin .geq x2 false (.t x3) (.t x4))
abbrev AT (x0 x1 x2 x3):=o x0 (.bin .shl x1 true (vI x2) (.t x3))
abbrev vL (x0 x1):=o x0 (.raw (.makeMap x1 none))
abbrev xk (x0 x1 x2 x3 x4 x5 x6 x7 x8):=o x0 (.VC x1 x2 x3 [(iI x4),(iI x5)] [(x6,x7,(.t x8))])
abbrev ae_ (x0 x1 x2 x3 x4):=oT x0 x1 (.bin .sub x2 true (.t x3) (vI x4))
abbrev ae' (x0 x1 x2 x3):=o x0 (.bin .leq x1 false (.t x2) (.t x3))
abbrev af0 (x0 x1 x2 x3):=o x0 (.bin .mul x1 true (.t x2) (vI x3))
abbrev af1 (x0 x1 x2 x3 x4):=oF x0 x1 (.bin .neq x2 true (.t x3) (vI x4))
abbrev af3 (x0 x1 x2 x3 x4):=oF x0 x1 (.bin .neq x2 false (.t x3) (.t x4))
abbrev af4 (x0 x1 x2 x3):=o x0 (.raw (.lookup x1 (.tmp x2) (.tmp x3) false))
abbrev af2 (x0 x1 x2 x3):=o x0 (.bin .eql x1 false (.t x2) (.t x3))
abbrev af5 (x0 x1 x2 x3):=o x0 (.bin .geq x1 false (.t x2) (.t x3))
abbrev af6 (x0 x1 x2):=oS (.raw (.mapUpdate x0 (.tmp x1) (.tmp x2) (.const (.bool true))))
end Go.Am
namespace Go.Am
open Go
structure Pb where
 lo:Nat
 hi:Nat
 e:Env
 op:Sk
 v:AV
def pb1 (v:AV)(x:Option (AV×St)):Bool:=match x with
 |some (u,_)=>same u v
 |none=>false
section
variable (X:Cx)
def G3 (e:Env)(c:Call)(s:St):Option (List AV):=match Mu X e c with
 |some vs=>Yb X s vs
 |none=>none
def pbQ (us:AV)(x:Option (List AV)):Bool:=match x with
 |some us'=>same (.X' us') us
 |none=>false
def S8 (e:Env)(s:St)(op:Sk)(v:AV):AV:=match op with
 |.raw (.call c)=>match G3 X e c s with
  |some us=>.X' us
  |none=>v
 |_=>v
noncomputable def mD (base:Nat)(e:Env)(op:Sk)(v:AV)(s:St):Bool:=match op with
 |.raw (.call c)=>pbQ v (G3 X e c s)
 |op=>pb1 v (Xu X base none e s op)
noncomputable def oy (base:Nat)(e:Env)(op:Sk)(v:AV):List St->Bool
 |[]=>true
 |s::l=>mD X base e op v s&&oy base e op v l
noncomputable def RT (base:Nat)(H:List St):List Pb->Bool
 |[]=>true
 |p::P=>oy X base p.e p.op p.v ((H.take (p.hi+1)).drop p.lo)&&RT base H P
abbrev vP:=RO×Option (Nat×Nat)
def U0 (base:Nat)(s:St)(l:List vP):Bool:=XM base s (l.map Prod.fst)
def ox (c:Option (Nat×Nat))(e:Env)(s:St)(op:Sk)(v:AV)(P:List Pb):List Pb:=match c with
 |some (lo,hi)=>⟨lo,hi,e,op,S8 X e s op v⟩::P
 |none=>P
noncomputable def QM (base:Nat):List vP->Env->St->List St->List Pb->Option (Env×St)
 |[],e,s,H,P=>bif RT X base H P then some (e,s) else none
 |(o,c)::l,e,s,H,P=>match (bif TR e o.g then Xu X base o.at_ e s o.op else some (undef,s)) with
  |some (v,s')=>bif !o.w||U0 base s' l then QM base l (Y8 e o.d v) s' (bif o.w then H++[s'] else H) (ox X c e s' o.op v P) else none
  |none=>none
def HZ (ops:Array Oper)(i:Nat):Bool :=
 (Ww X 0 ops.toList).all (fun k=>!decide (k<i)||Yu ops k i)&&(ZF X ops 0 ops.toList).all (fun k=>Yu ops k i||Yu ops i k)
def opC (ops:Array Oper)(i:Nat):Option (Nat×Nat):=match ops[i]? with
 |some o=>if ((cls X o.op).qH||(match cls X o.op with|.q=>true|_=>false))&&!HZ X ops i then
   some (Y9 (fun j=>Yu ops j i) (ZF X ops 0 ops.toList),Y9 (fun j=>!Yu ops i j) (ZF X ops 0 ops.toList)) else none
 |none=>none
def s_ (ops:Array Oper):List (Option (Nat×Nat)):=(List.range ops.size).map (opC X ops)
def GC (op:Sk):Bool:=match op with
 |.raw (.call _)=>true
 |_=>false
def s9 (ops:Array Oper):Bool :=
 !Qr X ops&&(List.range ops.size).all fun i=>match ops[i]? with
  |some o=>!((cls X o.op).qH||(match cls X o.op with|.q=>true|_=>false))||HZ X ops i ||
   ((((cls X o.op).qH&&!GC (NN X o.op))||(match o.op with|.call c=>xN X c|_=>false))&&(o.guard.isNone&&(Ww X 0 ops.toList).all fun k=>!Yu ops k i))
  |none=>true
def Pf:Code->Option (Nat×List vP)
 |.region _ ops d=>if d&&s9 X ops&&nu X ops then match WB X ops true 0 ops.toList with
   |some l=>some (ops.size,l.zip (s_ X ops))
   |none=>none
   else none
 |_=>none
end
section
variable [Stat]
variable {X:Cx}{ops:Array Oper}{base:Nat}
theorem Sb {b:Bool}:∀(l:List Oper) (i:Nat) (r:List RO),WB X ops b i l=some r->r.length=l.length
 |[],i,r,h=>by simp only[WB] at h;cases h;rfl
 |o::l,i,r,h=>by
  simp only[WB] at h
  split at h
  ·rename_i g r' h1 h2
   cases h
   simp[Sb l (i+1) r' h2]
  ·cases h
theorem Aq {r:Env×St}:∀(l:List vP) (e:Env) (s:St) (H:List St) (P:List Pb),QM X base l e s H P=some r->SD X base (l.map Prod.fst) e s=some r
 |[],e,s,H,P,h=>by
  simp only[QM] at h
  cases hb:RT X base H P with
  |true=>rw[hb] at h;exact h
  |false=>rw[hb] at h;cases h
 |(o,c)::l,e,s,H,P,h=>by
  simp only[QM] at h;simp only[afm,SD]
  split at h
  ·rename_i v s' hv;rw[hv];simp only
   cases hb:(!o.w||U0 base s' l) with
   |false=>rw[hb] at h;cases h
   |true =>
    rw[hb] at h;rw[if_pos (by exact hb)];exact Aq l _ _ _ _ h
  ·cases h
theorem gU {i:Nat}{o:Oper}{g:Option (Nat×Bool)}{e:Env}{s s1:St}{v:AV}(h1:fu ops o.guard=some g)
  (hr:(bif TR e g then Xu X base (if true&&(cls X o.op).G8 then some i else none) e s (NN X o.op) else some (undef,s))=some (v,s1)) :
  UG X (Y0 X) ops base i o e s=some (Y8 e o.dst v,s1):=by
 have NM:=JR h1 e
 cases hw:TR e g with
 |false =>
  rw[hw] at hr NM;simp only[cond_false] at hr
  cases hr
  simp only[UG,<-NM,ae1,if_false]
 |true =>
  rw[hw] at hr NM;simp only[cond_true,afU] at hr;simp only[UG,<-NM,if_true];by_cases ha:(cls X o.op).G8=true
  ·rw[if_pos ha] at hr;obtain⟨s2,e1,e2⟩:=tq (Yl.1 ha) hr;rw[Yl.1 ha];simp only[e1,e2]
  ·rw[if_neg ha] at hr;have:=QO hr
   cases hk:cls X o.op <;> rw[hk] at ha <;> first|exact absurd rfl ha|simp only[this]
theorem Gz {i m:Nat}{tr:List (Env×St)}{s:St}:∀(l:List Nat),(∀k∈l,Yu ops k i=false)->VI ops base i m tr l s=s
 |[],_=>rfl
 |j::l,h=>by
  unfold VI;rw[if_neg (by simp[h j (aeZ ..)])];exact Gz l fun k hk=>h k (abc _ hk)
theorem ML {H:List St}:∀(P:List Pb),RT X base H P=true->∀p∈P,oy X base p.e p.op p.v ((H.take (p.hi+1)).drop p.lo)=true
 |[],_,p,hp=>by simp at hp
 |q::P,h,p,hp=>by
  simp only[RT,aab] at h;rcases afa.1 hp with rfl|hp
  ·exact h.1
  ·exact ML P h.2 p hp
theorem Gy {e:Env}{op:Sk}{v:AV}:∀(l:List St),oy X base e op v l=true->∀s∈l,mD X base e op v s=true
 |[],_,s,hs=>by simp at hs
 |x::l,h,s,hs=>by
  simp only[oy,aab] at h;rcases afa.1 hs with rfl|hs
  ·exact h.1
  ·exact Gy l h.2 s hs
theorem gT {c:Call}(h:xN X c=true):cls X (.call c)=.q:=by
 obtain⟨callee,args,Qf⟩:=c
 cases callee with
 |builtin b=>cases h
 |invoke _ _=>cases h
 |value f =>
  cases f with
  |tmp t =>
   have h:X.qv { callee:=.value (.tmp t),args:=args,argTypes:=Qf }=true:=h;simp only[cls,h,if_true]
  |func g=>cases h
  |const v=>cases h
  |global g=>cases h
theorem ow {c:Call}(h:xN X c=true):NN X (.call c)=.raw (.call c):=by
 obtain⟨callee,args,Qf⟩:=c
 cases callee with
 |builtin b=>cases h
 |invoke _ _=>cases h
 |value f =>
  cases f with
  |tmp t =>
   have h:X.qv { callee:=.value (.tmp t),args:=args,argTypes:=Qf }=true:=h;simp only[NN,Au,h,if_true]
  |func g=>cases h
  |const v=>cases h
  |global g=>cases h
theorem ya {e:Env}{s:St}{op:Sk}{v:AV}(h:∀c,op≠.raw (.call c)):S8 X e s op v=v:=by
 unfold S8
 split
 ·rename_i c;exact absurd rfl (h c)
 ·rfl
theorem gS {e:Env}{s:St}{op:Sk}{v:AV}(h:∀c,op≠.raw (.call c)):mD X base e op v s=pb1 v (Xu X base none e s op):=by
 unfold mD
 split
 ·rename_i c;exact absurd rfl (h c)
 ·rfl
theorem Cc {op:Sk}(h:GC op=false):∀c,op≠.raw (.call c):=by
 rintro c rfl
 cases h
theorem s8 (ou:Qr X ops=false):∀(l:List Oper) (i:Nat) (l':List vP) (e:Env) (s:St) (H:List St) (P:List Pb) (r:Env×St) (tr:List (Env×St)),
  WB X ops true i l=some (l'.map Prod.fst)->QM X base l' e s H P=some r->DV X (Y0 X) ops base i l e s=some tr ->
  ∃P',RT X base (H++(ZF X ops i l).map (fun j=>Yo tr (j+1-i))) P'=true/\(∀p∈P,p∈P') /\
   ∀(k:Nat) o q lo hi,l[k]? = some o->l'[k]? = some (q,some (lo,hi))->o.guard=none->(cls X o.op).G8=false ->
    ∃v,Zb X (Y0 X) (UU tr k) o.op (Yo tr k)=some (v,Yo tr (k+1))/\(⟨lo,hi,UU tr k,NN X o.op,S8 X (UU tr k) (Yo tr (k+1)) (NN X o.op) v⟩:Pb)∈P'
 |[],i,l',e,s,H,P,r,tr,h1,h2,h3=>by
  have oZ:l'=[]:=by
   simp only[WB] at h1
   cases l' with
   |nil=>rfl
   |cons x y=>simp at h1
  subst oZ;simp only[QM] at h2;refine⟨P,?_,fun p hp=>hp,fun k o q lo hi hk=>by simp at hk⟩;simp only[ZF,List.map_nil,List.append_nil]
  cases hb:RT X base H P with
  |true=>rfl
  |false=>rw[hb] at h2;cases h2
 |o::l,i,l',e,s,H,P,r,tr,h1,h2,h3=>by
  simp only[WB] at h1
  split at h1
  ·rename_i g r' e1 e2
   cases l' with
   |nil=>simp at h1
   |cons x l2 =>
    obtain⟨ro,c⟩:=x;simp only[afm,Option.some.injEq,List.cons.injEq] at h1;obtain⟨rfl,rfl⟩:=h1;simp only[QM] at h2
    split at h2
    ·rename_i v s1 hv;have Xg:=gU e1 hv;simp only[DV,Xg] at h3
     split at h3
     ·rename_i mC g1
      cases h3
      cases hb:(!(true&&(cls X o.op).zA)||U0 base s1 l2) with
      |false=>rw[hb] at h2;cases h2
      |true =>
       rw[hb] at h2;simp only[cond_true] at h2;obtain⟨P',q1,q2,q3⟩:=s8 ou l (i+1) l2 _ s1 _ _ r mC e2 h2 g1;obtain⟨k1,k2,_⟩:=SW _ _ _ _ _ g1;have vE:∀n,Yo ((e,s)::mC) (n+1)=Yo mC n:=fun n=>by simp[Yo]
       have hte:∀n,UU ((e,s)::mC) (n+1)=UU mC n:=fun n=>by simp[UU]
       have Ur:Yo mC 0=s1:=by simp[Yo,k2]
       have aa2:(ZF X ops (i+1) l).map (fun j=>Yo ((e,s)::mC) (j+1-i))=(ZF X ops (i+1) l).map (fun j=>Yo mC (j+1-(i+1))):=by
        refine afx fun j hj=>?_
        obtain⟨k,_,_,hjk,_⟩:=(SV l (i+1) j).1 hj;rw[show j+1-i=(j+1-(i+1))+1 by omega,vE]
       refine⟨P',?_,fun p hp=>q2 p (by unfold ox;split <;> simp[hp]),fun k o' q lo hi FA zw hg hc=>?_⟩
       ·have Zm:late X ops i=false:=by simp[late,ou]
        simp only[ZF,Zm,Bool.not_false,Bool.and_true]
        cases hw:(cls X o.op).zA with
        |true =>
         rw[hw] at q1;simp only[if_true,afm];rw[aa2,show i+1-i=0+1 by omega,vE,Ur]
         simpa using q1
        |false =>
         rw[hw] at q1;simp only[ae1,if_false];rw[aa2]
         simpa using q1
       ·cases k with
        |zero =>
         simp at FA zw;obtain⟨_,rfl⟩:=zw;subst FA;have hgn:g=none:=by rw[hg] at e1;simp[fu] at e1;exact e1.symm
         subst hgn;simp only[TR,cond_true,hc,Bool.and_false,ae1,if_false] at hv;have:=QO hv;refine⟨v,?_,?_⟩
         ·rw[vE,Ur];exact this
         ·rw[vE,Ur];exact q2 _ (by simp[ox,UU])
        |succ k =>
         obtain⟨v',w1,w2⟩:=q3 k o' q lo hi (by simpa using FA) (by simpa using zw) hg hc;refine⟨v',?_,?_⟩
         ·rw[hte,vE,vE];exact w1
         ·rw[hte,vE];exact w2
     ·cases h3
    ·cases h2
  ·cases h1
theorem s7 {l:List RO}{e:Env}{s:St}{r:Env×St}(Eo:WB X ops true 0 ops.toList=some l)(sZ:s9 X ops=true)(gR:nu X ops=true)(hn:XM s.next s l=true)
  (hrC:QM X s.next (l.zip (s_ X ops)) e { s with next:=s.next+ops.size } [{ s with next:=s.next+ops.size }] []=some r):RF X (Y0 X) ops e s=some r:=by
 have Yv:=DH gR;have hlen:l.length=ops.size:=by rw[Sb _ _ _ Eo];simp
 have BS:(l.zip (s_ X ops)).map Prod.fst=l:=by rw[List.map_fst_zip];rw[hlen];simp[s_]
 have hr:SD X s.next l e { s with next:=s.next+ops.size }=some r:=by
  have:=Aq _ _ _ _ _ hrC;rw[BS] at this;exact this
 unfold s9 at sZ;simp only[aab,afw,ae9,afh] at sZ;obtain⟨ou,X9⟩:=sZ;obtain⟨tr,g1,g2,g3⟩:=JQ _ _ _ _ _ Eo hr;obtain⟨P',hP1,_,hP2⟩:=s8 ou ops.toList 0 (l.zip (s_ X ops)) e _ _ [] r tr (by rw[BS];exact Eo) hrC g1;obtain⟨k1,k2,k3⟩:=SW _ _ _ _ _ g1;have k1:tr.length=ops.size+1:=by simpa using k1
 have ht:Jt X (Y0 X) ops s.next (UU tr) (Yo tr):=⟨fun i o ho=>by
  have:=k3 i o (by simpa using ho)
  simpa using this⟩
 have KY:Yo tr 0={ s with next:=s.next+ops.size }:=by simp[Yo,k2]
 have KZ:∀i,late X ops i=false:=fun i=>by simp[late,ou]
 have PQ:∀j,j∈ZF X ops 0 ops.toList<->∃o,ops[j]? = some o/\cls X o.op=.w:=by
  intro j;rw[SV]
  constructor
  ·rintro⟨k,o,h1,rfl,h3⟩;simp only[aab] at h3;exact⟨o,by simpa using h1,Tz.1 h3.1⟩
  ·rintro⟨o,h1,h3⟩;exact⟨j,o,by simpa using h1,by omega,by simp[Tz.2 h3,KZ]⟩
 have gQ:∀j,kA X ops j->j∈Ww X 0 ops.toList:=by
  have:∀(l:List Oper) (i k:Nat) o,l[k]? = some o->cls X o.op=.a->i+k∈Ww X i l:=by
   intro l
   induction l with
   |nil=>intro i k o h;simp at h
   |cons x l ih =>
    intro i k o h hc;unfold Ww
    cases k with
    |zero=>simp at h;subst h;rw[if_pos (Yl.2 hc)];exact aeZ ..
    |succ k =>
     have:=ih (i+1) k o (by simpa using h) hc;rw[show i+(k+1)=i+1+k by omega]
     split
     ·exact abc _ this
     ·exact this
  rintro j ⟨o,ho,hc⟩;have:=this ops.toList 0 j o (by simpa using ho) hc
  simpa using this
 have gO:=Pu (tr:=tr) (ZF X ops 0 ops.toList) fun j hj=>by
  obtain⟨o,ho,_⟩:=(PQ j).1 hj;have:=(adm.1 ho).1;omega
 unfold RF;rw[g1];simp only[gO];have JL:∀m,m=0\/(∃j,m=j+1/\j∈ZF X ops 0 ops.toList)->∀i,m<=i->kA X ops i->(Yo tr m).get (s.next+i)=none:=by
  rintro m (rfl|⟨j,rfl,hj⟩) i hi ⟨o,ho,hc⟩
  ·rw[KY];have:=QN _ _ _ Eo hn i o (by simpa using ho) (Yl.2 hc);rw[ad4] at this;exact this
  ·obtain⟨oj,hoj,hcj⟩:=(PQ j).1 hj;have:=g3 j oj (by simpa using hoj) (Tz.2 hcj) i (by omega) o (by simpa using ho) (Yl.2 hc)
   simpa using this
 have eG:∀m s1,(m,s1)∈(0,({ s with next:=s.next+ops.size }:St))::((ZF X ops 0 ops.toList).map fun j=>(j+1,Yo tr (j+1)))->(m=0\/∃j,m=j+1/\j∈ZF X ops 0 ops.toList)/\s1=Yo tr m:=by
  intro m s1 hm;rcases afa.1 hm with e|hm
  ·cases e;exact⟨.inl rfl,KY.symm⟩
  ·obtain⟨j,hj,e⟩:=afe.1 hm
   cases e
   exact⟨.inr ⟨j,rfl,hj⟩,rfl⟩
 have hnA:Us X ops s.next ((0,({ s with next:=s.next+ops.size }:St))::((ZF X ops 0 ops.toList).map fun j=>(j+1,Yo tr (j+1))))=true:=Ps _ fun m s1 hm i hi hk=>by
  obtain⟨h1,rfl⟩:=eG m s1 hm;exact JL m h1 i hi hk
 have Ns:Vt X (Y0 X) ops s.next (ZF X ops 0 ops.toList) (Ww X 0 ops.toList) ((0,({ s with next:=s.next+ops.size }:St))::((ZF X ops 0 ops.toList).map fun j=>(j+1,Yo tr (j+1)))) tr 0 ops.toList tr=true:=by
  refine MJ _ _ _ fun i o es ho eH hw=>?_
  have Xk:ops[i]? = some o:=by simpa using ho
  have hi:i<ops.size:=(adm.1 Xk).1;have kj:es=(UU tr i,Yo tr i):=by simp[UU,Yo,eH]
  subst kj;simp only at hw;rw[ad4];have D3:cls X o.op≠.a->∃v,Zb X (Y0 X) (UU tr i) o.op (Yo tr i)=some (v,Yo tr (i+1)):=fun ZQ=>by
   rcases WN (ht.step i o Xk) with⟨h1,_⟩|⟨_,v,_,⟨hc,_⟩|⟨_,h3⟩⟩
   ·rw[hw] at h1;cases h1
   ·exact absurd (Yl.1 hc) ZQ
   ·exact⟨v,h3⟩
  have Ct:(cls X o.op=.r\/cls X o.op=.q)->HZ X ops i=true->∃m,WM ops (ZF X ops 0 ops.toList) ((0,({ s with next:=s.next+ops.size }:St))::((ZF X ops 0 ops.toList).map fun j=>(j+1,Yo tr (j+1)))) i=[(m,Yo tr m)] /\
    VI ops s.next i m tr (Ww X 0 ops.toList) (Yo tr m)=Yo tr i:=by
   intro hk sY;unfold HZ at sY;rw[aab] at sY;obtain⟨ha,hwb⟩:=sY;rw[ae9] at ha hwb;have DZ:∀k,k<i->kA X ops k->Yu ops k i=true:=fun k NZ DT=>by
    have:=ha k (gQ k DT)
    simpa[NZ] using this
   have LO:∀k∈ZF X ops 0 ops.toList,(Yu ops k i=true<->k<i)/\(Yu ops i k=true<->i<k):=by
    intro k Cb;have:=hwb k Cb;simp only[afY] at this;rcases this with h1|h1
    ·have:=Yv.Ud i k h1;refine⟨⟨fun _=>this,fun _=>h1⟩,⟨fun h2=>?_,fun h2=>by omega⟩⟩;have:=Yv.Ud k i h2;omega
    ·have:=Yv.Ud k i h1;refine⟨⟨fun h2=>?_,fun h2=>by omega⟩,⟨fun _=>this,fun _=>h1⟩⟩;have:=Yv.Ud i k h2;omega
   have ZQ:∀k∈ZF X ops 0 ops.toList,k≠i:=fun k Cb e=>by
    obtain⟨o2,MA,P9⟩:=(PQ k).1 Cb;rw[e,Xk] at MA;cases MA;rcases hk with hk|hk <;> rw[hk] at P9 <;> cases P9
   have gN:Y9 (fun j=>!Yu ops i j) (ZF X ops 0 ops.toList)=Y9 (fun j=>Yu ops j i) (ZF X ops 0 ops.toList):=by
    refine Nat.le_antisymm (WO _ fun x hx h=>?_) (WO _ fun x hx h=>?_)
    ·have h1:Yu ops i x=false:=by simpa using h
     refine ((LO x hx).1).2 (Nat.lt_of_not_le fun hle=>?_);have:=((LO x hx).2).2 (by have:=ZQ x hx;omega);rw[h1] at this;cases this
    ·have h1:=((LO x hx).1).1 h;simp only[afw]
     cases hb:Yu ops i x with
     |false=>rfl
     |true=>have:=((LO x hx).2).1 hb;omega
   unfold WM;rw[gN];generalize hq:Y9 (fun j=>Yu ops j i) (ZF X ops 0 ops.toList)=q;have UJ:=afS.1 (Vb (X:=X) (ops:=ops) ops.toList 0);have hql:q<=(ZF X ops 0 ops.toList).length:=by
    rw[<-hq];generalize ZF X ops 0 ops.toList=L
    induction L with
    |nil=>exact aba _
    |cons x L ih=>simp only[Y9,afc];split <;> omega
   have Pq:∀n (hn:n<(ZF X ops 0 ops.toList).length),(n<q<->(ZF X ops 0 ops.toList)[n]<i):=by
    obtain⟨p,Je,Pn,Bh⟩:∃p,p<=(ZF X ops 0 ops.toList).length/\(∀n (hn:n<(ZF X ops 0 ops.toList).length),n<p->(ZF X ops 0 ops.toList)[n]<i)/\(∀n (hn:n<(ZF X ops 0 ops.toList).length),p<=n->¬(ZF X ops 0 ops.toList)[n]<i):=by
     rcases Lr (fun n=>∃hn:n<(ZF X ops 0 ops.toList).length,(ZF X ops 0 ops.toList)[n]<i) (ZF X ops 0 ops.toList).length with h|⟨n0,h1,⟨h2,h3⟩,h4⟩
     ·exact⟨0,ae5 _,fun n _ hn=>by omega,fun n hn _ Zm=>h n hn ⟨hn,Zm⟩⟩
     ·refine⟨n0+1,h1,fun n hn Zm=>?_,fun n hn hle Zm=>h4 n (by omega) hn ⟨hn,Zm⟩⟩;by_cases e:n=n0
      ·subst e;exact h3
      ·have:=UJ n n0 hn h2 (by omega);omega
    have lQ:p=q:=by
     rw[<-hq];refine (WG _ p Je (fun x hx=>?_) (fun x hx=>?_)).symm
     ·obtain⟨n,hn,rfl⟩:=ae8.1 hx;rw[List.getElem_take];have yq:n<p/\n<(ZF X ops 0 ops.toList).length:=by rw[afH] at hn;omega
      exact ((LO _ (ae2 yq.2)).1).2 (Pn n yq.2 yq.1)
     ·obtain⟨n,hn,rfl⟩:=ae8.1 hx;rw[List.getElem_drop];rw[afQ] at hn;have:=Bh (p+n) (by omega) (by omega)
      cases hb:Yu ops (ZF X ops 0 ops.toList)[p+n] i with
      |false=>rfl
      |true=>exact absurd (((LO _ (ae2 (by omega))).1).1 hb) this
    subst lQ;exact fun n hn=>⟨Pn n hn,fun Zm=>Nat.lt_of_not_le fun hle=>Bh n hn hle Zm⟩
   have fin:∀m,(m=0\/∃j,m=j+1/\j∈ZF X ops 0 ops.toList)->m<=i->(∀k∈ZF X ops 0 ops.toList,k<i->k<m) ->
     VI ops s.next i m tr (Ww X 0 ops.toList) (Yo tr m)=Yo tr i:=fun m hm eA hwm =>
    HY ht k1 Yv hi eA (fun k ok h1 h2 gL hc=>by
     have:=hwm k ((PQ k).2 ⟨ok,gL,hc⟩) h2;omega) DZ (fun k h1 h2=>JL m hm k h1 h2)
   cases q with
   |zero =>
    refine⟨0,by simp[KY],fin 0 (.inl rfl) (ae5 _) fun k Cb NZ=>?_⟩;obtain⟨n,hn,rfl⟩:=ae8.1 Cb;have:=(Pq n hn).2 NZ;omega
   |succ q =>
    have gK:q<(ZF X ops 0 ops.toList).length:=by omega
    have hqi:=(Pq q gK).1 (by omega);refine⟨(ZF X ops 0 ops.toList)[q]+1,?_,fin _ (.inr ⟨_,rfl,ae2 _⟩) (by omega) fun k Cb NZ=>?_⟩
    ·rw[List.drop_take];rw[show q+1+1-(q+1)=1 by omega,List.drop_succ_cons,aeY (by simpa using gK)];simp
    ·obtain⟨n,hn,rfl⟩:=ae8.1 Cb;have eC:=(Pq n hn).2 NZ;by_cases e:n=q
     ·subst e;omega
     ·have:=UJ n q hn gK (by omega);omega
  have L9:=X9 i hi;rw[Xk] at L9;simp only at L9;refine⟨fun hk=>?_,fun hk=>?_⟩
  ·cases sn:HZ X ops i with
   |true =>
    obtain⟨v,hv⟩:=D3 (by rw[hk];simp);obtain⟨m,sa,oX⟩:=Ct (.inl hk) sn;refine⟨v,_,hv,?_⟩;rw[sa];simp only[X6,oX,hv,Sy,Bool.and_self]
   |false =>
    rw[hk,sn] at L9;simp only[Gn.qH,Bool.true_or,Bool.not_true,afV,afU,aab,afK,ae9,afw] at L9;obtain⟨Ca,hgn,TL⟩:=L9;have Ca:GC (NN X o.op)=false:=by
     simp only[afY,afw] at Ca;rcases Ca with h|h
     ·exact h
     ·exfalso
      cases hoo:o.op <;> rw[hoo] at h <;> first|cases h|skip
      rename_i c;rw[hoo] at hk;rw[gT h] at hk
      cases hk
    have Mx:(l.zip (s_ X ops))[i]? = some ((l[i]'(by omega)),some (Y9 (fun j=>Yu ops j i) (ZF X ops 0 ops.toList),Y9 (fun j=>!Yu ops i j) (ZF X ops 0 ops.toList))):=by
     rw[List.getElem?_zip_eq_some];refine⟨by simp[aaa (show i<l.length by omega)],?_⟩;simp only[s_,afs,List.getElem?_range hi,afF,opC,Xk,hk,sn,Gn.qH];rfl
    obtain⟨v,hv,VU⟩:=hP2 i o _ _ _ (by simpa using Xk) Mx hgn (by rw[hk];rfl);refine⟨v,_,hv,?_⟩;have OI:=ML _ hP1 _ VU;simp only at OI;have xH:=Cc Ca;rw[ya xH] at OI;have B_:∀x∈WM ops (ZF X ops 0 ops.toList) ((0,({ s with next:=s.next+ops.size }:St))::((ZF X ops 0 ops.toList).map fun j=>(j+1,Yo tr (j+1)))) i,pb1 v (Xu X s.next none (UU tr i) x.2 (NN X o.op))=true:=by
     intro x hx;rw[<-gS xH];refine Gy _ OI x.2 ?_;have:(([{ s with next:=s.next+ops.size }]:List St)++(ZF X ops 0 ops.toList).map (fun j=>Yo tr (j+1-0)))=((0,({ s with next:=s.next+ops.size }:St))::((ZF X ops 0 ops.toList).map fun j=>(j+1,Yo tr (j+1)))).map Prod.snd:=by
      simp[Function.comp_def]
     rw[this,<-List.map_take,<-List.map_drop];exact List.mem_map_of_mem hx
    generalize WM ops (ZF X ops 0 ops.toList) ((0,({ s with next:=s.next+ops.size }:St))::((ZF X ops 0 ops.toList).map fun j=>(j+1,Yo tr (j+1)))) i=L at B_
    induction L with
    |nil=>rfl
    |cons x L ih =>
     obtain⟨m,s1⟩:=x;have h0:=B_ (m,s1) (aeZ ..);simp only[X6];rw[Gz _ TL];unfold pb1 at h0
     split at h0
     ·rename_i u s2 hu;simp only at hu;simp only[QO hu,h0,afU];exact ih fun x hx=>B_ x (abc _ hx)
     ·cases h0
  ·cases sn:HZ X ops i with
   |true =>
    obtain⟨v,hv⟩:=D3 (by rw[hk];simp);obtain⟨m,sa,oX⟩:=Ct (.inr hk) sn;obtain⟨_,c,vs,us,e1,e2,e3,_⟩:=K0 hk hv;refine⟨c,vs,us,e1,e2,e3,?_⟩;rw[sa];simp only[VH,oX,e3,X4,Bool.and_self]
   |false =>
    rw[hk,sn] at L9;simp only[Gn.qH,Bool.or_true,Bool.not_true,afV,Bool.false_and,aab,afK,ae9,afw] at L9;obtain⟨hqv,hgn,TL⟩:=L9;obtain⟨c,hoc,hqc⟩:∃c,o.op=.call c/\xN X c=true:=by
     cases hoo:o.op <;> rw[hoo] at hqv <;> first|exact⟨_,rfl,hqv⟩|cases hqv
    have Mx:(l.zip (s_ X ops))[i]? = some ((l[i]'(by omega)),some (Y9 (fun j=>Yu ops j i) (ZF X ops 0 ops.toList),Y9 (fun j=>!Yu ops i j) (ZF X ops 0 ops.toList))):=by
     rw[List.getElem?_zip_eq_some];refine⟨by simp[aaa (show i<l.length by omega)],?_⟩;simp only[s_,afs,List.getElem?_range hi,afF,opC,Xk,hk,sn,Gn.qH];rfl
    obtain⟨v,hv,VU⟩:=hP2 i o _ _ _ (by simpa using Xk) Mx hgn (by rw[hk];rfl);obtain⟨aeb,c',vs,us,e1,e2,e3,_⟩:=K0 hk hv;have fF:c'=c:=by rw[hoc] at e1;cases e1;rfl
    subst fF;refine⟨c',vs,us,e1,e2,e3,?_⟩;have OI:=ML _ hP1 _ VU;simp only at OI;have rU:NN X o.op=.raw (.call c'):=by rw[hoc];exact ow hqc
    have fH:G3 X (UU tr i) c' (Yo tr i)=some us:=by simp only[G3,e2,e3]
    rw[rU,aeb] at OI;simp only[S8,fH] at OI;have B_:∀x∈WM ops (ZF X ops 0 ops.toList) ((0,({ s with next:=s.next+ops.size }:St))::((ZF X ops 0 ops.toList).map fun j=>(j+1,Yo tr (j+1)))) i,pbQ (.X' us) (G3 X (UU tr i) c' x.2)=true:=by
     intro x hx;refine Gy _ OI x.2 ?_;have:(([{ s with next:=s.next+ops.size }]:List St)++(ZF X ops 0 ops.toList).map (fun j=>Yo tr (j+1-0)))=((0,({ s with next:=s.next+ops.size }:St))::((ZF X ops 0 ops.toList).map fun j=>(j+1,Yo tr (j+1)))).map Prod.snd:=by
      simp[Function.comp_def]
     rw[this,<-List.map_take,<-List.map_drop];exact List.mem_map_of_mem hx
    generalize WM ops (ZF X ops 0 ops.toList) ((0,({ s with next:=s.next+ops.size }:St))::((ZF X ops 0 ops.toList).map fun j=>(j+1,Yo tr (j+1)))) i=L at B_
    induction L with
    |nil=>rfl
    |cons x L ih =>
     obtain⟨m,s1⟩:=x;have h0:=B_ (m,s1) (aeZ ..);simp only[VH];rw[Gz _ TL];simp only[G3,e2,pbQ] at h0
     split at h0
     ·rename_i us' hu;simp only[same] at h0;simp only[hu,h0,afU];exact ih fun x hx=>B_ x (abc _ hx)
     ·cases h0
 rw[QL ou];simp only[Rc,Ns,hnA,Bool.and_self,if_true];exact g2
end
section
variable (X:Cx){β:Type}(back:β)(fin:Fl->β)(ks:List K)
noncomputable def vO (base:Nat)(l:List vP)(e:Env)(s:St)(H:List St)(P:List Pb):β:=match QM X base l e s H P with
 |some (e,s)=>goN X fin ks e s
 |none=>back
noncomputable def B9 (base:Nat)(x:Option (AV×St))(d:Option Nat)(w:Bool)(c:Option (Nat×Nat))(op:Sk)(l:List vP)(e:Env)(H:List St)(P:List Pb):β:=match x with
 |some (v,s)=>bif !w||U0 base s l then vO X back fin ks base l (Y8 e d v) s (bif w then H++[s] else H) (ox X c e s op v P) else back
 |none=>back
noncomputable def A4 (c:Code)(e:Env)(s:St):β:=pop X fin ks (Y0 X c e s)
variable (base:Nat)(e:Env)(s:St)(H:List St)(P:List Pb)(l:List vP)
theorem ot:vO X back fin ks base [] e s H P=bif RT X base H P then goN X fin ks e s else back:=by
 simp only[vO,QM]
 cases RT X base H P <;> rfl
theorem sX (d:Option Nat)(a:Option Nat)(w:Bool)(op:Sk)(c:Option (Nat×Nat)) :
  vO X back fin ks base ((⟨d,none,a,w,op⟩,c)::l) e s H P=B9 X back fin ks base (Xu X base a e s op) d w c op l e H P:=by
 simp only[vO,QM,B9,TR,cond_true]
 cases Xu X base a e s op with
 |none=>rfl
 |some x =>
  simp only
  cases (!w||U0 base x.2 l) <;> rfl
theorem B8 (v:AV)(d:Option Nat)(op:Sk):B9 X back fin ks base (some (v,s)) d false none op l e H P=vO X back fin ks base l (Y8 e d v) s H P:=(fun h=>h) rfl
theorem Eg (v:AV)(d:Option Nat)(lo hi:Nat)(op:Sk):B9 X back fin ks base (some (v,s)) d false (some (lo,hi)) op l e H P=vO X back fin ks base l (Y8 e d v) s H (⟨lo,hi,e,op,S8 X e s op v⟩::P):=(fun h=>h) rfl
theorem B7 (v:AV)(d:Option Nat)(op:Sk):B9 X back fin ks base (some (v,s)) d true none op l e H P=bif U0 base s l then vO X back fin ks base l (Y8 e d v) s (H++[s]) P else back:=(fun h=>h) rfl
theorem x9:U0 base s []=true:=(fun h=>h) rfl
theorem Ef (d:Option Nat)(g:Option (Nat×Bool))(w:Bool)(op:Sk)(c:Option (Nat×Nat)):U0 base s ((⟨d,g,none,w,op⟩,c)::l)=U0 base s l:=by
 simp[U0,XM]
theorem Ee (i:Nat)(d:Option Nat)(g:Option (Nat×Bool))(w:Bool)(op:Sk)(c:Option (Nat×Nat)):U0 base s ((⟨d,g,some i,w,op⟩,c)::l)=((s.get (base+i)).isNone&&U0 base s l):=by
 simp[U0,XM]
theorem xZ:RT X base H []=true:=(fun h=>h) rfl
theorem B6 (lo hi:Nat)(op:Sk)(v:AV):RT X base H (⟨lo,hi,e,op,v⟩::P)=(oy X base e op v ((H.take (hi+1)).drop lo)&&RT X base H P):=(fun h=>h) rfl
theorem oq (op:Sk)(v:AV):oy X base e op v []=true:=(fun h=>h) rfl
theorem sW (op:Sk)(v:AV)(L:List St):oy X base e op v (s::L)=(mD X base e op v s&&oy X base e op v L):=(fun h=>h) rfl
def pbO (v:AV)(x:Option AV):Bool:=match x with
 |some u=>same u v
 |none=>false
theorem Ed (v:AV)(x:Option AV):pb1 v (ZA x s)=pbO v x:=by cases x <;> rfl
theorem sV (u v:AV):pbO v (some u)=same u v:=(fun h=>h) rfl
theorem gJ (v:AV)(x:XU):mD X base e (.Zk x) v s=pbO v (Zk (Yg e x) s):=Ed s v _
theorem oh (v:AV)(x:XU):mD X base e (.Zf x) v s=pbO v (U7 (Yg e x)):=Ed s v _
theorem og (v:AV)(x:XU):S8 X e s (.Zk x) v=v:=(fun h=>h) rfl
theorem sU (v:AV)(x:XU):S8 X e s (.Zf x) v=v:=(fun h=>h) rfl
def prQ (v:AV)(x:Option (List AV)):AV:=match x with
 |some us=>.X' us
 |none=>v
theorem sT (v:AV)(c:Call):S8 X e s (.raw (.call c)) v=prQ v (G3 X e c s):=by
 unfold S8 prQ;rfl
theorem sS (v:AV)(us:List AV):prQ v (some us)=.X' us:=(fun h=>h) rfl
theorem oe (v:AV)(c:Call):mD X base e (.raw (.call c)) v s=pbQ v (G3 X e c s):=(fun h=>h) rfl
theorem sR (v:AV)(us:List AV):pbQ v (some us)=same (.X' us) v:=(fun h=>h) rfl
theorem sP {α:Type}(x:α)(l m:List α):(x::l)++m=x::(l++m):=(fun h=>h) rfl
theorem od {α:Type}(m:List α):([]:List α)++m=m:=(fun h=>h) rfl
theorem ka [Stat] {c:Code}{n:Nat}{l:List vP}(h:Pf X c=some (n,l))(fin:Fl->β)(ks:List K)(e:Env)(s:St):go X fin ks (.raw c) e s =
  bif U0 s.next s l then vO X (A4 X fin ks c e s) fin ks s.next l e { s with next:=s.next+n } [{ s with next:=s.next+n }] [] else A4 X fin ks c e s:=by
 unfold Pf at h
 split at h
 ·rename_i id ops d
  split at h
  ·rename_i hc;simp only[aab] at hc
   split at h
   ·rename_i l0 hl
    cases h
    have hz:U0 s.next s (l0.zip (s_ X ops))=XM s.next s l0:=by
     unfold U0;rw[List.map_fst_zip];rw[Sb _ _ _ hl];simp[s_]
    rw[hz]
    cases hn:XM s.next s l0 with
    |false=>rfl
    |true =>
     simp only[cond_true,vO]
     split
     ·rename_i e1 s1 h1;have:=s7 hl hc.1.2 hc.2 hn h1;simp only[go,den,goN];rw[WY];simp only[Yc,hc.1.1,if_true,this]
     ·rfl
   ·cases h
  ·cases h
 ·cases h
end
@[congr] theorem gI {X:Cx} {β:Type} {back:β} {fin:Fl->β} {ks:List K} {base:Nat} {x x':Option (AV×St)} {d:Option Nat} {w:Bool} {c:Option (Nat×Nat)} {op:Sk} {l:List vP} {e:Env} {H:List St} {P:List Pb} (h:x=x'):B9 X back fin ks base x d w c op l e H P=B9 X back fin ks base x' d w c op l e H P:=by rw[h]
attribute [go_sem ↓] ot sX B8 Eg B7 x9 Ef Ee xZ B6 oq sW gJ oh oe og sU sT sP od List.take_succ_cons List.take_zero List.drop_succ_cons afJ
attribute [go_sem] sV Sy sS sR
end Go.Am
namespace Go.Am
open Go
variable [Z3]
set_option maxRecDepth 100000
set_option maxHeartbeats 8000000
def Cg:RC->List Code
 |.seq a b=>Cg a++Cg b
 |.cond _ a b=>Cg a++Cg b
 |.block _ b=>Cg b
 |.loop b=>Cg b
 |.raw c=>[c]
 |_=>[]
noncomputable def I4 (f k:Nat):Code:=match U.fn f with
 |some fn=>match fn.body with
  |some c=>((Cg (rc U c))[k]?).getD .skip
  |none=>.skip
 |none=>.skip
def GY:RC:=(sQ (sO [om 11 5,om 12 0,Wj 13 12,VF 14 3 11 13] (cS 14 (.exit 0))) (sQ (.block 1 (sQ (.Wq 9 [om 17 0,om 18 5,YS 19 1 17 18,Ze 20 19,om 21 1,om 22 5,YS 23 1 21 22,Ze 24 23,Ml 25 3 20 24]) (cT 25 (sO [UE 4] .ret)))) (oP [om 15 5,Vw 16 3 15 1,om 5 16])))
def j_:RC:=(sO [UE 4] (sQ (sO [om 6 0,Wj 7 6,om 8 1,Wj 9 8,Ml 10 3 7 9] (cT 10 (sO [UE 4] .ret))) (sQ (sO [WZ 5 0] (.block 0 (.loop GY))) (sO [Ip 4] .ret))))
theorem acv:YQ 92=some ([.tmp 4],j_):=by kernel_rfl
def bK:RC:=(sO [UE 4] (sO [om 5 0,om 6 1,RL 7 173 5 6,Is 8 3 7 0,om 4 8] .ret))
theorem acz:YQ 134=some ([.tmp 4],bK):=by kernel_rfl
def Ls:RC:=(sO [VF 9 3 8 7] (sQ (cS 9 (.exit 0)) (sQ (.block 1 (sO [om 10 8,om 5 10] (sO [om 11 1,om 12 0,om 13 5,YS 14 1 12 13,Ze 15 14,o 16 (.VW (.t 11) [(.t 15)])] (cT 16 (sO [om 17 5,om 4 17] .ret))))) (oP [Vw 18 3 8 1,om 8 18]))))
def bM:RC:=(sO [WZ 4 0] (sQ (sO [om 6 0,Wj 7 6,WZ 8 0] (.block 0 (.loop Ls))) (sO [o 4 (.Z1 (vI (-1)))] .ret)))
theorem acy:YQ 173=some ([.tmp 4],bM):=by kernel_rfl
end Go.Am
