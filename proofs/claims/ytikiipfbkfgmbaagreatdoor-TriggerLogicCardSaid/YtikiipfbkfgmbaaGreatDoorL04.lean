/- A part of the proof of a statement of this seat: the machine on which the program is read, and what it computes; for every input. -/
import Derived.Test.YtikiipfbkfgmbaaGreatDoorL02
import Derived.Test.YtikiipfbkfgmbaaGreatDoorL03
import Derived.Test.YtikiipfbkfgmbaaGreatDoorL00
import Derived.Laws.BitsLemmas
set_option linter.all false
namespace Go.Am
open Go
abbrev Str:=List UInt8
inductive Cond where
 |mk (kind:Str) (a b mi ma:Int) (pat:Str) (nl:Bool) (kids:List Cond)
def encS (nl:Bool)(l:List AV):AV:=match nl,l with
 |true,[]=>.nils
 |_,l=>.fz l
mutual
def encC:Cond→AV
 |.mk k a b mi ma p nl kids=>.agg [.str k,.int .i64 a,.int .i64 b,.int .i64 mi,.int .i64 ma,.str p,encS nl (encL kids)]
def encL:List Cond→List AV
 |[]=>[]
 |c::l=>encC c::encL l
end
def Cond.kind:Cond→Str|.mk k _ _ _ _ _ _ _=>k
def Cond.a:Cond→Int|.mk _ a _ _ _ _ _ _=>a
def Cond.b:Cond→Int|.mk _ _ b _ _ _ _ _=>b
def Cond.mi:Cond→Int|.mk _ _ _ m _ _ _ _=>m
def Cond.ma:Cond→Int|.mk _ _ _ _ m _ _ _=>m
def Cond.pat:Cond→Str|.mk _ _ _ _ _ p _ _=>p
def Cond.nl:Cond→Bool|.mk _ _ _ _ _ _ n _=>n
def Cond.kids:Cond→List Cond|.mk _ _ _ _ _ _ _ l=>l
def Cond.cells (c:Cond):List AV:=[.str c.kind,.int .i64 c.a,.int .i64 c.b,.int .i64 c.mi,.int .i64 c.ma,.str c.pat,encS c.nl (encL c.kids)]
structure Step where
 cond:Cond
 times:Int
 within:Int
def Step.cells (s:Step):List AV:=s.cond.cells++[.int .i64 s.times,.int .i64 s.within]
structure Prog where
 lines:Int
 nl:Bool
 steps:List Step
def ints (l:List Int):List AV:=l.map (.int .i64 ·)
def bools (l:List Bool):List AV:=l.map .bool
structure Auto where
 lines:Int
 nNl:Bool
 next:List (Bool×List Int)
 fNl:Bool
 fires:List (Bool×List Bool)
def encRow (r:Bool×List Int):AV:=encS r.1 (ints r.2)
def encFRow (r:Bool×List Bool):AV:=encS r.1 (bools r.2)
def encA (a:Auto):AV:=.agg [.int .i64 a.lines,encS a.nNl (a.next.map encRow),encS a.fNl (a.fires.map encFRow)]
theorem encS_fz (l:List AV):encS false l=.fz l:=by cases l <;> rfl
theorem encS_cons (nl:Bool)(x:AV)(l:List AV):encS nl (x::l)=.fz (x::l):=by cases nl <;> rfl
theorem still_encS (nl:Bool)(l:List AV):still (encS nl l)=true:=by
 cases nl <;> cases l <;> simp[encS,still]
theorem noAgg_encS (nl:Bool)(l:List AV):noAgg (encS nl l)=true:=by
 cases nl <;> cases l <;> simp[encS,noAgg]
theorem cells_encS (nl:Bool)(l:List AV):(encS nl l).cells=[encS nl l]:=by
 cases nl <;> cases l <;> simp[encS,AV.cells]
theorem lenL_encS (nl:Bool)(l:List AV):lenRL (encS nl l)=some (.int .i64 l.length):=by
 cases nl <;> cases l <;> simp[encS,lenRL]
theorem frz_encS (X:Cx)(s:St)(d:Nat)(nl:Bool)(l:List AV):frz X s (d+1) (encS nl l)=some (encS nl l):=by
 cases nl <;> cases l <;> simp[encS,frz]
theorem ixa_encS (n:Nat)(nl:Bool)(l:List AV)(k:IntKind)(i:Int)(x:AV)(h0:0≤i)(hx:l[i.toNat]? = some x)(hc:x.cells.length=n)(hn:n≠0):ixRA n (encS nl l) (.int k i)=some (.fp x.cells 0):=by
 have hl:l≠[]:=by intro h;rw[h] at hx;simp at hx
 have:encS nl l=.fz l:=by cases l with
  |nil=>exact absurd rfl hl
  |cons y l=>exact encS_cons ..
 rw[this,ixa_fz]
 simp[h0,hx,ixF,hc,hn]
theorem wrap_i64 {n:Int}(h0 : -2^63≤n)(h1:n<2^63):IntKind.i64.wrap n=n:=by
 rw[IntKind.wrap_i64]
 omega
end Go.Am
namespace Go.Am
open Go Go.Proofs
variable [MaxLen]
set_option maxRecDepth 100000
instance seatStat:Stat:=⟨fun m c=>∃n,n≤m∧okC U n c=true∧noRF c=true,fun t=>Nat.beq t 207⟩
theorem U_und (t:TypeId):U.und t=Tryz.prog.underlying t:=by unfold U;rfl
theorem U_inf (t:TypeId):U.inf t=Tryz.prog.info? t:=by unfold U;rfl
theorem U_ext (f:FuncId):U.ext f=extU f:=by unfold U;rfl
theorem U_pure (f:FuncId):U.pure f=!keeps.contains f:=by unfold U;rfl
theorem U_gbase (g:Nat):U.gbase g=gbU g:=by unfold U;rfl
theorem U_glob:U.glob=8:=by unfold U;rfl
theorem U_fn (f:FuncId):U.fn f=bif Nat.beq f 75 then none else Tryz.prog.funcs[f]? := by unfold U;rfl
noncomputable def fnRC (f:FuncId):Option (List ResultVar×RC):=match U.fn f with
 |some fn=>match fn.body with
  |some c=>some (fn.results.toList,rc U c)
  |none=>none
 |none=>none
theorem fnRC_some {f:FuncId}{rs:List ResultVar}{r:RC}(h:fnRC f=some (rs,r)):∃fn c,U.fn f=some fn∧fn.body=some c∧fn.results.toList=rs∧rc U c=r:=by
 unfold fnRC at h
 split at h
 ·rename_i fn hf
  split at h
  ·rename_i c hb
   cases h
   exact⟨fn,c,hf,hb,rfl,rfl⟩
  ·cases h
 ·cases h
def isPure (f:FuncId):Bool:=!keeps.contains f&&(extU f).isNone
def isKept (f:FuncId):Bool:=keeps.contains f&&(extU f).isNone
theorem isPure_of {f:FuncId}(h:isPure f=true):U.pure f=true∧U.ext f=none:=by
 rw[isPure,Bool.and_eq_true,Option.isNone_iff_eq_none] at h
 rw[U_pure,U_ext];exact h
theorem isKept_of {f:FuncId}(h:isKept f=true):U.pure f=false∧U.ext f=none:=by
 rw[isKept,Bool.and_eq_true,Option.isNone_iff_eq_none] at h
 rw[U_pure,U_ext,h.1];exact⟨rfl,h.2⟩
theorem pure_go {f:FuncId}{rs:List ResultVar}{r:RC}(h:fnRC f=some (rs,r))(hp:isPure f=true){args:List AV}(hst:stills args=true){v:AV}
  (hg:go U (finP U rs) [] r (bindArgs 0 args .nil) (ownSt U)=some v):calV U f args=some v:=by
 obtain⟨fn,c,h1,h2,h3,h4⟩:=fnRC_some h
 obtain⟨p1,p2⟩:=isPure_of hp
 exact calV_pure U p2 p1 h1 h2 h3 h4 hst hg
theorem kept_go {f:FuncId}{rs:List ResultVar}{r:RC}(h:fnRC f=some (rs,r))(hp:isKept f=true){args:List AV}{s:St}{x:AV×St}
  (hg:go U (finB U rs) [] r (bindArgs 0 args .nil) s=some x):cal U f args s=some x:=by
 obtain⟨fn,c,h1,h2,h3,h4⟩:=fnRC_some h
 obtain⟨p1,p2⟩:=isKept_of hp
 unfold cal callF
 rw[p2,p1]
 exact callB_go U h1 h2 h3 h4 hg
theorem z_of {f:FuncId}(hp:isPure f=true){args:List AV}(s:St)(hst:stills args=false):callK U (calV U f args) f args s=calZ U f (mapO (frz U s 40) args) s :=
 cal_calZ U s (isPure_of hp).2 (isPure_of hp).1 hst
def gateZ (p:Bool)(x:Option (AV×St))(s:St):Option (AV×St):=bif p then x else some (undef,s)
theorem gateZ_some (p:Bool)(v:AV)(s:St):gateZ p (some (v,s)) s=some (bif p then v else undef,s):=by cases p <;> rfl
theorem gateZ_true (x:Option (AV×St))(s:St):gateZ true x s=x:=(fun h=>h) rfl
theorem gateZ_false (x:Option (AV×St))(s:St):gateZ false x s=some (undef,s):=(fun h=>h) rfl
theorem zg_of {f:FuncId}(hp:isPure f=true){p:Bool}{args:List AV}(s:St)(hst:stills args=false):gateC U p (calV U f args) f args s=gateZ p (calZ U f (mapO (frz U s 40) args) s) s:=by
 unfold gateC gateZ
 rw[z_of hp s hst]
theorem flat_frz (s:St):∀(d:Nat) (v v':AV),frz U s d v=some v'→flat v'=true→v=v':=by
 intro d
 induction d with
 |zero=>intro v v' h;simp[frz] at h
 |succ d ih =>
  intro v v' h hf
  have hl:∀(l l':List AV),mapO (frz U s d) l=some l'→flats l'=true→l=l':=by
   intro l
   induction l with
   |nil=>intro l' h _;simp only[mapO] at h;cases h;rfl
   |cons x l ihl =>
    intro l' h hf
    simp only[mapO] at h
    split at h
    ·rename_i y r h1 h2
     cases h
     simp only[flats,Bool.and_eq_true] at hf
     rw[ih _ _ h1 hf.1,ihl _ h2 hf.2]
    ·cases h
  cases v with
  |ptr b o =>
   rw[frz_ptr] at h
   unfold frzP at h
   split at h
   ·simp only[fpK,Option.map_eq_some_iff] at h
    obtain⟨_,_,rfl⟩:=h
    simp[flat] at hf
   ·cases h
  |sl b o len cap esz =>
   rw[frz_sl] at h
   unfold frzS frzT fzK at h
   split at h
   ·split at h
    ·split at h
     ·simp only[Option.map_eq_some_iff] at h
      obtain⟨_,_,rfl⟩:=h
      simp[flat] at hf
     ·cases h
    ·cases h
   ·cases h
  |map r =>
   simp only[frz] at h
   split at h
   ·split at h
    ·cases h;simp[flat] at hf
    ·cases h
   ·cases h
  |fn f x y =>
   simp only[frz] at h
   split at h
   ·split at h
    ·rename_i x' y' h1 h2
     cases h
     simp only[flat,Bool.and_eq_true] at hf
     rw[hl _ _ h1 hf.1.2,hl _ _ h2 hf.2]
    ·cases h
   ·cases h
  |iface t x =>
   simp only[frz] at h
   split at h
   ·rename_i x' h1
    cases h
    simp only[flat] at hf
    rw[ih _ _ h1 hf]
   ·cases h
  |agg cs =>
   simp only[frz] at h
   split at h
   ·rename_i x' h1
    cases h
    simp only[flat] at hf
    rw[hl _ _ h1 hf]
   ·cases h
  |tup cs =>
   simp only[frz] at h
   split at h
   ·rename_i x' h1
    cases h
    simp only[flat] at hf
    rw[hl _ _ h1 hf]
   ·cases h
  |_=>simp only[frz] at h;cases h;rfl
theorem q_of {f:FuncId}{rs:List ResultVar}{r:RC}(h:fnRC f=some (rs,r)){us:List AV}{v:AV}(hf:flat v=true)
  (hg:go U (finP U rs) [] r (bindArgs 0 us .nil) (ownSt U)=some v):callQ U (execL U) f us false=some v:=by
 obtain⟨fn,c,h1,h2,h3,h4⟩:=fnRC_some h
 have hg:frzB U (finB U rs (den U r (bindArgs 0 us .nil) (ownSt U)))=some v:=hg
 cases hd:finB U rs (den U r (bindArgs 0 us .nil) (ownSt U)) with
 |none=>rw[hd] at hg;simp[frzB] at hg
 |some x =>
  obtain⟨v0,s'⟩:=x
  rw[hd] at hg
  have hB:=callB_go U h1 h2 h3 h4 (args:=us) (s:=ownSt U) (x:=(v0,s')) hd
  simp only[frzB] at hg
  have:=flat_frz s' _ _ _ hg hf
  subst this
  unfold callQ
  rw[hB]
  simp[hf]
theorem v_of_q {f:FuncId}(hp:isPure f=true){args:List AV}(hst:stills args=true){v:AV}(h:callQ U (execL U) f args true=some v):calV U f args=some v:=by
 refine calV_of fun s=>?_
 obtain⟨p1,p2⟩:=isPure_of hp
 unfold cal callF
 rw[p2]
 simp only[p1,if_true,callP,frzArgs,hst,h]
theorem und_2:U.und 2=some (.int .i64):=by kernel_rfl
theorem und_3:U.und 3=some (.int .i64):=by kernel_rfl
theorem und_5:U.und 5=some (.int .u8):=by kernel_rfl
theorem und_21:U.und 21=some (.int .i32):=by kernel_rfl
theorem und_26:U.und 26=some (.int .i64):=by kernel_rfl
theorem und_299:U.und 299=some (.int .u32):=by kernel_rfl
theorem und_301:U.und 301=some (.int .u64):=by kernel_rfl
theorem und_272:U.und 272=some (.int .u64):=by kernel_rfl
theorem ag_2:isAggT U 2=some false:=by kernel_rfl
theorem sz_2:size U 2=some 1:=by kernel_rfl
theorem ag_3:isAggT U 3=some false:=by kernel_rfl
theorem sz_3:size U 3=some 1:=by kernel_rfl
theorem ag_4:isAggT U 4=some false:=by kernel_rfl
theorem sz_4:size U 4=some 1:=by kernel_rfl
theorem ag_5:isAggT U 5=some false:=by kernel_rfl
theorem sz_5:size U 5=some 1:=by kernel_rfl
theorem ag_9:isAggT U 9=some false:=by kernel_rfl
theorem sz_9:size U 9=some 1:=by kernel_rfl
theorem ag_21:isAggT U 21=some false:=by kernel_rfl
theorem sz_21:size U 21=some 1:=by kernel_rfl
theorem ag_23:isAggT U 23=some false:=by kernel_rfl
theorem sz_23:size U 23=some 1:=by kernel_rfl
theorem ag_25:isAggT U 25=some true:=by kernel_rfl
theorem sz_25:size U 25=some 2:=by kernel_rfl
theorem ag_26:isAggT U 26=some false:=by kernel_rfl
theorem sz_26:size U 26=some 1:=by kernel_rfl
theorem ag_29:isAggT U 29=some false:=by kernel_rfl
theorem sz_29:size U 29=some 1:=by kernel_rfl
theorem ag_31:isAggT U 31=some true:=by kernel_rfl
theorem sz_31:size U 31=some 2:=by kernel_rfl
theorem ag_37:isAggT U 37=some false:=by kernel_rfl
theorem sz_37:size U 37=some 1:=by kernel_rfl
theorem ag_39:isAggT U 39=some true:=by kernel_rfl
theorem sz_39:size U 39=some 7:=by kernel_rfl
theorem ag_40:isAggT U 40=some false:=by kernel_rfl
theorem sz_40:size U 40=some 1:=by kernel_rfl
theorem ag_43:isAggT U 43=some false:=by kernel_rfl
theorem sz_43:size U 43=some 1:=by kernel_rfl
theorem ag_46:isAggT U 46=some false:=by kernel_rfl
theorem sz_46:size U 46=some 1:=by kernel_rfl
theorem ag_48:isAggT U 48=some true:=by kernel_rfl
theorem sz_48:size U 48=some 7:=by kernel_rfl
theorem ag_66:isAggT U 66=some false:=by kernel_rfl
theorem sz_66:size U 66=some 1:=by kernel_rfl
theorem ag_67:isAggT U 67=some false:=by kernel_rfl
theorem sz_67:size U 67=some 1:=by kernel_rfl
theorem ag_69:isAggT U 69=some true:=by kernel_rfl
theorem sz_69:size U 69=some 3:=by kernel_rfl
theorem ag_72:isAggT U 72=some true:=by kernel_rfl
theorem sz_72:size U 72=some 3:=by kernel_rfl
theorem ag_90:isAggT U 90=some true:=by kernel_rfl
theorem sz_90:size U 90=some 9:=by kernel_rfl
theorem ag_108:isAggT U 108=some false:=by kernel_rfl
theorem sz_108:size U 108=some 1:=by kernel_rfl
theorem ag_116:isAggT U 116=some true:=by kernel_rfl
theorem sz_116:size U 116=some 2:=by kernel_rfl
theorem ag_144:isAggT U 144=some true:=by kernel_rfl
theorem sz_144:size U 144=some 9:=by kernel_rfl
theorem ag_152:isAggT U 152=some true:=by kernel_rfl
theorem sz_152:size U 152=some 3:=by kernel_rfl
theorem ag_158:isAggT U 158=some true:=by kernel_rfl
theorem sz_158:size U 158=some 3:=by kernel_rfl
theorem ag_176:isAggT U 176=some true:=by kernel_rfl
theorem sz_176:size U 176=some 5:=by kernel_rfl
theorem ag_183:isAggT U 183=some false:=by kernel_rfl
theorem sz_183:size U 183=some 1:=by kernel_rfl
theorem ag_186:isAggT U 186=some true:=by kernel_rfl
theorem sz_186:size U 186=some 2:=by kernel_rfl
theorem ag_205:isAggT U 205=some false:=by kernel_rfl
theorem sz_205:size U 205=some 1:=by kernel_rfl
theorem ag_207:isAggT U 207=some true:=by kernel_rfl
theorem sz_207:size U 207=some 2:=by kernel_rfl
theorem ag_236:isAggT U 236=some true:=by kernel_rfl
theorem sz_236:size U 236=some 9:=by kernel_rfl
theorem ag_272:isAggT U 272=some false:=by kernel_rfl
theorem sz_272:size U 272=some 1:=by kernel_rfl
theorem ag_299:isAggT U 299=some false:=by kernel_rfl
theorem sz_299:size U 299=some 1:=by kernel_rfl
theorem ag_301:isAggT U 301=some false:=by kernel_rfl
theorem sz_301:size U 301=some 1:=by kernel_rfl
attribute [go_sem ↓] gateZ_true gateZ_false
attribute [go_sem] gateZ_some Int.reduceBEq Int.reduceBNe Int.reduceAdd U_glob und_2 und_3 und_5 und_21 und_26 und_299 und_301 und_272 ag_2 sz_2 ag_3 sz_3 ag_4 sz_4 ag_5 sz_5 ag_9 sz_9 ag_21 sz_21 ag_23 sz_23 ag_25 sz_25 ag_26 sz_26 ag_29 sz_29 ag_31 sz_31 ag_37 sz_37 ag_39 sz_39 ag_40 sz_40 ag_43 sz_43 ag_46 sz_46 ag_48 sz_48 ag_66 sz_66 ag_67 sz_67 ag_69 sz_69 ag_72 sz_72 ag_90 sz_90 ag_108 sz_108 ag_116 sz_116 ag_144 sz_144 ag_152 sz_152 ag_158 sz_158 ag_176 sz_176 ag_183 sz_183 ag_186 sz_186 ag_205 sz_205 ag_207 sz_207 ag_236 sz_236 ag_272 sz_272 ag_299 sz_299 ag_301 sz_301
abbrev o (d:Nat)(r:ROp):RO:=⟨some d,none,none,false,r⟩
abbrev oS (r:ROp):RO:=⟨none,none,none,false,r⟩
abbrev om (d t:Nat):RO:=⟨some d,none,none,false,.mov (.t t)⟩
abbrev oF (d g:Nat)(r:ROp):RO:=⟨some d,some (g,false),none,false,r⟩
abbrev oT (d g:Nat)(r:ROp):RO:=⟨some d,some (g,true),none,false,r⟩
end Go.Am
namespace Go.Am
open Go
structure Pb where
 lo:Nat
 hi:Nat
 e:Env
 op:ROp
 v:AV
def pb1 (v:AV)(x:Option (AV×St)):Bool:=match x with
 |some (u,_)=>same u v
 |none=>false
section
variable (X:Cx)
noncomputable def pbL (base:Nat)(e:Env)(op:ROp)(v:AV):List St→Bool
 |[]=>true
 |s::l=>pb1 v (rop X base none e s op)&&pbL base e op v l
noncomputable def pbsOk (base:Nat)(H:List St):List Pb→Bool
 |[]=>true
 |p::P=>pbL X base p.e p.op p.v ((H.take (p.hi+1)).drop p.lo)&&pbsOk base H P
abbrev ROC:=RO×Option (Nat×Nat)
def noneC (base:Nat)(s:St)(l:List ROC):Bool:=noneR base s (l.map Prod.fst)
def addP (c:Option (Nat×Nat))(e:Env)(op:ROp)(v:AV)(P:List Pb):List Pb:=match c with
 |some (lo,hi)=>⟨lo,hi,e,op,v⟩::P
 |none=>P
noncomputable def ropsC (base:Nat):List ROC→Env→St→List St→List Pb→Option (Env×St)
 |[],e,s,H,P=>bif pbsOk X base H P then some (e,s) else none
 |(o,c)::l,e,s,H,P=>match (bif wantR e o.g then rop X base o.at_ e s o.op else some (undef,s)) with
  |some (v,s')=>bif !o.w||noneC base s' l then ropsC base l (setDst e o.d v) s' (bif o.w then H++[s'] else H) (addP c e o.op v P) else none
  |none=>none
def calmI (ops:Array Oper)(i:Nat):Bool :=
 (aIdx X 0 ops.toList).all (fun k=>!decide (k<i)||bef ops k i)&&(wIdx X ops 0 ops.toList).all (fun k=>bef ops k i||bef ops i k)
def opC (ops:Array Oper)(i:Nat):Option (Nat×Nat):=match ops[i]? with
 |some o=>if ((cls X o.op).isR||(match cls X o.op with|.q=>true|_=>false))&&!calmI X ops i then
   some (countL (fun j=>bef ops j i) (wIdx X ops 0 ops.toList),countL (fun j=>!bef ops i j) (wIdx X ops 0 ops.toList)) else none
 |none=>none
def csD (ops:Array Oper):List (Option (Nat×Nat)):=(List.range ops.size).map (opC X ops)
def openD (ops:Array Oper):Bool :=
 !lateReg X ops&&(List.range ops.size).all fun i=>match ops[i]? with
  |some o=>!((cls X o.op).isR||(match cls X o.op with|.q=>true|_=>false))||calmI X ops i ||
   ((cls X o.op).isR&&(o.guard.isNone&&(aIdx X 0 ops.toList).all fun k=>!bef ops k i))
  |none=>true
def rcDrc:Code→Option (Nat×List ROC)
 |.region _ ops d=>if d&&openD X ops&&okD X ops then match rcOps X ops true 0 ops.toList with
   |some l=>some (ops.size,l.zip (csD X ops))
   |none=>none
   else none
 |_=>none
end
section
variable [Stat]
variable {X:Cx}{ops:Array Oper}{base:Nat}
theorem rcOps_length {b:Bool}:∀(l:List Oper) (i:Nat) (r:List RO),rcOps X ops b i l=some r→r.length=l.length
 |[],i,r,h=>by simp only[rcOps] at h;cases h;rfl
 |o::l,i,r,h=>by
  simp only[rcOps] at h
  split at h
  ·rename_i g r' h1 h2
   cases h
   simp[rcOps_length l (i+1) r' h2]
  ·cases h
theorem ropsC_D {r:Env×St}:∀(l:List ROC) (e:Env) (s:St) (H:List St) (P:List Pb),ropsC X base l e s H P=some r→ropsD X base (l.map Prod.fst) e s=some r
 |[],e,s,H,P,h=>by
  simp only[ropsC] at h
  cases hb:pbsOk X base H P with
  |true=>rw[hb] at h;exact h
  |false=>rw[hb] at h;cases h
 |(o,c)::l,e,s,H,P,h=>by
  simp only[ropsC] at h
  simp only[List.map_cons,ropsD]
  split at h
  ·rename_i v s' hv
   rw[hv]
   simp only
   cases hb:(!o.w||noneC base s' l) with
   |false=>rw[hb] at h;cases h
   |true =>
    rw[hb] at h
    rw[if_pos (by exact hb)]
    exact ropsC_D l _ _ _ _ h
  ·cases h
theorem roStep {i:Nat}{o:Oper}{g:Option (Nat×Bool)}{e:Env}{s s1:St}{v:AV}(h1:rcG ops o.guard=some g)
  (hr:(bif wantR e g then rop X base (if true&&(cls X o.op).isA then some i else none) e s (rcOp X o.op) else some (undef,s))=some (v,s1)) :
  stepD X (execL X) ops base i o e s=some (setDst e o.dst v,s1):=by
 have hwant:=rcG_spec h1 e
 cases hw:wantR e g with
 |false =>
  rw[hw] at hr hwant
  simp only[cond_false] at hr
  cases hr
  simp only[stepD,←hwant,Bool.false_eq_true,if_false]
 |true =>
  rw[hw] at hr hwant
  simp only[cond_true,Bool.true_and] at hr
  simp only[stepD,←hwant,if_true]
  by_cases ha:(cls X o.op).isA=true
  ·rw[if_pos ha] at hr
   obtain⟨s2,e1,e2⟩:=rop_at (isA_iff.1 ha) hr
   rw[isA_iff.1 ha]
   simp only[e1,e2]
  ·rw[if_neg ha] at hr
   have:=rop_spec hr
   cases hk:cls X o.op <;> rw[hk] at ha <;> first|exact absurd rfl ha|simp only[this]
theorem addA_no {i m:Nat}{tr:List (Env×St)}{s:St}:∀(l:List Nat),(∀k∈l,bef ops k i=false)→addA ops base i m tr l s=s
 |[],_=>rfl
 |j::l,h=>by
  unfold addA
  rw[if_neg (by simp[h j (List.mem_cons_self ..)])]
  exact addA_no l fun k hk=>h k (List.mem_cons_of_mem _ hk)
theorem pbsOk_mem {H:List St}:∀(P:List Pb),pbsOk X base H P=true→∀p∈P,pbL X base p.e p.op p.v ((H.take (p.hi+1)).drop p.lo)=true
 |[],_,p,hp=>by simp at hp
 |q::P,h,p,hp=>by
  simp only[pbsOk,Bool.and_eq_true] at h
  rcases List.mem_cons.1 hp with rfl|hp
  ·exact h.1
  ·exact pbsOk_mem P h.2 p hp
theorem pbL_mem {e:Env}{op:ROp}{v:AV}:∀(l:List St),pbL X base e op v l=true→∀s∈l,pb1 v (rop X base none e s op)=true
 |[],_,s,hs=>by simp at hs
 |x::l,h,s,hs=>by
  simp only[pbL,Bool.and_eq_true] at h
  rcases List.mem_cons.1 hs with rfl|hs
  ·exact h.1
  ·exact pbL_mem l h.2 s hs
theorem probes (hlr:lateReg X ops=false):∀(l:List Oper) (i:Nat) (l':List ROC) (e:Env) (s:St) (H:List St) (P:List Pb) (r:Env×St) (tr:List (Env×St)),
  rcOps X ops true i l=some (l'.map Prod.fst)→ropsC X base l' e s H P=some r→goD X (execL X) ops base i l e s=some tr →
  ∃P',pbsOk X base (H++(wIdx X ops i l).map (fun j=>trS tr (j+1-i))) P'=true∧(∀p∈P,p∈P') ∧
   ∀(k:Nat) o q lo hi,l[k]? = some o→l'[k]? = some (q,some (lo,hi))→o.guard=none→cls X o.op=.r →
    ∃v,opA X (execL X) (trE tr k) o.op (trS tr k)=some (v,trS tr (k+1))∧(⟨lo,hi,trE tr k,rcOp X o.op,v⟩:Pb)∈P'
 |[],i,l',e,s,H,P,r,tr,h1,h2,h3=>by
  have hl':l'=[]:=by
   simp only[rcOps] at h1
   cases l' with
   |nil=>rfl
   |cons x y=>simp at h1
  subst hl'
  simp only[ropsC] at h2
  refine⟨P,?_,fun p hp=>hp,fun k o q lo hi hk=>by simp at hk⟩
  simp only[wIdx,List.map_nil,List.append_nil]
  cases hb:pbsOk X base H P with
  |true=>rfl
  |false=>rw[hb] at h2;cases h2
 |o::l,i,l',e,s,H,P,r,tr,h1,h2,h3=>by
  simp only[rcOps] at h1
  split at h1
  ·rename_i g r' e1 e2
   cases l' with
   |nil=>simp at h1
   |cons x l2 =>
    obtain⟨ro,c⟩:=x
    simp only[List.map_cons,Option.some.injEq,List.cons.injEq] at h1
    obtain⟨rfl,rfl⟩:=h1
    simp only[ropsC] at h2
    split at h2
    ·rename_i v s1 hv
     have hst:=roStep e1 hv
     simp only[goD,hst] at h3
     split at h3
     ·rename_i tr' g1
      cases h3
      cases hb:(!(true&&(cls X o.op).isW)||noneC base s1 l2) with
      |false=>rw[hb] at h2;cases h2
      |true =>
       rw[hb] at h2
       simp only[cond_true] at h2
       obtain⟨P',q1,q2,q3⟩:=probes hlr l (i+1) l2 _ s1 _ _ r tr' e2 h2 g1
       obtain⟨k1,k2,_⟩:=goD_spec _ _ _ _ _ g1
       have hts:∀n,trS ((e,s)::tr') (n+1)=trS tr' n:=fun n=>by simp[trS]
       have hte:∀n,trE ((e,s)::tr') (n+1)=trE tr' n:=fun n=>by simp[trE]
       have hs1:trS tr' 0=s1:=by simp[trS,k2]
       have hmap:(wIdx X ops (i+1) l).map (fun j=>trS ((e,s)::tr') (j+1-i))=(wIdx X ops (i+1) l).map (fun j=>trS tr' (j+1-(i+1))):=by
        refine List.map_congr_left fun j hj=>?_
        obtain⟨k,_,_,hjk,_⟩:=(wIdx_mem l (i+1) j).1 hj
        rw[show j+1-i=(j+1-(i+1))+1 by omega,hts]
       refine⟨P',?_,fun p hp=>q2 p (by unfold addP;split <;> simp[hp]),fun k o' q lo hi hk1 hk2 hg hc=>?_⟩
       ·have hlt:late X ops i=false:=by simp[late,hlr]
        simp only[wIdx,hlt,Bool.not_false,Bool.and_true]
        cases hw:(cls X o.op).isW with
        |true =>
         rw[hw] at q1
         simp only[if_true,List.map_cons]
         rw[hmap,show i+1-i=0+1 by omega,hts,hs1]
         simpa using q1
        |false =>
         rw[hw] at q1
         simp only[Bool.false_eq_true,if_false]
         rw[hmap]
         simpa using q1
       ·cases k with
        |zero =>
         simp at hk1 hk2
         obtain⟨_,rfl⟩:=hk2
         subst hk1
         have hgn:g=none:=by rw[hg] at e1;simp[rcG] at e1;exact e1.symm
         subst hgn
         simp only[wantR,cond_true,hc,Cls.isA,Bool.and_false,Bool.false_eq_true,if_false] at hv
         have:=rop_spec hv
         refine⟨v,?_,?_⟩
         ·rw[hts,hs1];exact this
         ·exact q2 _ (by simp[addP,trE])
        |succ k =>
         obtain⟨v',w1,w2⟩:=q3 k o' q lo hi (by simpa using hk1) (by simpa using hk2) hg hc
         refine⟨v',?_,?_⟩
         ·rw[hte,hts,hts];exact w1
         ·rw[hte];exact w2
     ·cases h3
    ·cases h2
  ·cases h1
theorem drc_spec {l:List RO}{e:Env}{s:St}{r:Env×St}(hrc:rcOps X ops true 0 ops.toList=some l)(hopen:openD X ops=true)(hokd:okD X ops=true)(hn:noneR s.next s l=true)
  (hrC:ropsC X s.next (l.zip (csD X ops)) e { s with next:=s.next+ops.size } [{ s with next:=s.next+ops.size }] []=some r):drawA X (execL X) ops e s=some r:=by
 have hok:=okD_ok hokd
 have hlen:l.length=ops.size:=by rw[rcOps_length _ _ _ hrc];simp
 have hz1:(l.zip (csD X ops)).map Prod.fst=l:=by rw[List.map_fst_zip];rw[hlen];simp[csD]
 have hr:ropsD X s.next l e { s with next:=s.next+ops.size }=some r:=by
  have:=ropsC_D _ _ _ _ _ hrC
  rw[hz1] at this;exact this
 unfold openD at hopen
 simp only[Bool.and_eq_true,Bool.not_eq_true',List.all_eq_true,List.mem_range] at hopen
 obtain⟨hlr,hall⟩:=hopen
 obtain⟨tr,g1,g2,g3⟩:=ropsD_go _ _ _ _ _ hrc hr
 obtain⟨P',hP1,_,hP2⟩:=probes hlr ops.toList 0 (l.zip (csD X ops)) e _ _ [] r tr (by rw[hz1];exact hrc) hrC g1
 obtain⟨k1,k2,k3⟩:=goD_spec _ _ _ _ _ g1
 have k1:tr.length=ops.size+1:=by simpa using k1
 have ht:Tr0 X (execL X) ops s.next (trE tr) (trS tr):=⟨fun i o ho=>by
  have:=k3 i o (by simpa using ho)
  simpa using this⟩
 have hS0:trS tr 0={ s with next:=s.next+ops.size }:=by simp[trS,k2]
 have hlate:∀i,late X ops i=false:=fun i=>by simp[late,hlr]
 have wmem:∀j,j∈wIdx X ops 0 ops.toList↔∃o,ops[j]? = some o∧cls X o.op=.w:=by
  intro j
  rw[wIdx_mem]
  constructor
  ·rintro⟨k,o,h1,rfl,h3⟩
   simp only[Bool.and_eq_true] at h3
   exact⟨o,by simpa using h1,isW_iff.1 h3.1⟩
  ·rintro⟨o,h1,h3⟩
   exact⟨j,o,by simpa using h1,by omega,by simp[isW_iff.2 h3,hlate]⟩
 have amem:∀j,kA X ops j→j∈aIdx X 0 ops.toList:=by
  have:∀(l:List Oper) (i k:Nat) o,l[k]? = some o→cls X o.op=.a→i+k∈aIdx X i l:=by
   intro l
   induction l with
   |nil=>intro i k o h;simp at h
   |cons x l ih =>
    intro i k o h hc
    unfold aIdx
    cases k with
    |zero=>simp at h;subst h;rw[if_pos (isA_iff.2 hc)];exact List.mem_cons_self ..
    |succ k =>
     have:=ih (i+1) k o (by simpa using h) hc
     rw[show i+(k+1)=i+1+k by omega]
     split
     ·exact List.mem_cons_of_mem _ this
     ·exact this
  rintro j ⟨o,ho,hc⟩
  have:=this ops.toList 0 j o (by simpa using ho) hc
  simpa using this
 have hsts:=statesD_ok (tr:=tr) (wIdx X ops 0 ops.toList) fun j hj=>by
  obtain⟨o,ho,_⟩:=(wmem j).1 hj
  have:=(Array.getElem?_eq_some_iff.1 ho).1
  omega
 unfold drawA
 rw[g1]
 simp only[hsts]
 have hnoneM:∀m,m=0∨(∃j,m=j+1∧j∈wIdx X ops 0 ops.toList)→∀i,m≤i→kA X ops i→(trS tr m).get (s.next+i)=none:=by
  rintro m (rfl|⟨j,rfl,hj⟩) i hi ⟨o,ho,hc⟩
  ·rw[hS0]
   have:=noneR_start _ _ _ hrc hn i o (by simpa using ho) (isA_iff.2 hc)
   rw[Nat.zero_add] at this
   exact this
  ·obtain⟨oj,hoj,hcj⟩:=(wmem j).1 hj
   have:=g3 j oj (by simpa using hoj) (isW_iff.2 hcj) i (by omega) o (by simpa using ho) (isA_iff.2 hc)
   simpa using this
 have hss:∀m s1,(m,s1)∈(0,({ s with next:=s.next+ops.size }:St))::((wIdx X ops 0 ops.toList).map fun j=>(j+1,trS tr (j+1)))→(m=0∨∃j,m=j+1∧j∈wIdx X ops 0 ops.toList)∧s1=trS tr m:=by
  intro m s1 hm
  rcases List.mem_cons.1 hm with e|hm
  ·cases e;exact⟨.inl rfl,hS0.symm⟩
  ·obtain⟨j,hj,e⟩:=List.mem_map.1 hm
   cases e
   exact⟨.inr ⟨j,rfl,hj⟩,rfl⟩
 have hnA:noneAll X ops s.next ((0,({ s with next:=s.next+ops.size }:St))::((wIdx X ops 0 ops.toList).map fun j=>(j+1,trS tr (j+1))))=true:=noneAll_of _ fun m s1 hm i hi hk=>by
  obtain⟨h1,rfl⟩:=hss m s1 hm
  exact hnoneM m h1 i hi hk
 have hchk:checkR X (execL X) ops s.next (wIdx X ops 0 ops.toList) (aIdx X 0 ops.toList) ((0,({ s with next:=s.next+ops.size }:St))::((wIdx X ops 0 ops.toList).map fun j=>(j+1,trS tr (j+1)))) tr 0 ops.toList tr=true:=by
  refine checkR_of _ _ _ fun i o es ho htr hw=>?_
  have ho':ops[i]? = some o:=by simpa using ho
  have hi:i<ops.size:=(Array.getElem?_eq_some_iff.1 ho').1
  have hes:es=(trE tr i,trS tr i):=by simp[trE,trS,htr]
  subst hes
  simp only at hw
  rw[Nat.zero_add]
  have hop:cls X o.op≠.a→∃v,opA X (execL X) (trE tr i) o.op (trS tr i)=some (v,trS tr (i+1)):=fun hne=>by
   rcases stepD_cases (ht.step i o ho') with⟨h1,_⟩|⟨_,v,_,⟨hc,_⟩|⟨_,h3⟩⟩
   ·rw[hw] at h1;cases h1
   ·exact absurd (isA_iff.1 hc) hne
   ·exact⟨v,h3⟩
  have hone:(cls X o.op=.r∨cls X o.op=.q)→calmI X ops i=true→∃m,rangeR ops (wIdx X ops 0 ops.toList) ((0,({ s with next:=s.next+ops.size }:St))::((wIdx X ops 0 ops.toList).map fun j=>(j+1,trS tr (j+1)))) i=[(m,trS tr m)] ∧
    addA ops s.next i m tr (aIdx X 0 ops.toList) (trS tr m)=trS tr i:=by
   intro hk hst'
   unfold calmI at hst'
   rw[Bool.and_eq_true] at hst'
   obtain⟨ha,hwb⟩:=hst'
   rw[List.all_eq_true] at ha hwb
   have hab:∀k,k<i→kA X ops k→bef ops k i=true:=fun k hki hka=>by
    have:=ha k (amem k hka)
    simpa[hki] using this
   have hbw:∀k∈wIdx X ops 0 ops.toList,(bef ops k i=true↔k<i)∧(bef ops i k=true↔i<k):=by
    intro k hkm
    have:=hwb k hkm
    simp only[Bool.or_eq_true] at this
    rcases this with h1|h1
    ·have:=hok.bef_lt i k h1
     refine⟨⟨fun _=>this,fun _=>h1⟩,⟨fun h2=>?_,fun h2=>by omega⟩⟩
     have:=hok.bef_lt k i h2;omega
    ·have:=hok.bef_lt k i h1
     refine⟨⟨fun h2=>?_,fun h2=>by omega⟩,⟨fun _=>this,fun _=>h1⟩⟩
     have:=hok.bef_lt i k h2;omega
   have hne:∀k∈wIdx X ops 0 ops.toList,k≠i:=fun k hkm e=>by
    obtain⟨o2,ho2,hc2⟩:=(wmem k).1 hkm
    rw[e,ho'] at ho2;cases ho2
    rcases hk with hk|hk <;> rw[hk] at hc2 <;> cases hc2
   have hcnt:countL (fun j=>!bef ops i j) (wIdx X ops 0 ops.toList)=countL (fun j=>bef ops j i) (wIdx X ops 0 ops.toList):=by
    refine Nat.le_antisymm (countL_mono _ fun x hx h=>?_) (countL_mono _ fun x hx h=>?_)
    ·have h1:bef ops i x=false:=by simpa using h
     refine ((hbw x hx).1).2 (Nat.lt_of_not_le fun hle=>?_)
     have:=((hbw x hx).2).2 (by have:=hne x hx;omega)
     rw[h1] at this;cases this
    ·have h1:=((hbw x hx).1).1 h
     simp only[Bool.not_eq_true']
     cases hb:bef ops i x with
     |false=>rfl
     |true=>have:=((hbw x hx).2).1 hb;omega
   unfold rangeR
   rw[hcnt]
   generalize hq:countL (fun j=>bef ops j i) (wIdx X ops 0 ops.toList)=q
   have hsort:=List.pairwise_iff_getElem.1 (wIdx_sorted (X:=X) (ops:=ops) ops.toList 0)
   have hql:q≤(wIdx X ops 0 ops.toList).length:=by
    rw[←hq]
    generalize wIdx X ops 0 ops.toList=L
    induction L with
    |nil=>exact Nat.le_refl _
    |cons x L ih=>simp only[countL,List.length_cons];split <;> omega
   have hfirst:∀n (hn:n<(wIdx X ops 0 ops.toList).length),(n<q↔(wIdx X ops 0 ops.toList)[n]<i):=by
    obtain⟨p,hp1,hp2,hp3⟩:∃p,p≤(wIdx X ops 0 ops.toList).length∧(∀n (hn:n<(wIdx X ops 0 ops.toList).length),n<p→(wIdx X ops 0 ops.toList)[n]<i)∧(∀n (hn:n<(wIdx X ops 0 ops.toList).length),p≤n→¬(wIdx X ops 0 ops.toList)[n]<i):=by
     rcases last_of (fun n=>∃hn:n<(wIdx X ops 0 ops.toList).length,(wIdx X ops 0 ops.toList)[n]<i) (wIdx X ops 0 ops.toList).length with h|⟨n0,h1,⟨h2,h3⟩,h4⟩
     ·exact⟨0,Nat.zero_le _,fun n _ hn=>by omega,fun n hn _ hlt=>h n hn ⟨hn,hlt⟩⟩
     ·refine⟨n0+1,h1,fun n hn hlt=>?_,fun n hn hle hlt=>h4 n (by omega) hn ⟨hn,hlt⟩⟩
      by_cases e:n=n0
      ·subst e;exact h3
      ·have:=hsort n n0 hn h2 (by omega);omega
    have hpq:p=q:=by
     rw[←hq]
     refine (countL_split _ p hp1 (fun x hx=>?_) (fun x hx=>?_)).symm
     ·obtain⟨n,hn,rfl⟩:=List.mem_iff_getElem.1 hx
      rw[List.getElem_take]
      have hn':n<p∧n<(wIdx X ops 0 ops.toList).length:=by rw[List.length_take] at hn;omega
      exact ((hbw _ (List.getElem_mem hn'.2)).1).2 (hp2 n hn'.2 hn'.1)
     ·obtain⟨n,hn,rfl⟩:=List.mem_iff_getElem.1 hx
      rw[List.getElem_drop]
      rw[List.length_drop] at hn
      have:=hp3 (p+n) (by omega) (by omega)
      cases hb:bef ops (wIdx X ops 0 ops.toList)[p+n] i with
      |false=>rfl
      |true=>exact absurd (((hbw _ (List.getElem_mem (by omega))).1).1 hb) this
    subst hpq
    exact fun n hn=>⟨hp2 n hn,fun hlt=>Nat.lt_of_not_le fun hle=>hp3 n hn hle hlt⟩
   have fin:∀m,(m=0∨∃j,m=j+1∧j∈wIdx X ops 0 ops.toList)→m≤i→(∀k∈wIdx X ops 0 ops.toList,k<i→k<m) →
     addA ops s.next i m tr (aIdx X 0 ops.toList) (trS tr m)=trS tr i:=fun m hm hmi hwm =>
    addA_here ht k1 hok hi hmi (fun k ok h1 h2 hok' hc=>by
     have:=hwm k ((wmem k).2 ⟨ok,hok',hc⟩) h2;omega) hab (fun k h1 h2=>hnoneM m hm k h1 h2)
   cases q with
   |zero =>
    refine⟨0,by simp[hS0],fin 0 (.inl rfl) (Nat.zero_le _) fun k hkm hki=>?_⟩
    obtain⟨n,hn,rfl⟩:=List.mem_iff_getElem.1 hkm
    have:=(hfirst n hn).2 hki;omega
   |succ q =>
    have hqn:q<(wIdx X ops 0 ops.toList).length:=by omega
    have hqi:=(hfirst q hqn).1 (by omega)
    refine⟨(wIdx X ops 0 ops.toList)[q]+1,?_,fin _ (.inr ⟨_,rfl,List.getElem_mem _⟩) (by omega) fun k hkm hki=>?_⟩
    ·rw[List.drop_take]
     rw[show q+1+1-(q+1)=1 by omega,List.drop_succ_cons,List.drop_eq_getElem_cons (by simpa using hqn)]
     simp
    ·obtain⟨n,hn,rfl⟩:=List.mem_iff_getElem.1 hkm
     have hnq:=(hfirst n hn).2 hki
     by_cases e:n=q
     ·subst e;omega
     ·have:=hsort n q hn hqn (by omega);omega
  have hcase:=hall i hi
  rw[ho'] at hcase
  simp only at hcase
  refine⟨fun hk=>?_,fun hk=>?_⟩
  ·cases hcm:calmI X ops i with
   |true =>
    obtain⟨v,hv⟩:=hop (by rw[hk];simp)
    obtain⟨m,hm1,hm2⟩:=hone (.inl hk) hcm
    refine⟨v,_,hv,?_⟩
    rw[hm1]
    simp only[readsSame,hm2,hv,same_refl,Bool.and_self]
   |false =>
    rw[hk,hcm] at hcase
    simp only[Cls.isR,Bool.true_or,Bool.not_true,Bool.false_or,Bool.true_and,Bool.and_eq_true,Option.isNone_iff_eq_none,List.all_eq_true,Bool.not_eq_true'] at hcase
    obtain⟨hgn,hno⟩:=hcase
    have hcs:(l.zip (csD X ops))[i]? = some ((l[i]'(by omega)),some (countL (fun j=>bef ops j i) (wIdx X ops 0 ops.toList),countL (fun j=>!bef ops i j) (wIdx X ops 0 ops.toList))):=by
     rw[List.getElem?_zip_eq_some]
     refine⟨by simp[List.getElem?_eq_getElem (show i<l.length by omega)],?_⟩
     simp only[csD,List.getElem?_map,List.getElem?_range hi,Option.map_some,opC,ho',hk,hcm,Cls.isR]
     rfl
    obtain⟨v,hv,hmem⟩:=hP2 i o _ _ _ (by simpa using ho') hcs hgn hk
    refine⟨v,_,hv,?_⟩
    have hpl:=pbsOk_mem _ hP1 _ hmem
    simp only at hpl
    have hrng:∀x∈rangeR ops (wIdx X ops 0 ops.toList) ((0,({ s with next:=s.next+ops.size }:St))::((wIdx X ops 0 ops.toList).map fun j=>(j+1,trS tr (j+1)))) i,pb1 v (rop X s.next none (trE tr i) x.2 (rcOp X o.op))=true:=by
     intro x hx
     refine pbL_mem _ hpl x.2 ?_
     have:(([{ s with next:=s.next+ops.size }]:List St)++(wIdx X ops 0 ops.toList).map (fun j=>trS tr (j+1-0)))=((0,({ s with next:=s.next+ops.size }:St))::((wIdx X ops 0 ops.toList).map fun j=>(j+1,trS tr (j+1)))).map Prod.snd:=by
      simp[Function.comp_def]
     rw[this,←List.map_take,←List.map_drop]
     exact List.mem_map_of_mem hx
    generalize rangeR ops (wIdx X ops 0 ops.toList) ((0,({ s with next:=s.next+ops.size }:St))::((wIdx X ops 0 ops.toList).map fun j=>(j+1,trS tr (j+1)))) i=L at hrng
    induction L with
    |nil=>rfl
    |cons x L ih =>
     obtain⟨m,s1⟩:=x
     have h0:=hrng (m,s1) (List.mem_cons_self ..)
     simp only[readsSame]
     rw[addA_no _ hno]
     unfold pb1 at h0
     split at h0
     ·rename_i u s2 hu
      simp only at hu
      simp only[rop_spec hu,h0,Bool.true_and]
      exact ih fun x hx=>hrng x (List.mem_cons_of_mem _ hx)
     ·cases h0
  ·cases hcm:calmI X ops i with
   |true =>
    obtain⟨v,hv⟩:=hop (by rw[hk];simp)
    obtain⟨m,hm1,hm2⟩:=hone (.inr hk) hcm
    obtain⟨_,c,vs,us,e1,e2,e3,_⟩:=cls_c hk hv
    refine⟨c,vs,us,e1,e2,e3,?_⟩
    rw[hm1]
    simp only[argsSame,hm2,e3,sames_refl,Bool.and_self]
   |false =>
    rw[hk,hcm] at hcase
    simp[Cls.isR] at hcase
 rw[lateIds_nil hlr]
 simp only[lateOk,hchk,hnA,Bool.and_self,if_true]
 exact g2
end
section
variable (X:Cx){β:Type}(back:β)(fin:Fl→β)(ks:List K)
noncomputable def goC (base:Nat)(l:List ROC)(e:Env)(s:St)(H:List St)(P:List Pb):β:=match ropsC X base l e s H P with
 |some (e,s)=>goN X fin ks e s
 |none=>back
noncomputable def bndC (base:Nat)(x:Option (AV×St))(d:Option Nat)(w:Bool)(c:Option (Nat×Nat))(op:ROp)(l:List ROC)(e:Env)(H:List St)(P:List Pb):β:=match x with
 |some (v,s)=>bif !w||noneC base s l then goC X back fin ks base l (setDst e d v) s (bif w then H++[s] else H) (addP c e op v P) else back
 |none=>back
noncomputable def backC (c:Code)(e:Env)(s:St):β:=pop X fin ks (execL X c e s)
variable (base:Nat)(e:Env)(s:St)(H:List St)(P:List Pb)(l:List ROC)
theorem goC_nil:goC X back fin ks base [] e s H P=bif pbsOk X base H P then goN X fin ks e s else back:=by
 simp only[goC,ropsC]
 cases pbsOk X base H P <;> rfl
theorem goC_cons (d:Option Nat)(a:Option Nat)(w:Bool)(op:ROp)(c:Option (Nat×Nat)) :
  goC X back fin ks base ((⟨d,none,a,w,op⟩,c)::l) e s H P=bndC X back fin ks base (rop X base a e s op) d w c op l e H P:=by
 simp only[goC,ropsC,bndC,wantR,cond_true]
 cases rop X base a e s op with
 |none=>rfl
 |some x =>
  simp only
  cases (!w||noneC base x.2 l) <;> rfl
theorem goC_consG (d:Option Nat)(t:Nat)(b:Bool)(a:Option Nat)(w:Bool)(op:ROp)(c:Option (Nat×Nat)) :
  goC X back fin ks base ((⟨d,some (t,b),a,w,op⟩,c)::l) e s H P=bndC X back fin ks base (gateR X (gBool (Env.get e t) b) base a e s op) d w c op l e H P:=by
 simp only[goC,ropsC,bndC,gateR]
 have:wantR e (some (t,b))=gBool (Env.get e t) b:=rfl
 rw[this]
 cases (bif gBool (Env.get e t) b then rop X base a e s op else some (undef,s)) with
 |none=>rfl
 |some x =>
  simp only
  cases (!w||noneC base x.2 l) <;> rfl
theorem bndC_some0 (v:AV)(d:Option Nat)(op:ROp):bndC X back fin ks base (some (v,s)) d false none op l e H P=goC X back fin ks base l (setDst e d v) s H P:=(fun h=>h) rfl
theorem bndC_some0c (v:AV)(d:Option Nat)(lo hi:Nat)(op:ROp):bndC X back fin ks base (some (v,s)) d false (some (lo,hi)) op l e H P=goC X back fin ks base l (setDst e d v) s H (⟨lo,hi,e,op,v⟩::P):=(fun h=>h) rfl
theorem bndC_some1 (v:AV)(d:Option Nat)(op:ROp):bndC X back fin ks base (some (v,s)) d true none op l e H P=bif noneC base s l then goC X back fin ks base l (setDst e d v) s (H++[s]) P else back:=(fun h=>h) rfl
theorem noneC_nil:noneC base s []=true:=(fun h=>h) rfl
theorem noneC_cons0 (d:Option Nat)(g:Option (Nat×Bool))(w:Bool)(op:ROp)(c:Option (Nat×Nat)):noneC base s ((⟨d,g,none,w,op⟩,c)::l)=noneC base s l:=by
 simp[noneC,noneR]
theorem noneC_cons1 (i:Nat)(d:Option Nat)(g:Option (Nat×Bool))(w:Bool)(op:ROp)(c:Option (Nat×Nat)):noneC base s ((⟨d,g,some i,w,op⟩,c)::l)=((s.get (base+i)).isNone&&noneC base s l):=by
 simp[noneC,noneR]
theorem pbsOk_nil:pbsOk X base H []=true:=(fun h=>h) rfl
theorem pbsOk_cons (lo hi:Nat)(op:ROp)(v:AV):pbsOk X base H (⟨lo,hi,e,op,v⟩::P)=(pbL X base e op v ((H.take (hi+1)).drop lo)&&pbsOk X base H P):=(fun h=>h) rfl
theorem pbL_nil (op:ROp)(v:AV):pbL X base e op v []=true:=(fun h=>h) rfl
theorem pbL_cons (op:ROp)(v:AV)(L:List St):pbL X base e op v (s::L)=(pb1 v (rop X base none e s op)&&pbL X base e op v L):=(fun h=>h) rfl
def pbO (v:AV)(x:Option AV):Bool:=match x with
 |some u=>same u v
 |none=>false
theorem pb1_pure (v:AV)(x:Option AV):pb1 v (pureO x s)=pbO v x:=by cases x <;> rfl
theorem pbO_some (u v:AV):pbO v (some u)=same u v:=(fun h=>h) rfl
theorem pb_ld1 (v:AV)(x:Opd):pb1 v (rop X base none e s (.ld1 x))=pbO v (ld1 (evO e x) s):=pb1_pure s v _
theorem pb_ldn (v:AV)(n:Nat)(x:Opd):pb1 v (rop X base none e s (.ldn n x))=pbO v (ldn n (evO e x) s):=pb1_pure s v _
theorem pb_lenL (v:AV)(x:Opd):pb1 v (rop X base none e s (.lenL x))=pbO v (lenRL (evO e x)):=pb1_pure s v _
theorem pb_lenS (v:AV)(x:Opd):pb1 v (rop X base none e s (.lenS x))=pbO v (lenRS (evO e x)):=pb1_pure s v _
theorem pb_lenM (v:AV)(x:Opd):pb1 v (rop X base none e s (.lenM x))=pbO v (lenRM s (evO e x)):=pb1_pure s v _
theorem app_cons {α:Type}(x:α)(l m:List α):(x::l)++m=x::(l++m):=(fun h=>h) rfl
theorem app_nil {α:Type}(m:List α):([]:List α)++m=m:=(fun h=>h) rfl
theorem go_drc [Stat] {c:Code}{n:Nat}{l:List ROC}(h:rcDrc X c=some (n,l))(fin:Fl→β)(ks:List K)(e:Env)(s:St):go X fin ks (.raw c) e s =
  bif noneC s.next s l then goC X (backC X fin ks c e s) fin ks s.next l e { s with next:=s.next+n } [{ s with next:=s.next+n }] [] else backC X fin ks c e s:=by
 unfold rcDrc at h
 split at h
 ·rename_i id ops d
  split at h
  ·rename_i hc
   simp only[Bool.and_eq_true] at hc
   split at h
   ·rename_i l0 hl
    cases h
    have hz:noneC s.next s (l0.zip (csD X ops))=noneR s.next s l0:=by
     unfold noneC
     rw[List.map_fst_zip]
     rw[rcOps_length _ _ _ hl];simp[csD]
    rw[hz]
    cases hn:noneR s.next s l0 with
    |false=>rfl
    |true =>
     simp only[cond_true,goC]
     split
     ·rename_i e1 s1 h1
      have:=drc_spec hl hc.1.2 hc.2 hn h1
      simp only[go,den,goN]
      rw[execL_eq]
      simp only[stepA,hc.1.1,if_true,this]
     ·rfl
   ·cases h
  ·cases h
 ·cases h
end
@[congr] theorem bndC_congr {X:Cx} {β:Type} {back:β} {fin:Fl→β} {ks:List K} {base:Nat} {x x':Option (AV×St)} {d:Option Nat} {w:Bool} {c:Option (Nat×Nat)} {op:ROp} {l:List ROC} {e:Env} {H:List St} {P:List Pb} (h:x=x'):bndC X back fin ks base x d w c op l e H P=bndC X back fin ks base x' d w c op l e H P:=by rw[h]
attribute [go_sem ↓] goC_nil goC_cons goC_consG bndC_some0 bndC_some0c bndC_some1 noneC_nil noneC_cons0 noneC_cons1 pbsOk_nil pbsOk_cons pbL_nil pbL_cons pb_ld1 pb_ldn pb_lenL pb_lenS pb_lenM app_cons app_nil List.take_succ_cons List.take_zero List.drop_succ_cons List.drop_zero
attribute [go_sem] pbO_some same_refl
end Go.Am
namespace Go.Am
open Go
variable [MaxLen]
set_option maxRecDepth 100000
set_option maxHeartbeats 8000000
def raws:RC→List Code
 |.seq a b=>raws a++raws b
 |.cond _ a b=>raws a++raws b
 |.block _ b=>raws b
 |.loop b=>raws b
 |.raw c=>[c]
 |_=>[]
noncomputable def rawAt (f k:Nat):Code:=match U.fn f with
 |some fn=>match fn.body with
  |some c=>((raws (rc U c))[k]?).getD .skip
  |none=>.skip
 |none=>.skip
def r28_l0:RC:=(.seq (.seq (.ops [om 9 5,om 10 1,o 11 (.lenL (.t 10)),o 12 (.bin .lss 3 false (.t 9) (.t 11))]) (.cond (.t 12) .skip (.exit 0))) (.seq (.block 1 (.seq (.drw 8 [om 15 1,om 16 5,o 17 (.ixa 1 (.t 15) (.t 16)),o 18 (.ld1 (.t 17)),om 19 0,o 20 (.bin .shl 3 true (.v (.int .i64 1)) (.t 19)),o 21 (.bin .sub 3 true (.t 20) (.v (.int .i64 1))),o 22 (.call 94 [(.t 18),(.v (.int .i64 0)),(.t 21)])]) (.cond (.t 22) (.seq (.ops [o 4 (.mov (.v (.int .i64 3)))]) .ret) .skip))) (.ops [om 13 5,o 14 (.bin .add 3 true (.t 13) (.v (.int .i64 1))),om 5 14])))
def r28:RC:=(.seq (.ops [o 4 (.mov (.v (.int .i64 0)))]) (.seq (.seq (.ops [om 6 1,o 7 (.lenL (.t 6)),o 8 (.bin .gtr 3 true (.t 7) (.v (.int .i64 4096)))]) (.cond (.t 8) (.seq (.ops [o 4 (.mov (.v (.int .i64 5)))]) .ret) .skip)) (.seq (.seq (.ops [o 5 (.mov (.v (.int .i64 0)))]) (.block 0 (.loop r28_l0))) (.seq (.ops [o 4 (.mov (.v (.int .i64 0)))]) .ret))))
theorem k28:fnRC 28=some ([.tmp 4],r28):=by kernel_rfl
def r54:RC:=(.seq (.ops [o 8 (.mov (.v (.bool false)))]) (.seq (.seq (.ops [om 9 2,o 10 (.bin .neq 3 true (.t 9) (.v (.int .i64 0)))]) (.cond (.t 10) (.seq (.ops [om 11 0,o 12 (.bin .eql 3 true (.t 11) (.v (.int .i64 0))),om 13 12,oT 14 13 (.mov (.t 1)),oT 15 13 (.mov (.t 2)),oT 16 13 (.bin .eql 3 false (.t 14) (.t 15)),o 17 (.pick (.t 13) (.t 16) (.v (.bool false))),om 8 17]) .ret) .skip)) (.seq (.ops [om 18 1,o 19 (.bin .eql 26 true (.t 18) (.v (.int .i64 0))),om 20 19,oT 21 20 (.mov (.t 0)),oT 22 20 (.mov (.t 3)),oT 23 20 (.bin .eql 3 false (.t 21) (.t 22)),o 24 (.pick (.t 20) (.t 23) (.v (.bool false))),om 8 24]) .ret)))
theorem k54:fnRC 54=some ([.tmp 8],r54):=by kernel_rfl
def r56:RC:=(.seq (.ops [o 4 (.mov (.v (.bool false)))]) (.seq (.ops [om 5 0,om 6 1,o 7 (.call 109 [(.t 5),(.t 6)]),om 4 7]) .ret))
theorem k56:fnRC 56=some ([.tmp 4],r56):=by kernel_rfl
def r91:RC:=(.seq (.ops [o 2 (.box 3 (.t 0)),o 4 (.mov (.v (.int .i64 0)))]) (.seq (.seq (.ops [om 5 1,o 6 (.lenL (.t 5)),o 7 (.bin .gtr 3 true (.t 6) (.v (.int .i64 4096)))]) (.cond (.t 7) (.seq (.ops [o 4 (.mov (.v (.int .i64 5)))]) .ret) .skip)) (.seq (.ops [om 8 1,o 9 (.mkf 159 [] [(.t 2)]),o 10 (.call 125 [(.t 8),(.t 9)]),o 11 (.call 116 [(.t 10),(.v (.int .i64 3))]),om 4 11]) .ret)))
theorem k91:fnRC 91=some ([.tmp 4],r91):=by kernel_rfl
def r109_l0:RC:=(.seq (.seq (.ops [om 11 5,om 12 0,o 13 (.lenL (.t 12)),o 14 (.bin .lss 3 false (.t 11) (.t 13))]) (.cond (.t 14) .skip (.exit 0))) (.seq (.block 1 (.seq (.drw 9 [om 17 0,om 18 5,o 19 (.ixa 1 (.t 17) (.t 18)),o 20 (.ld1 (.t 19)),om 21 1,om 22 5,o 23 (.ixa 1 (.t 21) (.t 22)),o 24 (.ld1 (.t 23)),o 25 (.bin .neq 3 false (.t 20) (.t 24))]) (.cond (.t 25) (.seq (.ops [o 4 (.mov (.v (.bool false)))]) .ret) .skip))) (.ops [om 15 5,o 16 (.bin .add 3 true (.t 15) (.v (.int .i64 1))),om 5 16])))
def r109:RC:=(.seq (.ops [o 4 (.mov (.v (.bool false)))]) (.seq (.seq (.ops [om 6 0,o 7 (.lenL (.t 6)),om 8 1,o 9 (.lenL (.t 8)),o 10 (.bin .neq 3 false (.t 7) (.t 9))]) (.cond (.t 10) (.seq (.ops [o 4 (.mov (.v (.bool false)))]) .ret) .skip)) (.seq (.seq (.ops [o 5 (.mov (.v (.int .i64 0)))]) (.block 0 (.loop r109_l0))) (.seq (.ops [o 4 (.mov (.v (.bool true)))]) .ret))))
theorem k109:fnRC 109=some ([.tmp 4],r109):=by kernel_rfl
def r125:RC:=(.seq (.ops [o 4 (.mov (.v (.bool false)))]) (.seq (.ops [om 5 0,om 6 1,o 7 (.call 179 [(.t 5),(.t 6)]),o 8 (.bin .geq 3 true (.t 7) (.v (.int .i64 0))),om 4 8]) .ret))
theorem k125:fnRC 125=some ([.tmp 4],r125):=by kernel_rfl
def r159:RC:=(.seq (.ops [o 3 (.mov (.v (.bool false)))]) (.seq (.ops [om 4 0,o 5 (.bin .lss 3 true (.t 4) (.v (.int .i64 0))),om 6 5,oF 7 6 (.mov (.t 0)),oF 8 6 (.ld1 (.t 1)),oF 9 6 (.bin .shl 3 true (.v (.int .i64 1)) (.t 8)),oF 10 6 (.bin .geq 3 false (.t 7) (.t 9)),o 11 (.pick (.t 6) (.v (.bool true)) (.t 10)),om 3 11]) .ret))
theorem k159:fnRC 159=some ([.tmp 3],r159):=by kernel_rfl
def r179_l0:RC:=(.seq (.ops [o 9 (.bin .lss 3 false (.t 8) (.t 7))]) (.seq (.cond (.t 9) .skip (.exit 0)) (.seq (.block 1 (.seq (.ops [om 10 8,om 5 10]) (.seq (.ops [om 11 1,om 12 0,om 13 5,o 14 (.ixa 1 (.t 12) (.t 13)),o 15 (.ld1 (.t 14)),o 16 (.callv (.t 11) [(.t 15)])]) (.cond (.t 16) (.seq (.ops [om 17 5,om 4 17]) .ret) .skip)))) (.ops [o 18 (.bin .add 3 true (.t 8) (.v (.int .i64 1))),om 8 18]))))
def r179:RC:=(.seq (.ops [o 4 (.mov (.v (.int .i64 0)))]) (.seq (.seq (.ops [om 6 0,o 7 (.lenL (.t 6)),o 8 (.mov (.v (.int .i64 0)))]) (.block 0 (.loop r179_l0))) (.seq (.ops [o 4 (.mov (.v (.int .i64 (-1))))]) .ret)))
theorem k179:fnRC 179=some ([.tmp 4],r179):=by kernel_rfl
end Go.Am
namespace Go.Am
open Go
variable [MaxLen]
set_option maxRecDepth 100000
def r94:RC:=(.seq (.ops [o 6 (.mov (.v (.bool false)))]) (.seq (.ops [om 7 0,om 8 1,o 9 (.bin .lss 3 false (.t 7) (.t 8)),om 10 9,oF 11 10 (.mov (.t 0)),oF 12 10 (.mov (.t 2)),oF 13 10 (.bin .gtr 3 false (.t 11) (.t 12)),o 14 (.pick (.t 10) (.v (.bool true)) (.t 13)),om 6 14]) .ret))
theorem k94:fnRC 94=some ([.tmp 6],r94):=by kernel_rfl
def r116:RC:=(.seq (.ops [o 4 (.mov (.v (.int .i64 0)))]) (.seq (.seq (.ops [om 5 0]) (.cond (.t 5) (.seq (.ops [om 6 1,om 4 6]) .ret) .skip)) (.seq (.ops [o 4 (.mov (.v (.int .i64 0)))]) .ret)))
theorem k116:fnRC 116=some ([.tmp 4],r116):=by kernel_rfl
def r124:RC:=(.seq (.ops [o 6 (.mov (.v (.int .i64 0)))]) (.seq (.ops [om 7 0,om 8 1,o 9 (.bin .lss 3 false (.t 7) (.t 8)),om 10 9,oF 11 10 (.mov (.t 0)),oF 12 10 (.mov (.t 2)),oF 13 10 (.bin .gtr 3 false (.t 11) (.t 12)),o 14 (.pick (.t 10) (.v (.bool true)) (.t 13)),o 15 (.call 116 [(.t 14),(.v (.int .i64 3))]),om 6 15]) .ret))
theorem k124:fnRC 124=some ([.tmp 6],r124):=by kernel_rfl
def r89_l0:RC:=(.seq (.ops [o 8 (.bin .lss 3 false (.t 7) (.t 6))]) (.seq (.cond (.t 8) .skip (.exit 0)) (.seq (.block 1 (.seq (.ops [o 9 (.ixa 1 (.t 5) (.t 7)),o 10 (.ld1 (.t 9)),om 4 10]) (.seq (.ops [om 11 4,o 12 (.bin .neq 26 true (.t 11) (.v (.int .i64 0)))]) (.cond (.t 12) (.seq (.ops [om 13 4,om 2 13]) .ret) .skip)))) (.ops [o 14 (.bin .add 3 true (.t 7) (.v (.int .i64 1))),om 7 14]))))
def r89:RC:=(.seq (.ops [o 2 (.mov (.v (.int .i64 0)))]) (.seq (.seq (.ops [om 5 0,o 6 (.lenL (.t 5)),o 7 (.mov (.v (.int .i64 0)))]) (.block 0 (.loop r89_l0))) (.seq (.ops [o 2 (.mov (.v (.int .i64 0)))]) .ret)))
theorem k89:fnRC 89=some ([.tmp 2],r89):=by kernel_rfl
end Go.Am
namespace Go.Am
open Go Go.Proofs
variable [MaxLen]
set_option maxRecDepth 100000
theorem ld_25 (a:AV)(s:St):loadA U 25 a s=ldn 2 a s:=loadA_n U ag_25 sz_25 a s
theorem ld_31 (a:AV)(s:St):loadA U 31 a s=ldn 2 a s:=loadA_n U ag_31 sz_31 a s
theorem ld_39 (a:AV)(s:St):loadA U 39 a s=ldn 7 a s:=loadA_n U ag_39 sz_39 a s
theorem ld_48 (a:AV)(s:St):loadA U 48 a s=ldn 7 a s:=loadA_n U ag_48 sz_48 a s
theorem ld_69 (a:AV)(s:St):loadA U 69 a s=ldn 3 a s:=loadA_n U ag_69 sz_69 a s
theorem ld_72 (a:AV)(s:St):loadA U 72 a s=ldn 3 a s:=loadA_n U ag_72 sz_72 a s
theorem ld_116 (a:AV)(s:St):loadA U 116 a s=ldn 2 a s:=loadA_n U ag_116 sz_116 a s
theorem ag_131:isAggT U 131=some true:=by kernel_rfl
theorem sz_131:size U 131=some 2:=by kernel_rfl
theorem ld_131 (a:AV)(s:St):loadA U 131 a s=ldn 2 a s:=loadA_n U ag_131 sz_131 a s
theorem ld_152 (a:AV)(s:St):loadA U 152 a s=ldn 3 a s:=loadA_n U ag_152 sz_152 a s
theorem ag_160:isAggT U 160=some true:=by kernel_rfl
theorem sz_160:size U 160=some 6:=by kernel_rfl
theorem ld_160 (a:AV)(s:St):loadA U 160 a s=ldn 6 a s:=loadA_n U ag_160 sz_160 a s
theorem ag_167:isAggT U 167=some true:=by kernel_rfl
theorem sz_167:size U 167=some 3:=by kernel_rfl
theorem ld_167 (a:AV)(s:St):loadA U 167 a s=ldn 3 a s:=loadA_n U ag_167 sz_167 a s
theorem ld_176 (a:AV)(s:St):loadA U 176 a s=ldn 5 a s:=loadA_n U ag_176 sz_176 a s
theorem ag_305:isAggT U 305=some true:=by kernel_rfl
theorem sz_305:size U 305=some 256:=by kernel_rfl
theorem ld_305 (a:AV)(s:St):loadA U 305 a s=ldn 256 a s:=loadA_n U ag_305 sz_305 a s
theorem gateV_false (x:Option AV)(s:St):gateV false x s=some (undef,s):=(fun h=>h) rfl
theorem gateC_false (X:Cx)(x:Option AV)(f:FuncId)(args:List AV)(s:St):gateC X false x f args s=some (undef,s):=(fun h=>h) rfl
theorem gateV_true (x:Option AV)(s:St):gateV true x s=pureO x s:=(fun h=>h) rfl
theorem gateC_true (X:Cx)(x:Option AV)(f:FuncId)(args:List AV)(s:St):gateC X true x f args s=callK X x f args s:=(fun h=>h) rfl
def St.upto (s:St)(k:Nat):St:={ s with next:=k }
theorem upto_get (s:St)(k j:Nat):(s.upto k).get j=s.get j:=(fun h=>h) rfl
theorem upto_next (s:St)(k:Nat):(s.upto k).next=k:=(fun h=>h) rfl
theorem go_drw_upto {X:Cx}{β:Type}(fin:Fl→β)(ks:List K)(e:Env)(s:St)(n:Nat)(l:List RO):go X fin ks (.drw n l) e s=bif noneR s.next s l then goD' X fin ks s.next l e (s.upto (s.next+n)) else stuck X fin ks:=go_drw X fin ks e s n l
theorem gb_none {n:Nat}(h:4≤n):U.gbase n=none:=by
 rw[U_gbase];unfold gbU gcell
 match n,h with
 |n+4,_=>rfl
def Fr (s:St):Prop:=∀j,s.next≤j→s.get j=none
theorem Fr.at {s:St}(h:Fr s)(k:Nat):s.get (s.next+k)=none:=h _ (by omega)
theorem Fr.own:Fr (ownSt U):=fun j hj=>by
 rw[own_get];rw[own_next,U_glob] at hj;exact gb_none (by omega)
theorem Fr.new {s:St}(h:Fr s)(x:Blk):Fr (s.new x):=fun j hj=>by
 rw[next_new] at hj;rw[get_new,if_neg (by omega)];exact h j (by omega)
theorem Fr.put {s:St}(h:Fr s){k:Nat}(hk:k<s.next)(x:Blk):Fr (s.put k x):=fun j hj=>by
 rw[next_put] at hj;rw[get_put,if_neg (by omega)];exact h j (by omega)
theorem Fr.upto {s:St}(h:Fr s){k:Nat}(hk:s.next≤k):Fr (s.upto k):=fun j hj=>by
 rw[upto_next] at hj;rw[upto_get];exact h j (by omega)
attribute [go_sem ↓ high] go_drw_upto
attribute [go_sem ↓] upto_get upto_next
attribute [go_sem] gb_none Option.isNone_none
attribute [go_sem ↓] gateV_false gateC_false gateV_true gateC_true
attribute [go_sem] ld_25 ld_31 ld_39 ld_48 ld_69 ld_72 ld_116 ag_131 sz_131 ld_131 ld_152 ag_160 sz_160 ld_160 ag_167 sz_167 ld_167 ld_176 ag_305 sz_305 ld_305
end Go.Am
namespace Go.Am
open Go
inductive Kd where
 |high|low|rise|fall|pattern|enter|pulse|gap|idle|setup|runt|not_|all_|any_|other
 deriving DecidableEq
structure Uses where
 a:Bool
 b:Bool
 mi:Bool
 ma:Bool
 pat:Bool
 kids:Bool
def Kd.known:Kd→Bool
 |.other=>false
 |_=>true
def outside (n a b:Int):Bool:=decide (n<a)||decide (n>b)
def firstOf:List Int→Int
 |[]=>0
 |e::l=>br (e != 0) e (firstOf l)
def within (n a b:Int):Int:=br (decide (n<a)||decide (n>b)) 3 0
theorem br_r {β:Type}{p:Bool}{x y y':β}(h:p=false→y=y'):br p x y=br p x y':=by
 cases p
 ·rw[h rfl]
 ·rfl
end Go.Am
namespace Go.Am
open Go
variable [MaxLen]
set_option maxRecDepth 100000
set_option maxHeartbeats 4000000
theorem br_int (k:IntKind)(p:Bool)(x y:Int):br p (AV.int k x) (AV.int k y)=.int k (br p x y):=by cases p <;> rfl
theorem br_bool (p x y:Bool):br p (AV.bool x) (AV.bool y)=.bool (br p x y):=by cases p <;> rfl
theorem br_str (p:Bool)(x y:Str):br p (AV.str x) (AV.str y)=.str (br p x y):=by cases p <;> rfl
attribute [go_sem] br_int br_bool br_str
theorem c94 (n a b:Int):calV U 94 [.int .i64 n,.int .i64 a,.int .i64 b]=some (.bool (outside n a b)):=by
 refine pure_go k94 (by kernel_rfl) rfl ?_
 simp +contextual only[go_sem,↓reduceIte,r94]
 rfl
theorem c116 (p:Bool)(n:Int):calV U 116 [.bool p,.int .i64 n]=some (.int .i64 (br p n 0)):=by
 refine pure_go k116 (by kernel_rfl) rfl ?_
 simp +contextual only[go_sem,↓reduceIte,r116]
theorem c124 (n a b:Int):calV U 124 [.int .i64 n,.int .i64 a,.int .i64 b]=some (.int .i64 (within n a b)):=by
 refine pure_go k124 (by kernel_rfl) rfl ?_
 simp +contextual only[go_sem,↓reduceIte,r124,c116]
 rfl
theorem loop_to {X:Cx}{β:Type}{fin:Fl→β}{ks:List K} [Stat] {b:RC}{σ:Type}(m:σ→Nat)(R:σ→β)(I:σ→Env→St→Prop)(x:σ){r:β}{e:Env}{s:St}
  (h:∀(L:RC) (x:σ) (e:Env) (s:St),I x e s→(∀(y:σ) (e':Env) (s':St),m y<m x→I y e' s'→goL X fin ks L e' s'=R y)→go X fin (.lp L::ks) b e s=R x)
  (hr:R x=r)(hI:I x e s):goL X fin ks b e s=r:=by
 rw[←hr];exact loop_rule X fin ks m I R h x hI
theorem ints_len (l:List Int):(ints l).length=l.length:=by simp[ints]
theorem ints_get (l:List Int)(i:Nat):(ints l)[i]? = (l[i]?).map (.int .i64 ·):=by simp[ints]
theorem nat_lt_dec (a b:Nat):decide ((a:Int)<(b:Int))=decide (a<b):=by congr 1;apply propext;omega
theorem g89 (l:List Int)(hlen:l.length<2^62):go U (finP U [.tmp 2]) [] r89 (bindArgs 0 [.fz (ints l)] .nil) (ownSt U)=some (.int .i64 (firstOf l)):=by
 simp +contextual only[go_sem,↓reduceIte,r89]
 refine loop_to (σ:=Nat) (fun i=>l.length-i) (fun i=>some (AV.int .i64 (firstOf (l.drop i)))) (fun i e s=>i≤l.length∧Env.get e 5=.fz (ints l)∧Env.get e 6=.int .i64 l.length∧Env.get e 7=.int .i64 i) 0 ?_ rfl ?_
 ·rintro L i e s ⟨hi,h5,h6,h7⟩ ih
  by_cases hd:i<l.length
  ·have hx:(ints l)[i]? = some (.int .i64 l[i]):=by rw[ints_get,List.getElem?_eq_getElem hd];rfl
   have hw:IntKind.i64.wrap ((i:Int)+1)=((i+1:Nat):Int):=by rw[wrap_i64] <;> omega
   simp +contextual only[go_sem,↓reduceIte,r89_l0,h5,h6,h7,nat_lt_dec,hd,hx]
   rw[List.drop_eq_getElem_cons hd,firstOf]
   cases hb:l[i] != 0
   ·simp only[go_sem,hw]
    refine ih (i+1) _ _ (by omega) ⟨by omega,?_,?_,?_⟩ <;> simp +contextual only[go_sem,↓reduceIte,h5,h6,h7,hw]
   ·simp only[go_sem]
  ·have:i=l.length:=by omega
   subst this
   simp +contextual only[go_sem,↓reduceIte,r89_l0,h5,h6,h7,nat_lt_dec,Nat.lt_irrefl]
   rw[List.drop_length];rfl
 ·refine⟨Nat.zero_le _,?_,?_,?_⟩ <;> simp +contextual only[go_sem,↓reduceIte,ints_len] <;> rfl
theorem Cond.ind {P:Cond→Prop}(h:∀k a b mi ma p nl kids,(∀x∈kids,P x)→P (.mk k a b mi ma p nl kids)):∀c,P c:=by
 intro c
 exact Cond.rec (motive_1:=P) (motive_2:=fun l=>∀x∈l,P x) (fun k a b mi ma p nl kids ih=>h k a b mi ma p nl kids ih) (fun x hx=>by cases hx)
  (fun c l h1 h2 x hx=>by
   rcases List.mem_cons.1 hx with rfl|hx
   ·exact h1
   ·exact h2 x hx) c
theorem wrap_succ {i n:Nat}(h:i<n)(hn:n<2^62):IntKind.i64.wrap ((i:Int)+1)=((i+1:Nat):Int):=by rw[wrap_i64] <;> omega
end Go.Am
namespace Go.Am
open Go
variable [MaxLen]
set_option maxRecDepth 100000
set_option maxHeartbeats 8000000
theorem brI_some (k:IntKind)(p:Bool)(x y:Int):some (AV.int k (br p x y))=br p (some (.int k x)) (some (.int k y)):=by cases p <;> rfl
end Go.Am
namespace Go.Am
open Go
variable [MaxLen]
set_option maxRecDepth 100000
end Go.Am
namespace Go.Am
open Go
variable [MaxLen]
set_option maxRecDepth 100000
set_option maxHeartbeats 8000000
def lookK (X:Cx)(t:TypeId)(ok:Bool)(m k:Option AV)(s:St):Option (AV×St):=match m,k with
 |some m,some k=>pureO (lookupA X t m k ok s) s
 |_,_=>none
theorem opA_lookup (X:Cx)(ex:Ex)(e:Env)(s:St)(t:TypeId)(m k:Operand)(ok:Bool):opA X ex e (.lookup t m k ok) s=lookK X t ok (eval X e m) (eval X e k) s:=by
 unfold lookK
 simp only[opA]
 rfl
theorem lookK_some (X:Cx)(t:TypeId)(ok:Bool)(m k:AV)(s:St):lookK X t ok (some m) (some k) s=pureO (lookupA X t m k ok s) s:=(fun h=>h) rfl
attribute [go_sem] opA_lookup lookK_some
theorem sls_hi (b:Str)(k:IntKind)(n:Int):slRS (.str b) none (some (.int k n))=if 0≤n∧n≤b.length then some (.str (b.take n.toNat)) else none:=by
 simp only[slRS,boundA]
 by_cases h:0≤n∧n≤b.length
 ·simp[h]
 ·simp[h]
theorem sls_lo (b:Str)(k:IntKind)(n:Int):slRS (.str b) (some (.int k n)) none=if 0≤n∧n≤b.length then some (.str (b.drop n.toNat)) else none:=by
 simp only[slRS,boundA]
 by_cases h:0≤n∧n≤b.length
 ·simp[h]
 ·simp[h]
attribute [go_sem] sls_hi sls_lo
theorem cz_of {f:FuncId}{us:List AV}{v:AV}(h:calV U f us=some v)(hp:isPure f=true)(hst:stills us=true)(hf:flat v=true)(s:St):calZ U f (some us) s=some (v,s):=by
 have h:=calV_eq h (ownSt U)
 obtain⟨p1,p2⟩:=isPure_of hp
 unfold cal callF at h
 rw[p2] at h
 simp only[p1,if_true,callP,frzArgs,hst] at h
 split at h
 ·rename_i w hq
  cases h
  refine calZ_some U s ?_
  unfold callQ at hq ⊢
  split at hq
  ·rename_i v0 s' hB
   simp only[if_true] at hq
   have:=flat_frz s' _ _ _ hq hf
   subst this
   simp[hf]
  ·cases hq
 ·cases h
theorem cz89 (l:List Int)(hl:l.length<2^62)(s:St):calZ U 89 (some [.fz (ints l)]) s=some (.int .i64 (firstOf l),s) :=
 cz_of (pure_go k89 (by kernel_rfl) (by simp[stills,still]) (g89 l hl)) (by kernel_rfl) (by simp[stills,still]) rfl s
theorem cz89_2 (a b:Int)(s:St):calZ U 89 (some [.fz [.int .i64 a,.int .i64 b]]) s=some (.int .i64 (firstOf [a,b]),s):=cz89 [a,b] (by simp) s
theorem cz89_3 (a b c:Int)(s:St):calZ U 89 (some [.fz [.int .i64 a,.int .i64 b,.int .i64 c]]) s=some (.int .i64 (firstOf [a,b,c]),s):=cz89 [a,b,c] (by simp) s
theorem cz89_4 (a b c d:Int)(s:St):calZ U 89 (some [.fz [.int .i64 a,.int .i64 b,.int .i64 c,.int .i64 d]]) s=some (.int .i64 (firstOf [a,b,c,d]),s):=cz89 [a,b,c,d] (by simp) s
theorem z89 {args:List AV}{s:St}(h:stills args=false):callK U (calV U 89 args) 89 args s=calZ U 89 (mapO (frz U s 40) args) s:=z_of (by kernel_rfl) s h
def r25_l0:RC:=(.seq (.seq (.ops [om 4 3,om 5 0,o 6 (.lenL (.t 5)),o 7 (.bin .lss 3 false (.t 4) (.t 6))]) (.cond (.t 7) .skip (.exit 0))) (.seq (.block 1 (.seq (.ops [om 10 0,om 11 3,o 12 (.ixa 1 (.t 10) (.t 11)),o 13 (.ld1 (.t 12)),o 14 (.bin .neq 3 true (.t 13) (.v (.int .i64 0)))]) (.cond (.t 14) (.seq (.ops [om 15 0,om 16 3,o 17 (.ixa 1 (.t 15) (.t 16)),o 18 (.ld1 (.t 17)),om 2 18]) .ret) .skip))) (.ops [om 8 3,o 9 (.bin .add 3 true (.t 8) (.v (.int .i64 1))),om 3 9])))
def r25:RC:=(.seq (.ops [o 2 (.mov (.v (.int .i64 0)))]) (.seq (.seq (.ops [o 3 (.mov (.v (.int .i64 0)))]) (.block 0 (.loop r25_l0))) (.seq (.ops [o 2 (.mov (.v (.int .i64 0)))]) .ret)))
theorem k25:fnRC 25=some ([.tmp 2],r25):=by kernel_rfl
def r37:RC:=(.seq (.ops [o 4 (.mov (.v (.int .i64 0)))]) (.seq (.seq (.ops [om 5 0]) (.cond (.t 5) (.seq (.ops [om 6 1,om 4 6]) .ret) .skip)) (.seq (.ops [o 4 (.mov (.v (.int .i64 0)))]) .ret)))
theorem k37:fnRC 37=some ([.tmp 4],r37):=by kernel_rfl
def r45:RC:=(.seq (.ops [o 2 (.box 69 (.t 0)),o 3 (.box 69 (.t 1)),o 4 (.al [(.int .i64 0),.nils,.nils] 69),o 5 (.mov (.v (.int .i64 0)))]) (.seq (.ops [o 6 (.ldn 3 (.t 2)),o 7 (.ldn 3 (.t 3)),o 8 (.call 111 [(.t 6),(.t 7),(.v (.fn (.func 112) [] []))]),o 9 (.ext (.t 8) 0),o 10 (.ext (.t 8) 1),oS (.st 3 (.t 4) (.t 9)),om 5 10]) .ret))
theorem k45:fnRC 45=some ([.cell 4 69,.tmp 5],r45):=by kernel_rfl
def r46:RC:=(.seq (.ops [o 2 (.box 69 (.t 0)),o 3 (.box 69 (.t 1)),o 4 (.al [(.int .i64 0),.nils,.nils] 69),o 5 (.mov (.v (.int .i64 0)))]) (.seq (.ops [o 6 (.ldn 3 (.t 2)),o 7 (.ldn 3 (.t 3)),o 8 (.call 111 [(.t 6),(.t 7),(.v (.fn (.func 113) [] []))]),o 9 (.ext (.t 8) 0),o 10 (.ext (.t 8) 1),oS (.st 3 (.t 4) (.t 9)),om 5 10]) .ret))
theorem k46:fnRC 46=some ([.cell 4 69,.tmp 5],r46):=by kernel_rfl
def r47:RC:=(.seq (.ops [o 1 (.box 69 (.t 0)),o 2 (.mov (.v .nils)),o 3 (.mov (.v (.int .i64 0)))]) (.seq (.seq (.ops [o 7 (.ldn 3 (.t 1)),o 8 (.call 58 [(.t 7)]),om 4 8]) (.seq (.ops [om 9 4,o 10 (.bin .neq 26 true (.t 9) (.v (.int .i64 0)))]) (.cond (.t 10) (.seq (.ops [om 11 4,o 2 (.mov (.v .nils)),om 3 11]) .ret) .skip))) (.seq (.ops [o 13 (.ldn 3 (.t 1)),o 14 (.ldn 3 (.t 1)),o 15 (.mkf 115 [] [(.t 1)]),o 16 (.call 114 [(.t 13),(.t 14),(.t 15)]),om 12 16,o 17 (.ext (.t 12) 0),o 18 (.ext (.t 12) 1),om 5 17,om 6 18]) (.seq (.ops [om 19 6,om 20 6,o 21 (.lenL (.t 20)),o 22 (.bin .eql 3 true (.t 21) (.v (.int .i64 0))),o 23 (.call 116 [(.t 22),(.v (.int .i64 7))]),om 2 19,om 3 23]) .ret))))
theorem k47:fnRC 47=some ([.tmp 2,.tmp 3],r47):=by kernel_rfl
def r48_l0:RC:=(.seq (.ops [o 47 (.bin .lss 3 false (.t 46) (.t 45))]) (.seq (.cond (.t 47) .skip (.exit 4)) (.seq (.block 5 (.seq (.ops [om 48 46,o 49 (.ixa 1 (.t 44) (.t 46)),o 50 (.ld1 (.t 49)),om 12 48,om 13 50]) (.seq (.seq (.ops [om 51 13]) (.cond (.t 51) (.seq (.ops [om 52 8,om 2 52,o 3 (.mov (.v (.int .i64 0)))]) .ret) .skip)) (.drw 10 [o 53 (.ld1 (.t 7)),o 54 (.fa 1 (.t 1)),o 55 (.ld1 (.t 54)),om 56 11,o 57 (.ixa 1 (.t 55) (.t 56)),o 58 (.ld1 (.t 57)),om 59 12,o 60 (.ixa 1 (.t 58) (.t 59)),o 61 (.ld1 (.t 60)),
 ⟨some 62,none,none,true,.callv (.t 53) [(.t 61)]⟩])))) (.ops [o 63 (.bin .add 3 true (.t 46) (.v (.int .i64 1))),om 46 63]))))
def r48_l1:RC:=(.seq (.ops [o 37 (.bin .lss 3 false (.t 36) (.t 35))]) (.seq (.cond (.t 37) .skip (.exit 2)) (.seq (.block 3 (.seq (.ops [o 38 (.ixa 1 (.t 34) (.t 36)),o 39 (.ld1 (.t 38)),om 11 39]) (.seq (.ops [o 40 (.fa 2 (.t 1)),o 41 (.ld1 (.t 40)),om 42 11,o 43 (.ixa 1 (.t 41) (.t 42)),o 44 (.ld1 (.t 43)),o 45 (.lenL (.t 44)),o 46 (.mov (.v (.int .i64 0)))]) (.block 4 (.loop r48_l0))))) (.ops [o 64 (.bin .add 3 true (.t 36) (.v (.int .i64 1))),om 36 64]))))
def r48_l2:RC:=(.seq (.seq (.ops [o 28 (.ld1 (.t 6)),o 29 (.lenL (.t 28)),o 30 (.bin .gtr 3 true (.t 29) (.v (.int .i64 0)))]) (.cond (.t 30) .skip (.exit 0))) (.seq (.block 1 (.seq (.ops [o 33 (.ld1 (.t 6)),om 9 33]) (.seq (.ops [oS (.st 1 (.t 6) (.v .nils))]) (.seq (.ops [om 34 9,o 35 (.lenL (.t 34)),o 36 (.mov (.v (.int .i64 0)))]) (.block 2 (.loop r48_l1)))))) (.ops [om 31 8,o 32 (.bin .add 3 true (.t 31) (.v (.int .i64 1))),om 8 32])))
def r48:RC:=(.seq (.ops [o 1 (.box 69 (.t 0)),o 2 (.mov (.v (.int .i64 0))),o 3 (.mov (.v (.int .i64 0)))]) (.seq (.seq (.ops [o 14 (.ldn 3 (.t 1)),o 15 (.call 58 [(.t 14)]),om 4 15]) (.seq (.ops [om 16 4,o 17 (.bin .neq 26 true (.t 16) (.v (.int .i64 0)))]) (.cond (.t 17) (.seq (.ops [om 18 4,o 2 (.mov (.v (.int .i64 0))),om 3 18]) .ret) .skip))) (.seq (.ops [o 19 (.fa 1 (.t 1)),o 20 (.ld1 (.t 19)),o 21 (.lenL (.t 20)),o 22 (.raw (.makeSlice 43 (.tmp 21) (.tmp 21))),o 5 (.al [.nils] 43),oS (.st 1 (.t 5) (.t 22))]) (.seq (.ops [o 6 (.al [.nils] 40)]) (.seq (.ops [o 23 (.mkf 117 [] [(.t 5),(.t 6)]),o 7 (.al [.nilfn] 189),oS (.st 1 (.t 7) (.t 23))]) (.seq (.ops [o 24 (.ldn 3 (.t 1)),o 25 (.ldn 3 (.t 1)),o 26 (.mkf 118 [] [(.t 1),(.t 7)]),o 27 (.call 114 [(.t 24),(.t 25),(.t 26)])]) (.seq (.seq (.ops [o 8 (.mov (.v (.int .i64 1)))]) (.block 0 (.loop r48_l2))) (.seq (.ops [o 2 (.mov (.v (.int .i64 0))),o 3 (.mov (.v (.int .i64 7)))]) .ret))))))))
theorem k48:fnRC 48=some ([.tmp 2,.tmp 3],r48):=by kernel_rfl
def r49:RC:=(.seq (.ops [o 2 (.box 72 (.t 0)),o 3 (.box 72 (.t 1)),o 4 (.mov (.v (.int .i64 0)))]) (.seq (.drw 13 [o 5 (.ldn 3 (.t 2)),o 6 (.call 50 [(.t 5)]),o 7 (.ldn 3 (.t 3)),o 8 (.call 50 [(.t 7)]),o 9 (.fa 0 (.t 2)),o 10 (.ld1 (.t 9)),o 11 (.fa 0 (.t 3)),o 12 (.ld1 (.t 11)),o 13 (.bin .neq 3 false (.t 10) (.t 12)),o 14 (.call 37 [(.t 13),(.v (.int .i64 2))]),
 ⟨some 15,none,some 10,false,.bsl 3 1 3 [(.int .i64 0),(.int .i64 0),(.int .i64 0)] [(0,1,(.t 6)),(1,1,(.t 8)),(2,1,(.t 14))]⟩,o 16 (.call 25 [(.t 15)]),om 4 16]) .ret))
theorem k49:fnRC 49=some ([.tmp 4],r49):=by kernel_rfl
def r103:RC:=(.seq (.ops [o 1 (.box 69 (.t 0)),o 2 (.al [(.int .i64 0),.nils,.nils] 69),o 3 (.mov (.v (.int .i64 0)))]) (.seq (.seq (.ops [o 4 (.fa 1 (.t 1)),o 5 (.ld1 (.t 4)),o 6 (.lenL (.t 5)),o 7 (.bin .gtr 3 true (.t 6) (.v (.int .i64 256)))]) (.cond (.t 7) (.seq (.ops [o 8 (.bld [(.int .i64 0),.nils,.nils] []),oS (.st 3 (.t 2) (.t 8)),o 3 (.mov (.v (.int .i64 5)))]) .ret) .skip)) (.seq (.ops [o 9 (.ldn 3 (.t 1)),oS (.st 3 (.t 2) (.t 9)),o 3 (.mov (.v (.int .i64 0)))]) .ret)))
theorem k103:fnRC 103=some ([.cell 2 69,.tmp 3],r103):=by kernel_rfl
def r112:RC:=(.seq (.ops [o 4 (.mov (.v (.bool false)))]) (.seq (.ops [om 5 0,om 6 5,oF 7 6 (.mov (.t 1)),o 8 (.pick (.t 6) (.v (.bool true)) (.t 7)),om 4 8]) .ret))
theorem k112:fnRC 112=some ([.tmp 4],r112):=by kernel_rfl
def r113:RC:=(.seq (.ops [o 4 (.mov (.v (.bool false)))]) (.seq (.ops [om 5 0,om 6 5,oT 7 6 (.mov (.t 1)),o 8 (.pick (.t 6) (.t 7) (.v (.bool false))),om 4 8]) .ret))
theorem k113:fnRC 113=some ([.tmp 4],r113):=by kernel_rfl
def r114_l0:RC:=(.seq (.ops [o 38 (.bin .lss 3 false (.t 37) (.t 36))]) (.seq (.cond (.t 38) .skip (.exit 2)) (.seq (.block 3 (.seq (.ops [om 39 37,om 15 39]) (.seq (.seq (.ops [om 40 2,o 41 (.ldn 2 (.t 14)),om 42 15,o 43 (.callv (.t 40) [(.t 41),(.t 42)]),o 44 (.un .not (.t 43))]) (.cond (.t 44) (.seq (.ops [om 45 13,om 46 15,o 47 (.bsl 3 1 1 [(.int .i64 0)] [(0,1,(.t 46))]),om 11 45,om 12 47]) (.exit 0)) .skip)) (.seq (.drw 21 [o 48 (.fa 1 (.t 3)),o 49 (.ld1 (.t 48)),o 50 (.ixp 2 1 (.t 14) (.v (.int .i64 0))),o 51 (.ld1 (.t 50)),o 52 (.ixa 1 (.t 49) (.t 51)),o 53 (.ld1 (.t 52)),om 54 15,o 55 (.ixa 1 (.t 53) (.t 54)),o 56 (.ld1 (.t 55)),o 57 (.fa 1 (.t 4)),o 58 (.ld1 (.t 57)),o 59 (.ixp 2 1 (.t 14) (.v (.int .i64 1))),o 60 (.ld1 (.t 59)),o 61 (.ixa 1 (.t 58) (.t 60)),o 62 (.ld1 (.t 61)),om 63 15,o 64 (.ixa 1 (.t 62) (.t 63)),o 65 (.ld1 (.t 64)),o 66 (.bld [(.int .i64 0),(.int .i64 0)] [(0,1,(.t 56)),(1,1,(.t 65))]),
 ⟨some 16,none,some 19,false,.al [(.int .i64 0),(.int .i64 0)] 186⟩,
 ⟨none,none,none,true,.st 2 (.t 16) (.t 66)⟩]) (.seq (.ops [om 67 8,o 68 (.ldn 2 (.t 16)),o 69 (.raw (.lookup 260 (.tmp 67) (.tmp 68) false)),o 70 (.un .not (.t 69))]) (.cond (.t 70) (.seq (.ops [om 71 8,o 72 (.ldn 2 (.t 16)),oS (.raw (.mapUpdate 260 (.tmp 71) (.tmp 72) (.const (.bool true))))]) (.ops [om 73 9,o 74 (.ldn 2 (.t 16)),o 75 (.bsl 186 2 1 [(.int .i64 0),(.int .i64 0)] [(0,2,(.t 74))]),o 76 (.app 186 2 16 (.t 73) (.t 75)),om 77 10,om 78 13,om 79 15,o 80 (.bld [(.int .i64 0),(.int .i64 0)] [(0,1,(.t 78)),(1,1,(.t 79))]),o 81 (.bsl 262 2 1 [(.int .i64 0),(.int .i64 0)] [(0,2,(.t 80))]),o 82 (.app 262 2 16 (.t 77) (.t 81)),om 9 76,om 10 82])) .skip)))))) (.ops [o 83 (.bin .add 3 true (.t 37) (.v (.int .i64 1))),om 37 83]))))
def r114_l1:RC:=(.seq (.seq (.ops [om 24 13,om 25 9,o 26 (.lenL (.t 25)),o 27 (.bin .lss 3 false (.t 24) (.t 26))]) (.cond (.t 27) .skip (.exit 0))) (.seq (.block 1 (.seq (.ops [om 30 9,om 31 13,o 32 (.ixa 2 (.t 30) (.t 31)),o 33 (.ldn 2 (.t 32)),o 14 (.al [(.int .i64 0),(.int .i64 0)] 186),oS (.st 2 (.t 14) (.t 33))]) (.seq (.ops [o 34 (.fa 0 (.t 3)),o 35 (.ld1 (.t 34)),o 36 (.bin .shl 3 true (.v (.int .i64 1)) (.t 35)),o 37 (.mov (.v (.int .i64 0)))]) (.block 2 (.loop r114_l0))))) (.ops [om 28 13,o 29 (.bin .add 3 true (.t 28) (.v (.int .i64 1))),om 13 29])))
def r114_l2:RC:=(.seq (.seq (.ops [om 84 11,o 85 (.bin .gtr 3 true (.t 84) (.v (.int .i64 0)))]) (.cond (.t 85) .skip (.exit 4))) (.seq (.block 5 (.ops [om 91 12,om 92 10,om 93 11,o 94 (.ixa 2 (.t 92) (.t 93)),o 95 (.fa 1 (.t 94)),o 96 (.ld1 (.t 95)),o 97 (.bsl 3 1 1 [(.int .i64 0)] [(0,1,(.t 96))]),o 98 (.app 3 1 8 (.t 91) (.t 97)),om 12 98])) (.ops [om 86 10,om 87 11,o 88 (.ixa 2 (.t 86) (.t 87)),o 89 (.fa 0 (.t 88)),o 90 (.ld1 (.t 89)),om 11 90])))
def r114:RC:=(.seq (.ops [o 3 (.box 69 (.t 0)),o 4 (.box 69 (.t 1)),o 6 (.mov (.v .nils)),o 7 (.mov (.v .nils))]) (.seq (.ops [o 17 (.raw (.makeMap 260 none)),o 18 (.bld [(.int .i64 0),(.int .i64 0)] []),oS (.raw (.insert 260 (.tmp 17) (.tmp 18) (.const (.bool true)))),om 19 17,om 8 19]) (.seq (.ops [o 20 (.bld [(.int .i64 0),(.int .i64 0)] []),o 21 (.bsl 186 2 1 [(.int .i64 0),(.int .i64 0)] [(0,2,(.t 20))]),o 22 (.bld [(.int .i64 0),(.int .i64 0)] [(0,1,(.v (.int .i64 (-1)))),(1,1,(.v (.int .i64 0)))]),o 23 (.bsl 262 2 1 [(.int .i64 0),(.int .i64 0)] [(0,2,(.t 22))]),om 9 21,om 10 23]) (.seq (.ops [o 11 (.mov (.v (.int .i64 (-1))))]) (.seq (.ops [o 12 (.mov (.v .nils))]) (.seq .skip (.seq (.seq (.ops [o 13 (.mov (.v (.int .i64 0)))]) (.block 0 (.loop r114_l1))) (.seq (.block 4 (.loop r114_l2)) (.seq (.ops [om 99 12,o 100 (.call 178 [(.t 99)])]) (.seq (.ops [om 101 9,om 102 12,om 6 101,om 7 102]) .ret))))))))))
theorem k114:fnRC 114=some ([.tmp 6,.tmp 7],r114):=by kernel_rfl
def r115:RC:=(.seq (.ops [o 3 (.box 186 (.t 0)),o 5 (.mov (.v (.bool false)))]) (.seq (.ops [o 6 (.fa 2 (.t 2)),o 7 (.ld1 (.t 6)),o 8 (.ixp 2 1 (.t 3) (.v (.int .i64 0))),o 9 (.ld1 (.t 8)),o 10 (.ixa 1 (.t 7) (.t 9)),o 11 (.ld1 (.t 10)),om 12 1,o 13 (.ixa 1 (.t 11) (.t 12)),o 14 (.ld1 (.t 13)),o 15 (.un .not (.t 14)),om 5 15]) .ret))
theorem k115:fnRC 115=some ([.tmp 5],r115):=by kernel_rfl
def r117:RC:=(.seq (.ops [o 4 (.ld1 (.t 1)),om 5 0,o 6 (.ixa 1 (.t 4) (.t 5)),o 7 (.ld1 (.t 6)),o 8 (.un .not (.t 7))]) (.cond (.t 8) (.seq (.ops [o 9 (.ld1 (.t 1)),om 10 0,o 11 (.ixa 1 (.t 9) (.t 10)),oS (.st 1 (.t 11) (.v (.bool true)))]) (.ops [o 12 (.ld1 (.t 2)),om 13 0,o 14 (.bsl 3 1 1 [(.int .i64 0)] [(0,1,(.t 13))]),o 15 (.app 3 1 8 (.t 12) (.t 14)),oS (.st 1 (.t 2) (.t 15))])) .skip))
theorem k117:fnRC 117=some ([],r117):=by kernel_rfl
def r118:RC:=(.seq (.ops [o 4 (.box 186 (.t 0)),o 6 (.mov (.v (.bool false)))]) (.seq (.seq (.ops [o 7 (.fa 2 (.t 2)),o 8 (.ld1 (.t 7)),o 9 (.ixp 2 1 (.t 4) (.v (.int .i64 0))),o 10 (.ld1 (.t 9)),o 11 (.ixa 1 (.t 8) (.t 10)),o 12 (.ld1 (.t 11)),om 13 1,o 14 (.ixa 1 (.t 12) (.t 13)),o 15 (.ld1 (.t 14))]) (.cond (.t 15) (.drw 11 [o 16 (.ld1 (.t 3)),o 17 (.fa 1 (.t 2)),o 18 (.ld1 (.t 17)),o 19 (.ixp 2 1 (.t 4) (.v (.int .i64 0))),o 20 (.ld1 (.t 19)),o 21 (.ixa 1 (.t 18) (.t 20)),o 22 (.ld1 (.t 21)),om 23 1,o 24 (.ixa 1 (.t 22) (.t 23)),o 25 (.ld1 (.t 24)),
 ⟨some 26,none,none,true,.callv (.t 16) [(.t 25)]⟩]) .skip)) (.seq (.ops [o 6 (.mov (.v (.bool true)))]) .ret)))
theorem k118:fnRC 118=some ([.tmp 6],r118):=by kernel_rfl
def r136:RC:=(.seq (.ops [o 2 (.box 69 (.t 0)),o 3 (.box 69 (.t 1)),o 4 (.mov (.v (.int .i64 0)))]) (.seq (.drw 13 [o 5 (.ldn 3 (.t 2)),o 6 (.call 58 [(.t 5)]),o 7 (.ldn 3 (.t 3)),o 8 (.call 58 [(.t 7)]),o 9 (.fa 0 (.t 2)),o 10 (.ld1 (.t 9)),o 11 (.fa 0 (.t 3)),o 12 (.ld1 (.t 11)),o 13 (.bin .neq 3 false (.t 10) (.t 12)),o 14 (.call 116 [(.t 13),(.v (.int .i64 2))]),
 ⟨some 15,none,some 10,false,.bsl 26 1 3 [(.int .i64 0),(.int .i64 0),(.int .i64 0)] [(0,1,(.t 6)),(1,1,(.t 8)),(2,1,(.t 14))]⟩,o 16 (.call 89 [(.t 15)]),om 4 16]) .ret))
theorem k136:fnRC 136=some ([.tmp 4],r136):=by kernel_rfl
def r177:RC:=(.seq (.ops [o 2 (.box 186 (.t 0)),o 4 (.mov (.v (.bool false)))]) (.seq (.ops [o 4 (.mov (.v (.bool true)))]) .ret))
theorem k177:fnRC 177=some ([.tmp 4],r177):=by kernel_rfl
def r178_l0:RC:=(.seq (.seq (.ops [om 7 2,om 8 3,o 9 (.bin .lss 3 false (.t 7) (.t 8))]) (.cond (.t 9) .skip (.exit 0))) (.seq (.block 1 (.drw 16 [om 14 0,om 15 2,om 16 0,om 17 3,om 18 0,om 19 3,o 20 (.ixa 1 (.t 18) (.t 19)),o 21 (.ld1 (.t 20)),om 22 0,om 23 2,o 24 (.ixa 1 (.t 22) (.t 23)),o 25 (.ld1 (.t 24)),o 26 (.ixa 1 (.t 14) (.t 15)),
 ⟨none,none,none,true,.st 1 (.t 26) (.t 21)⟩,o 27 (.ixa 1 (.t 16) (.t 17)),
 ⟨none,none,none,true,.st 1 (.t 27) (.t 25)⟩])) (.ops [om 10 2,o 11 (.bin .add 3 true (.t 10) (.v (.int .i64 1))),om 12 3,o 13 (.bin .sub 3 true (.t 12) (.v (.int .i64 1))),om 2 11,om 3 13])))
def r178:RC:=(.seq (.ops [om 4 0,o 5 (.lenL (.t 4)),o 6 (.bin .sub 3 true (.t 5) (.v (.int .i64 1))),o 2 (.mov (.v (.int .i64 0))),om 3 6]) (.block 0 (.loop r178_l0)))
theorem k178:fnRC 178=some ([],r178):=by kernel_rfl
def r51_l0:RC:=(.seq (.seq (.drw 12 [om 67 14,om 68 8,o 69 (.lenL (.t 68)),o 70 (.bin .lss 3 false (.t 67) (.t 69)),om 71 70,oT 72 71 (.mov (.t 8)),oT 73 71 (.mov (.t 14)),oT 74 71 (.ixa 2 (.t 72) (.t 73)),oT 75 71 (.ldn 2 (.t 74)),oT 76 71 (.ldn 2 (.t 13)),oT 77 71 (.bin .neq 116 false (.t 75) (.t 76)),o 78 (.pick (.t 71) (.t 77) (.v (.bool false)))]) (.cond (.t 78) .skip (.exit 4))) (.block 5 (.ops [om 79 14,o 80 (.bin .add 3 true (.t 79) (.v (.int .i64 1))),om 14 80])))
def r51_u:RC:=(.ops [om 117 11,om 118 12,om 119 15,om 120 119,oT 121 120 (.mov (.t 16)),o 122 (.pick (.t 120) (.t 121) (.v (.bool false))),om 123 122,oF 124 123 (.mov (.t 2)),oF 125 123 (.un .not (.t 124)),oF 126 123 (.mov (.t 125)),oT 127 126 (.mov (.t 15)),oT 128 126 (.mov (.t 127)),oF 129 128 (.mov (.t 16)),oT 130 126 (.pick (.t 128) (.v (.bool true)) (.t 129)),oF 131 123 (.pick (.t 126) (.t 130) (.v (.bool false))),o 132 (.pick (.t 123) (.v (.bool true)) (.t 131)),o 133 (.ixa 1 (.t 117) (.t 118)),oS (.st 1 (.t 133) (.t 132))])
def r51_v:RC:=(.seq (.ops [om 89 10,om 90 12,om 91 14,o 92 (.ixa 1 (.t 89) (.t 90)),oS (.st 1 (.t 92) (.t 91))]) (.seq (.drw 26 [o 93 (.fa 2 (.t 3)),o 94 (.ld1 (.t 93)),om 95 8,om 96 9,o 97 (.ixa 2 (.t 95) (.t 96)),o 98 (.ixp 2 1 (.t 97) (.v (.int .i64 0))),o 99 (.ld1 (.t 98)),o 100 (.ixa 1 (.t 94) (.t 99)),o 101 (.ld1 (.t 100)),om 102 12,o 103 (.ixa 1 (.t 101) (.t 102)),o 104 (.ld1 (.t 103)),o 105 (.fa 2 (.t 4)),o 106 (.ld1 (.t 105)),om 107 8,om 108 9,o 109 (.ixa 2 (.t 107) (.t 108)),o 110 (.ixp 2 1 (.t 109) (.v (.int .i64 1))),o 111 (.ld1 (.t 110)),o 112 (.ixa 1 (.t 106) (.t 111)),o 113 (.ld1 (.t 112)),om 114 12,o 115 (.ixa 1 (.t 113) (.t 114)),o 116 (.ld1 (.t 115)),om 15 104,om 16 116]) r51_u))
def r51_l1:RC:=(.seq (.seq (.ops [om 36 12,om 37 10,o 38 (.lenL (.t 37)),o 39 (.bin .lss 3 false (.t 36) (.t 38))]) (.cond (.t 39) .skip (.exit 2))) (.seq (.block 3 (.seq (.drw 27 [o 42 (.fa 1 (.t 3)),o 43 (.ld1 (.t 42)),om 44 8,om 45 9,o 46 (.ixa 2 (.t 44) (.t 45)),o 47 (.ixp 2 1 (.t 46) (.v (.int .i64 0))),o 48 (.ld1 (.t 47)),o 49 (.ixa 1 (.t 43) (.t 48)),o 50 (.ld1 (.t 49)),om 51 12,o 52 (.ixa 1 (.t 50) (.t 51)),o 53 (.ld1 (.t 52)),o 54 (.fa 1 (.t 4)),o 55 (.ld1 (.t 54)),om 56 8,om 57 9,o 58 (.ixa 2 (.t 56) (.t 57)),o 59 (.ixp 2 1 (.t 58) (.v (.int .i64 1))),o 60 (.ld1 (.t 59)),o 61 (.ixa 1 (.t 55) (.t 60)),o 62 (.ld1 (.t 61)),om 63 12,o 64 (.ixa 1 (.t 62) (.t 63)),o 65 (.ld1 (.t 64)),o 66 (.bld [(.int .i64 0),(.int .i64 0)] [(0,1,(.t 53)),(1,1,(.t 65))]),
 ⟨some 13,none,some 25,false,.al [(.int .i64 0),(.int .i64 0)] 116⟩,
 ⟨none,none,none,true,.st 2 (.t 13) (.t 66)⟩]) (.seq (.ops [o 14 (.mov (.v (.int .i64 0)))]) (.seq (.block 4 (.loop r51_l0)) (.seq (.seq (.ops [om 81 14,om 82 8,o 83 (.lenL (.t 82)),o 84 (.bin .eql 3 false (.t 81) (.t 83))]) (.cond (.t 84) (.ops [om 85 8,o 86 (.ldn 2 (.t 13)),o 87 (.bsl 116 2 1 [(.int .i64 0),(.int .i64 0)] [(0,2,(.t 86))]),o 88 (.app 116 2 16 (.t 85) (.t 87)),om 8 88]) .skip)) r51_v))))) (.ops [om 40 12,o 41 (.bin .add 3 true (.t 40) (.v (.int .i64 1))),om 12 41])))
def r51_l2:RC:=(.seq (.seq (.ops [om 22 9,om 23 8,o 24 (.lenL (.t 23)),o 25 (.bin .lss 3 false (.t 22) (.t 24))]) (.cond (.t 25) .skip (.exit 0))) (.seq (.block 1 (.seq (.ops [o 28 (.fa 0 (.t 3)),o 29 (.ld1 (.t 28)),o 30 (.bin .shl 3 true (.v (.int .i64 1)) (.t 29)),o 31 (.raw (.makeSlice 40 (.tmp 30) (.tmp 30))),om 10 31]) (.seq (.ops [o 32 (.fa 0 (.t 3)),o 33 (.ld1 (.t 32)),o 34 (.bin .shl 3 true (.v (.int .i64 1)) (.t 33)),o 35 (.raw (.makeSlice 43 (.tmp 34) (.tmp 34))),om 11 35]) (.seq (.seq (.ops [o 12 (.mov (.v (.int .i64 0)))]) (.block 2 (.loop r51_l1))) (.seq (.ops [o 134 (.fa 1 (.t 7)),o 135 (.ld1 (.t 134)),om 136 10,o 137 (.bsl 40 1 1 [.nils] [(0,1,(.t 136))]),o 138 (.app 40 1 24 (.t 135) (.t 137)),o 139 (.fa 1 (.t 7)),oS (.st 1 (.t 139) (.t 138))]) (.ops [o 140 (.fa 2 (.t 7)),o 141 (.ld1 (.t 140)),om 142 11,o 143 (.bsl 43 1 1 [.nils] [(0,1,(.t 142))]),o 144 (.app 43 1 24 (.t 141) (.t 143)),o 145 (.fa 2 (.t 7)),oS (.st 1 (.t 145) (.t 144))])))))) (.ops [om 26 9,o 27 (.bin .add 3 true (.t 26) (.v (.int .i64 1))),om 9 27])))
def r51:RC:=(.seq (.ops [o 3 (.box 72 (.t 0)),o 4 (.box 72 (.t 1)),o 6 (.al [(.int .i64 0),.nils,.nils] 72)]) (.seq (.ops [o 17 (.fa 0 (.t 3)),o 18 (.ld1 (.t 17)),o 19 (.bld [(.int .i64 0),.nils,.nils] [(0,1,(.t 18))]),o 7 (.al [(.int .i64 0),.nils,.nils] 72),oS (.st 3 (.t 7) (.t 19))]) (.seq (.ops [o 20 (.bld [(.int .i64 0),(.int .i64 0)] [(0,1,(.v (.int .i64 0))),(1,1,(.v (.int .i64 0)))]),o 21 (.bsl 116 2 1 [(.int .i64 0),(.int .i64 0)] [(0,2,(.t 20))]),om 8 21]) (.seq (.seq (.ops [o 9 (.mov (.v (.int .i64 0)))]) (.block 0 (.loop r51_l2))) (.seq (.ops [o 146 (.ldn 3 (.t 7)),oS (.st 3 (.t 6) (.t 146))]) .ret)))))
theorem k51:fnRC 51=some ([.cell 6 72],r51):=by kernel_rfl
def r52:RC:=(.seq (.ops [o 1 (.box 72 (.t 0)),o 2 (.mov (.v .nils)),o 3 (.mov (.v (.bool false)))]) (.seq (.drw 9 [o 4 (.ldn 3 (.t 1)),o 5 (.fa 0 (.t 1)),o 6 (.ld1 (.t 5)),o 7 (.call 119 [(.t 6)]),o 8 (.call 71 [(.t 4),(.t 7)]),o 9 (.ext (.t 8) 0),o 10 (.ext (.t 8) 1),om 2 9,om 3 10]) .ret))
theorem k52:fnRC 52=some ([.tmp 2,.tmp 3],r52):=by kernel_rfl
def r53_l0:RC:=(.seq (.seq (.ops [om 35 9,o 36 (.fa 0 (.t 1)),o 37 (.ld1 (.t 36)),o 38 (.bin .shl 3 true (.v (.int .i64 1)) (.t 37)),o 39 (.bin .lss 3 false (.t 35) (.t 38))]) (.cond (.t 39) .skip (.exit 2))) (.seq (.block 3 (.seq (.drw 12 [o 42 (.fa 2 (.t 1)),o 43 (.ld1 (.t 42)),om 44 4,om 45 8,o 46 (.ixa 3 (.t 44) (.t 45)),o 47 (.fa 0 (.t 46)),o 48 (.ld1 (.t 47)),o 49 (.ixa 1 (.t 43) (.t 48)),o 50 (.ld1 (.t 49)),om 51 9,o 52 (.ixa 1 (.t 50) (.t 51)),o 53 (.ld1 (.t 52))]) (.cond (.t 53) (.drw 15 [om 54 7,o 55 (.fa 1 (.t 1)),o 56 (.ld1 (.t 55)),om 57 4,om 58 8,o 59 (.ixa 3 (.t 57) (.t 58)),o 60 (.fa 0 (.t 59)),o 61 (.ld1 (.t 60)),o 62 (.ixa 1 (.t 56) (.t 61)),o 63 (.ld1 (.t 62)),om 64 9,o 65 (.ixa 1 (.t 63) (.t 64)),o 66 (.ld1 (.t 65)),o 67 (.ixa 1 (.t 54) (.t 66)),
 ⟨none,none,none,true,.st 1 (.t 67) (.v (.bool true))⟩]) .skip))) (.ops [om 40 9,o 41 (.bin .add 3 true (.t 40) (.v (.int .i64 1))),om 9 41])))
def r53_l1:RC:=(.seq (.seq (.ops [om 29 8,om 30 4,o 31 (.lenL (.t 30)),o 32 (.bin .lss 3 false (.t 29) (.t 31))]) (.cond (.t 32) .skip (.exit 0))) (.seq (.block 1 (.seq (.ops [o 9 (.mov (.v (.int .i64 0)))]) (.block 2 (.loop r53_l0)))) (.ops [om 33 8,o 34 (.bin .add 3 true (.t 33) (.v (.int .i64 1))),om 8 34])))
def r53_l2:RC:=(.seq (.seq (.ops [om 99 13,o 100 (.fa 0 (.t 1)),o 101 (.ld1 (.t 100)),o 102 (.bin .shl 3 true (.v (.int .i64 1)) (.t 101)),o 103 (.bin .lss 3 false (.t 99) (.t 102))]) (.cond (.t 103) .skip (.exit 8))) (.seq (.block 9 (.seq (.seq (.ops [o 106 (.fa 2 (.t 1)),o 107 (.ld1 (.t 106)),om 108 12,o 109 (.ixa 1 (.t 107) (.t 108)),o 110 (.ld1 (.t 109)),om 111 13,o 112 (.ixa 1 (.t 110) (.t 111)),o 113 (.ld1 (.t 112))]) (.cond (.t 113) (.seq (.ops [om 114 10,om 2 114]) .ret) .skip)) (.ops [om 115 11,o 116 (.fa 1 (.t 1)),o 117 (.ld1 (.t 116)),om 118 12,o 119 (.ixa 1 (.t 117) (.t 118)),o 120 (.ld1 (.t 119)),om 121 13,o 122 (.ixa 1 (.t 120) (.t 121)),o 123 (.ld1 (.t 122)),o 124 (.ixa 1 (.t 115) (.t 123)),oS (.st 1 (.t 124) (.v (.bool true)))]))) (.ops [om 104 13,o 105 (.bin .add 3 true (.t 104) (.v (.int .i64 1))),om 13 105])))
def r53_l3:RC:=(.seq (.seq (.ops [om 79 12,om 80 7,o 81 (.lenL (.t 80)),o 82 (.bin .lss 3 false (.t 79) (.t 81))]) (.cond (.t 82) .skip (.exit 6))) (.seq (.block 7 (.seq (.seq (.ops [om 85 7,om 86 12,o 87 (.ixa 1 (.t 85) (.t 86)),o 88 (.ld1 (.t 87)),o 89 (.un .not (.t 88)),om 90 89,oF 91 90 (.mov (.t 3)),oF 92 90 (.mov (.t 12)),oF 93 90 (.ixa 1 (.t 91) (.t 92)),oF 94 90 (.ld1 (.t 93)),o 95 (.pick (.t 90) (.v (.bool true)) (.t 94))]) (.cond (.t 95) (.exit 7) .skip)) (.seq (.ops [om 96 3,om 97 12,o 98 (.ixa 1 (.t 96) (.t 97)),oS (.st 1 (.t 98) (.v (.bool true)))]) (.seq (.ops [o 13 (.mov (.v (.int .i64 0)))]) (.block 8 (.loop r53_l2)))))) (.ops [om 83 12,o 84 (.bin .add 3 true (.t 83) (.v (.int .i64 1))),om 12 84])))
def r53_l4:RC:=(.seq (.seq (.ops [om 68 10,o 69 (.fa 1 (.t 1)),o 70 (.ld1 (.t 69)),o 71 (.lenL (.t 70)),o 72 (.bin .leq 3 false (.t 68) (.t 71))]) (.cond (.t 72) .skip (.exit 4))) (.seq (.block 5 (.seq (.ops [o 75 (.fa 1 (.t 1)),o 76 (.ld1 (.t 75)),o 77 (.lenL (.t 76)),o 78 (.raw (.makeSlice 43 (.tmp 77) (.tmp 77))),om 11 78]) (.seq (.seq (.ops [o 12 (.mov (.v (.int .i64 0)))]) (.block 6 (.loop r53_l3))) (.ops [om 125 11,om 7 125])))) (.ops [om 73 10,o 74 (.bin .add 3 true (.t 73) (.v (.int .i64 1))),om 10 74])))
def r53:RC:=(.seq (.ops [o 1 (.box 72 (.t 0)),o 2 (.mov (.v (.int .i64 0)))]) (.seq (.ops [o 14 (.fa 1 (.t 1)),o 15 (.ld1 (.t 14)),o 16 (.lenL (.t 15)),o 17 (.raw (.makeSlice 43 (.tmp 16) (.tmp 16))),om 3 17]) (.seq (.ops [o 19 (.ldn 3 (.t 1)),o 20 (.ldn 3 (.t 1)),o 21 (.call 120 [(.t 19),(.t 20)]),om 18 21,o 22 (.ext (.t 18) 0),o 23 (.ext (.t 18) 1),o 24 (.ext (.t 18) 2),om 4 22,om 5 23,om 6 24]) (.seq (.ops [o 25 (.fa 1 (.t 1)),o 26 (.ld1 (.t 25)),o 27 (.lenL (.t 26)),o 28 (.raw (.makeSlice 43 (.tmp 27) (.tmp 27))),om 7 28]) (.seq (.seq (.ops [o 8 (.mov (.v (.int .i64 0)))]) (.block 0 (.loop r53_l1))) (.seq (.seq (.ops [o 10 (.mov (.v (.int .i64 1)))]) (.block 4 (.loop r53_l4))) (.seq (.ops [o 2 (.mov (.v (.int .i64 0)))]) .ret)))))))
theorem k53:fnRC 53=some ([.tmp 2],r53):=by kernel_rfl
noncomputable def r111_l0:RC:=(.seq (.ops [o 38 (.bin .lss 3 false (.t 37) (.t 36))]) (.seq (.cond (.t 38) .skip (.exit 0)) (.seq (.block 1 (.seq (.ops [om 39 37,o 40 (.ixa 2 (.t 35) (.t 37)),o 41 (.ldn 2 (.t 40)),o 13 (.al [(.int .i64 0),(.int .i64 0)] 186),om 12 39,oS (.st 2 (.t 13) (.t 41))]) (.ops [om 42 11,o 43 (.ldn 2 (.t 13)),om 44 12,oS (.raw (.mapUpdate 259 (.tmp 42) (.tmp 43) (.tmp 44)))]))) (.ops [o 45 (.bin .add 3 true (.t 37) (.v (.int .i64 1))),om 37 45]))))
noncomputable def q111_0:Code:=rawAt 111 0
theorem d111_0:rcDrc U q111_0=some (31,[(om 80 17,none),
 (om 81 11,none),
 (o 82 (.ldn 2 (.t 20)),none),
 (o 83 (.raw (.lookup 259 (.tmp 81) (.tmp 82) false)),none),
 (⟨some 84,none,some 4,false,.bsl 3 1 1 [(.int .i64 0)] [(0,1,(.t 83))]⟩,none),
 (⟨some 85,none,none,true,.app 3 1 8 (.t 80) (.t 84)⟩,none),
 (om 86 18,none),
 (om 87 2,none),
 (o 88 (.fa 2 (.t 3)),none),
 (o 89 (.ld1 (.t 88)),some (0,1)),
 (o 90 (.ixp 2 1 (.t 16) (.v (.int .i64 0))),none),
 (o 91 (.ld1 (.t 90)),some (0,1)),
 (o 92 (.ixa 1 (.t 89) (.t 91)),none),
 (o 93 (.ld1 (.t 92)),some (0,1)),
 (om 94 19,none),
 (o 95 (.ixa 1 (.t 93) (.t 94)),none),
 (o 96 (.ld1 (.t 95)),some (0,1)),
 (o 97 (.fa 2 (.t 4)),none),
 (o 98 (.ld1 (.t 97)),some (0,1)),
 (o 99 (.ixp 2 1 (.t 16) (.v (.int .i64 1))),none),
 (o 100 (.ld1 (.t 99)),some (0,1)),
 (o 101 (.ixa 1 (.t 98) (.t 100)),none),
 (o 102 (.ld1 (.t 101)),some (0,1)),
 (om 103 19,none),
 (o 104 (.ixa 1 (.t 102) (.t 103)),none),
 (o 105 (.ld1 (.t 104)),some (0,1)),
 (⟨some 106,none,none,true,.callv (.t 87) [(.t 96),(.t 105)]⟩,none),
 (⟨some 107,none,some 27,false,.bsl 4 1 1 [(.bool false)] [(0,1,(.t 106))]⟩,none),
 (⟨some 108,none,none,true,.app 4 1 1 (.t 86) (.t 107)⟩,none),
 (om 17 85,none),
 (om 18 108,none)]):=by kernel_rfl
noncomputable def r111_l1:RC:=(.seq (.ops [o 59 (.bin .lss 3 false (.t 58) (.t 57))]) (.seq (.cond (.t 59) .skip (.exit 4)) (.seq (.block 5 (.seq (.ops [om 60 58,om 19 60]) (.seq (.drw 21 [o 61 (.fa 1 (.t 3)),o 62 (.ld1 (.t 61)),o 63 (.ixp 2 1 (.t 16) (.v (.int .i64 0))),o 64 (.ld1 (.t 63)),o 65 (.ixa 1 (.t 62) (.t 64)),o 66 (.ld1 (.t 65)),om 67 19,o 68 (.ixa 1 (.t 66) (.t 67)),o 69 (.ld1 (.t 68)),o 70 (.fa 1 (.t 4)),o 71 (.ld1 (.t 70)),o 72 (.ixp 2 1 (.t 16) (.v (.int .i64 1))),o 73 (.ld1 (.t 72)),o 74 (.ixa 1 (.t 71) (.t 73)),o 75 (.ld1 (.t 74)),om 76 19,o 77 (.ixa 1 (.t 75) (.t 76)),o 78 (.ld1 (.t 77)),o 79 (.bld [(.int .i64 0),(.int .i64 0)] [(0,1,(.t 69)),(1,1,(.t 78))]),
 ⟨some 20,none,some 19,false,.al [(.int .i64 0),(.int .i64 0)] 186⟩,
 ⟨none,none,none,true,.st 2 (.t 20) (.t 79)⟩]) (.raw q111_0)))) (.ops [o 109 (.bin .add 3 true (.t 58) (.v (.int .i64 1))),om 58 109]))))
noncomputable def q111_1:Code:=rawAt 111 1
theorem d111_1:rcDrc U q111_1=some (14,[(o 110 (.fa 1 (.t 14)),none),
 (o 111 (.ld1 (.t 110)),none),
 (om 112 17,none),
 (⟨some 113,none,some 3,false,.bsl 40 1 1 [.nils] [(0,1,(.t 112))]⟩,none),
 (⟨some 114,none,none,true,.app 40 1 24 (.t 111) (.t 113)⟩,none),
 (o 115 (.fa 2 (.t 14)),none),
 (o 116 (.ld1 (.t 115)),some (0,1)),
 (om 117 18,none),
 (⟨some 118,none,some 8,false,.bsl 43 1 1 [.nils] [(0,1,(.t 117))]⟩,none),
 (⟨some 119,none,none,true,.app 43 1 24 (.t 116) (.t 118)⟩,none),
 (o 120 (.fa 1 (.t 14)),none),
 (⟨none,none,none,true,.st 1 (.t 120) (.t 114)⟩,none),
 (o 121 (.fa 2 (.t 14)),none),
 (⟨none,none,none,true,.st 1 (.t 121) (.t 119)⟩,none)]):=by kernel_rfl
noncomputable def r111_l2:RC:=(.seq (.ops [o 52 (.bin .lss 3 false (.t 51) (.t 50))]) (.seq (.cond (.t 52) .skip (.exit 2)) (.seq (.block 3 (.seq (.ops [o 53 (.ixa 2 (.t 49) (.t 51)),o 54 (.ldn 2 (.t 53)),o 16 (.al [(.int .i64 0),(.int .i64 0)] 186),oS (.st 2 (.t 16) (.t 54))]) (.seq (.ops [o 17 (.mov (.v .nils))]) (.seq (.ops [o 18 (.mov (.v .nils))]) (.seq (.seq (.ops [o 55 (.fa 0 (.t 3)),o 56 (.ld1 (.t 55)),o 57 (.bin .shl 3 true (.v (.int .i64 1)) (.t 56)),o 58 (.mov (.v (.int .i64 0)))]) (.block 4 (.loop r111_l1))) (.raw q111_1)))))) (.ops [o 122 (.bin .add 3 true (.t 51) (.v (.int .i64 1))),om 51 122]))))
noncomputable def r111_t:RC:=(.seq (.ops [o 29 (.ldn 3 (.t 3)),o 30 (.ldn 3 (.t 4)),o 31 (.call 114 [(.t 29),(.t 30),(.v (.fn (.func 177) [] []))]),om 28 31,o 32 (.ext (.t 28) 0),o 33 (.ext (.t 28) 1),om 9 32,om 10 33]) (.seq (.ops [o 34 (.raw (.makeMap 259 none)),om 11 34]) (.seq (.seq (.ops [om 35 9,o 36 (.lenL (.t 35)),o 37 (.mov (.v (.int .i64 0)))]) (.block 0 (.loop r111_l0))) (.seq (.ops [o 46 (.fa 0 (.t 3)),o 47 (.ld1 (.t 46)),o 48 (.bld [(.int .i64 0),.nils,.nils] [(0,1,(.t 47))]),o 14 (.al [(.int .i64 0),.nils,.nils] 69),oS (.st 3 (.t 14) (.t 48))]) (.seq (.seq (.ops [om 49 9,o 50 (.lenL (.t 49)),o 51 (.mov (.v (.int .i64 0)))]) (.block 2 (.loop r111_l2))) (.seq (.ops [o 123 (.ldn 3 (.t 14)),o 124 (.call 104 [(.t 123)]),o 125 (.call 103 [(.t 124)]),o 126 (.ext (.t 125) 0),o 127 (.ext (.t 125) 1),oS (.st 3 (.t 6) (.t 126)),om 7 127]) .ret))))))
noncomputable def r111:RC:=(.seq (.ops [o 3 (.box 69 (.t 0)),o 4 (.box 69 (.t 1)),o 6 (.al [(.int .i64 0),.nils,.nils] 69),o 7 (.mov (.v (.int .i64 0)))]) (.seq (.seq (.ops [o 21 (.ldn 3 (.t 3)),o 22 (.ldn 3 (.t 4)),o 23 (.call 136 [(.t 21),(.t 22)]),om 8 23]) (.seq (.ops [om 24 8,o 25 (.bin .neq 26 true (.t 24) (.v (.int .i64 0)))]) (.cond (.t 25) (.seq (.ops [o 26 (.bld [(.int .i64 0),.nils,.nils] []),om 27 8,oS (.st 3 (.t 6) (.t 26)),om 7 27]) .ret) .skip))) r111_t))
theorem k111:fnRC 111=some ([.cell 6 69,.tmp 7],r111):=by kernel_rfl
noncomputable def q7_0:Code:=rawAt 7 0
noncomputable def r7:RC:=(.seq (.ops [o 2 (.box 72 (.t 0)),o 3 (.box 72 (.t 1)),o 4 (.mov (.v (.bool false)))]) (.seq (.seq (.ops [o 23 (.call 16 []),o 24 (.un .not (.t 23)),om 25 24,oF 26 25 (.ldn 3 (.t 2)),oF 27 25 (.call 44 [(.t 26),(.v (.int .i64 7))]),oF 28 25 (.un .not (.t 27)),o 29 (.pick (.t 25) (.v (.bool true)) (.t 28)),om 30 29,oF 31 30 (.ldn 3 (.t 3)),oF 32 30 (.call 44 [(.t 31),(.v (.int .i64 7))]),oF 33 30 (.un .not (.t 32)),o 34 (.pick (.t 30) (.v (.bool true)) (.t 33))]) (.cond (.t 34) (.seq (.ops [o 35 (.call 16 []),om 4 35]) .ret) .skip)) (.seq (.raw q7_0) (.seq (.ops [o 39 (.ldn 3 (.t 5)),o 40 (.ldn 3 (.t 6)),o 41 (.call 45 [(.t 39),(.t 40)]),om 38 41,o 42 (.ext (.t 38) 0),o 43 (.ext (.t 38) 1),o 7 (.al [(.int .i64 0),.nils,.nils] 69),oS (.st 3 (.t 7) (.t 42)),om 8 43]) (.seq (.ops [o 45 (.ldn 3 (.t 5)),o 46 (.ldn 3 (.t 6)),o 47 (.call 46 [(.t 45),(.t 46)]),om 44 47,o 48 (.ext (.t 44) 0),o 49 (.ext (.t 44) 1),o 9 (.al [(.int .i64 0),.nils,.nils] 69),oS (.st 3 (.t 9) (.t 48)),om 10 49]) (.seq (.ops [o 51 (.ldn 3 (.t 5)),o 52 (.call 47 [(.t 51)]),om 50 52,o 53 (.ext (.t 50) 0),o 54 (.ext (.t 50) 1),om 11 53,om 12 54]) (.seq (.ops [o 56 (.ldn 3 (.t 5)),o 57 (.call 48 [(.t 56)]),om 55 57,o 58 (.ext (.t 55) 0),o 59 (.ext (.t 55) 1),om 13 58,om 14 59]) (.seq (.drw 7 [o 60 (.ldn 3 (.t 2)),o 61 (.ldn 3 (.t 3)),o 62 (.call 49 [(.t 60),(.t 61)]),o 63 (.ldn 3 (.t 2)),o 64 (.call 50 [(.t 63)]),om 15 62,om 16 64]) (.seq (.ops [o 17 (.al [(.int .i64 0),.nils,.nils] 72),o 18 (.al [(.int .i64 0),.nils,.nils] 72)]) (.seq (.ops [o 19 (.mov (.v .nils))]) (.seq (.ops [om 65 16,om 20 65,o 21 (.mov (.v (.int .i64 0)))]) (.seq (.seq (.ops [om 66 15,o 67 (.bin .eql 3 true (.t 66) (.v (.int .i64 0)))]) (.cond (.t 67) (.drw 10 [o 68 (.ldn 3 (.t 2)),o 69 (.ldn 3 (.t 3)),o 70 (.call 51 [(.t 68),(.t 69),(.v (.bool false))]),o 71 (.call 41 [(.t 70)]),o 72 (.ldn 3 (.t 2)),o 73 (.ldn 3 (.t 3)),o 74 (.call 51 [(.t 72),(.t 73),(.v (.bool true))]),o 75 (.call 41 [(.t 74)]),
 ⟨none,none,none,true,.st 3 (.t 17) (.t 71)⟩,
 ⟨none,none,none,true,.st 3 (.t 18) (.t 75)⟩]) .skip)) (.seq (.seq (.ops [om 76 16,o 77 (.bin .eql 3 true (.t 76) (.v (.int .i64 0)))]) (.cond (.t 77) (.seq (.ops [o 22 (.mov (.v (.bool false)))]) (.seq (.ops [o 79 (.ldn 3 (.t 2)),o 80 (.call 52 [(.t 79)]),om 78 80,o 81 (.ext (.t 78) 0),o 82 (.ext (.t 78) 1),om 19 81,om 22 82]) (.seq (.ops [om 83 22,o 84 (.un .not (.t 83)),o 85 (.call 37 [(.t 84),(.v (.int .i64 7))]),om 20 85]) (.seq (.ops [o 86 (.ldn 3 (.t 2)),o 87 (.call 53 [(.t 86)]),om 21 87]) (.ops [om 88 21,o 89 (.bin .eql 3 true (.t 88) (.v (.int .i64 0))),o 90 (.call 37 [(.t 89),(.v (.int .i64 7))]),om 16 90]))))) .skip)) (.seq (.ops [o 91 (.ldn 3 (.t 7)),om 92 8,om 93 15,o 94 (.ldn 3 (.t 17)),o 95 (.call 43 [(.t 91),(.t 92),(.t 93),(.t 94)]),om 96 95,oT 97 96 (.ldn 3 (.t 9)),oT 98 96 (.mov (.t 10)),oT 99 96 (.mov (.t 15)),oT 100 96 (.ldn 3 (.t 18)),oT 101 96 (.call 43 [(.t 97),(.t 98),(.t 99),(.t 100)]),o 102 (.pick (.t 96) (.t 101) (.v (.bool false))),om 103 102,oT 104 103 (.mov (.t 11)),oT 105 103 (.mov (.t 12)),oT 106 103 (.mov (.t 20)),oT 107 103 (.mov (.t 19)),oT 108 103 (.call 36 [(.t 104),(.t 105),(.t 106),(.t 107)]),o 109 (.pick (.t 103) (.t 108) (.v (.bool false))),om 110 109,oT 111 110 (.mov (.t 13)),oT 112 110 (.mov (.t 14)),oT 113 110 (.mov (.t 16)),oT 114 110 (.mov (.t 21)),oT 115 110 (.call 54 [(.t 111),(.t 112),(.t 113),(.t 114)]),o 116 (.pick (.t 110) (.t 115) (.v (.bool false))),om 4 116]) .ret))))))))))))))
theorem k7:fnRC 7=some ([.tmp 4],r7):=by kernel_rfl
def r10:RC:=(.seq (.ops [o 2 (.box 72 (.t 0)),o 4 (.mov (.v (.bool false)))]) (.seq (.seq (.ops [o 17 (.call 16 []),o 18 (.un .not (.t 17)),om 19 18,oF 20 19 (.ldn 3 (.t 2)),oF 21 19 (.call 44 [(.t 20),(.v (.int .i64 12))]),oF 22 19 (.un .not (.t 21)),o 23 (.pick (.t 19) (.v (.bool true)) (.t 22)),om 24 23,oF 25 24 (.mov (.t 1)),oF 26 24 (.call 22 [(.t 25),(.v (.int .i64 60))]),oF 27 24 (.un .not (.t 26)),o 28 (.pick (.t 24) (.v (.bool true)) (.t 27))]) (.cond (.t 28) (.seq (.ops [o 29 (.call 16 []),om 4 29]) .ret) .skip)) (.seq (.ops [o 30 (.ldn 3 (.t 2)),o 5 (.al [(.int .i64 0),.nils,.nils] 69),oS (.st 3 (.t 5) (.t 30))]) (.seq (.ops [o 31 (.ldn 3 (.t 2)),o 32 (.call 50 [(.t 31)]),om 6 32]) (.seq (.seq (.ops [o 33 (.ldn 3 (.t 5)),o 34 (.call 58 [(.t 33)]),om 35 6,o 36 (.bin .neq 3 false (.t 34) (.t 35))]) (.cond (.t 36) (.seq (.ops [o 4 (.mov (.v (.bool false)))]) .ret) .skip)) (.seq (.ops [o 38 (.ldn 3 (.t 5)),om 39 1,o 40 (.call 57 [(.t 38),(.t 39)]),om 37 40,o 41 (.ext (.t 37) 0),o 42 (.ext (.t 37) 1),om 7 41,om 8 42]) (.seq (.ops [o 44 (.ldn 3 (.t 5)),om 45 1,o 46 (.call 62 [(.t 44),(.t 45)]),om 43 46,o 47 (.ext (.t 43) 0),o 48 (.ext (.t 43) 1),om 9 47,om 10 48]) (.seq (.ops [o 50 (.ldn 3 (.t 5)),o 51 (.call 59 [(.t 50)]),om 49 51,o 52 (.ext (.t 49) 0),o 53 (.ext (.t 49) 1),o 11 (.al [(.int .i64 0),.nils,.nils] 69),oS (.st 3 (.t 11) (.t 52)),om 12 53]) (.seq (.ops [om 54 6,om 13 54]) (.seq (.ops [o 14 (.mov (.v .nils))]) (.seq (.ops [o 15 (.mov (.v (.int .i64 0)))]) (.seq (.ops [o 16 (.al [(.int .i64 0),.nils,.nils] 72)]) (.seq (.seq (.ops [om 55 6,o 56 (.bin .eql 3 true (.t 55) (.v (.int .i64 0)))]) (.cond (.t 56) (.seq (.ops [o 57 (.ldn 3 (.t 2)),o 58 (.call 41 [(.t 57)]),oS (.st 3 (.t 16) (.t 58))]) (.ops [o 59 (.fa 0 (.t 2)),o 60 (.ld1 (.t 59)),om 61 1,o 62 (.call 28 [(.t 60),(.t 61)]),om 13 62])) .skip)) (.seq (.seq (.ops [om 63 13,o 64 (.bin .eql 3 true (.t 63) (.v (.int .i64 0)))]) (.cond (.t 64) (.ops [o 66 (.ldn 3 (.t 2)),om 67 1,o 68 (.call 63 [(.t 66),(.t 67)]),om 65 68,o 69 (.ext (.t 65) 0),o 70 (.ext (.t 65) 1),om 14 69,om 15 70]) .skip)) (.seq (.ops [om 71 7,om 72 8,om 73 13,om 74 14,o 75 (.call 36 [(.t 71),(.t 72),(.t 73),(.t 74)]),om 76 75,oT 77 76 (.mov (.t 9)),oT 78 76 (.mov (.t 10)),oT 79 76 (.mov (.t 13)),oT 80 76 (.mov (.t 15)),oT 81 76 (.call 54 [(.t 77),(.t 78),(.t 79),(.t 80)]),o 82 (.pick (.t 76) (.t 81) (.v (.bool false))),om 83 82,oT 84 83 (.ldn 3 (.t 11)),oT 85 83 (.mov (.t 12)),oT 86 83 (.mov (.t 6)),oT 87 83 (.ldn 3 (.t 16)),oT 88 83 (.call 43 [(.t 84),(.t 85),(.t 86),(.t 87)]),o 89 (.pick (.t 83) (.t 88) (.v (.bool false))),om 4 89]) .ret)))))))))))))))
theorem k10:fnRC 10=some ([.tmp 4],r10):=by kernel_rfl
def r44_l0:RC:=(.seq (.seq (.ops [om 30 5,o 31 (.fa 1 (.t 2)),o 32 (.ld1 (.t 31)),o 33 (.lenL (.t 32)),o 34 (.bin .lss 3 false (.t 30) (.t 33))]) (.cond (.t 34) .skip (.exit 0))) (.seq (.block 1 (.seq (.ops [o 37 (.fa 1 (.t 2)),o 38 (.ld1 (.t 37)),om 39 5,o 40 (.ixa 1 (.t 38) (.t 39)),o 41 (.ld1 (.t 40)),o 42 (.lenL (.t 41)),o 43 (.bin .gtr 3 true (.t 42) (.v (.int .i64 18)))]) (.cond (.t 43) (.seq (.ops [o 4 (.mov (.v (.bool false)))]) .ret) .skip))) (.ops [om 35 5,o 36 (.bin .add 3 true (.t 35) (.v (.int .i64 1))),om 5 36])))
def r44_l1:RC:=(.seq (.seq (.ops [om 44 6,o 45 (.fa 2 (.t 2)),o 46 (.ld1 (.t 45)),o 47 (.lenL (.t 46)),o 48 (.bin .lss 3 false (.t 44) (.t 47))]) (.cond (.t 48) .skip (.exit 2))) (.seq (.block 3 (.seq (.ops [o 51 (.fa 2 (.t 2)),o 52 (.ld1 (.t 51)),om 53 6,o 54 (.ixa 1 (.t 52) (.t 53)),o 55 (.ld1 (.t 54)),o 56 (.lenL (.t 55)),o 57 (.bin .gtr 3 true (.t 56) (.v (.int .i64 18)))]) (.cond (.t 57) (.seq (.ops [o 4 (.mov (.v (.bool false)))]) .ret) .skip))) (.ops [om 49 6,o 50 (.bin .add 3 true (.t 49) (.v (.int .i64 1))),om 6 50])))
def r44:RC:=(.seq (.ops [o 2 (.box 72 (.t 0)),o 4 (.mov (.v (.bool false)))]) (.seq (.seq (.ops [o 7 (.fa 1 (.t 2)),o 8 (.ld1 (.t 7)),o 9 (.lenL (.t 8)),om 10 1,o 11 (.bin .gtr 3 false (.t 9) (.t 10)),om 12 11,oT 13 12 (.fa 1 (.t 2)),oT 14 12 (.ld1 (.t 13)),oT 15 12 (.lenL (.t 14)),oT 16 12 (.bin .leq 3 true (.t 15) (.v (.int .i64 256))),o 17 (.pick (.t 12) (.t 16) (.v (.bool false))),om 18 17,oF 19 18 (.fa 1 (.t 2)),oF 20 18 (.ld1 (.t 19)),oF 21 18 (.lenL (.t 20)),oF 22 18 (.bin .gtr 3 true (.t 21) (.v (.int .i64 258))),o 23 (.pick (.t 18) (.v (.bool true)) (.t 22)),om 24 23,oF 25 24 (.fa 2 (.t 2)),oF 26 24 (.ld1 (.t 25)),oF 27 24 (.lenL (.t 26)),oF 28 24 (.bin .gtr 3 true (.t 27) (.v (.int .i64 260))),o 29 (.pick (.t 24) (.v (.bool true)) (.t 28))]) (.cond (.t 29) (.seq (.ops [o 4 (.mov (.v (.bool false)))]) .ret) .skip)) (.seq (.seq (.ops [o 5 (.mov (.v (.int .i64 0)))]) (.block 0 (.loop r44_l0))) (.seq (.seq (.ops [o 6 (.mov (.v (.int .i64 0)))]) (.block 2 (.loop r44_l1))) (.seq (.ops [o 4 (.mov (.v (.bool true)))]) .ret)))))
theorem k44:fnRC 44=some ([.tmp 4],r44):=by kernel_rfl
def r50_l0:RC:=(.seq (.seq (.ops [om 52 4,o 53 (.fa 1 (.t 1)),o 54 (.ld1 (.t 53)),om 55 3,o 56 (.ixa 1 (.t 54) (.t 55)),o 57 (.ld1 (.t 56)),o 58 (.lenL (.t 57)),o 59 (.bin .lss 3 false (.t 52) (.t 58))]) (.cond (.t 59) .skip (.exit 2))) (.seq (.block 3 (.seq (.drw 13 [o 62 (.fa 1 (.t 1)),o 63 (.ld1 (.t 62)),om 64 3,o 65 (.ixa 1 (.t 63) (.t 64)),o 66 (.ld1 (.t 65)),om 67 4,o 68 (.ixa 1 (.t 66) (.t 67)),o 69 (.ld1 (.t 68)),o 70 (.fa 1 (.t 1)),o 71 (.ld1 (.t 70)),o 72 (.lenL (.t 71)),o 73 (.bin .sub 3 true (.t 72) (.v (.int .i64 1))),o 74 (.call 94 [(.t 69),(.v (.int .i64 0)),(.t 73)])]) (.cond (.t 74) (.seq (.ops [o 2 (.mov (.v (.int .i64 10)))]) .ret) .skip))) (.ops [om 60 4,o 61 (.bin .add 3 true (.t 60) (.v (.int .i64 1))),om 4 61])))
def r50_l1:RC:=(.seq (.seq (.ops [om 23 3,o 24 (.fa 1 (.t 1)),o 25 (.ld1 (.t 24)),o 26 (.lenL (.t 25)),o 27 (.bin .lss 3 false (.t 23) (.t 26))]) (.cond (.t 27) .skip (.exit 0))) (.seq (.block 1 (.seq (.seq (.drw 22 [o 30 (.fa 1 (.t 1)),o 31 (.ld1 (.t 30)),om 32 3,o 33 (.ixa 1 (.t 31) (.t 32)),o 34 (.ld1 (.t 33)),o 35 (.lenL (.t 34)),o 36 (.fa 0 (.t 1)),o 37 (.ld1 (.t 36)),o 38 (.bin .shl 3 true (.v (.int .i64 1)) (.t 37)),o 39 (.bin .neq 3 false (.t 35) (.t 38)),om 40 39,oF 41 40 (.fa 2 (.t 1)),oF 42 40 (.ld1 (.t 41)),oF 43 40 (.mov (.t 3)),oF 44 40 (.ixa 1 (.t 42) (.t 43)),oF 45 40 (.ld1 (.t 44)),oF 46 40 (.lenL (.t 45)),oF 47 40 (.fa 0 (.t 1)),oF 48 40 (.ld1 (.t 47)),oF 49 40 (.bin .shl 3 true (.v (.int .i64 1)) (.t 48)),oF 50 40 (.bin .neq 3 false (.t 46) (.t 49)),o 51 (.pick (.t 40) (.v (.bool true)) (.t 50))]) (.cond (.t 51) (.seq (.ops [o 2 (.mov (.v (.int .i64 2)))]) .ret) .skip)) (.seq (.ops [o 4 (.mov (.v (.int .i64 0)))]) (.block 2 (.loop r50_l0))))) (.ops [om 28 3,o 29 (.bin .add 3 true (.t 28) (.v (.int .i64 1))),om 3 29])))
def r50:RC:=(.seq (.ops [o 1 (.box 72 (.t 0)),o 2 (.mov (.v (.int .i64 0)))]) (.seq (.seq (.ops [o 5 (.fa 0 (.t 1)),o 6 (.ld1 (.t 5)),o 7 (.call 94 [(.t 6),(.v (.int .i64 1)),(.v (.int .i64 4))])]) (.cond (.t 7) (.seq (.ops [o 2 (.mov (.v (.int .i64 3)))]) .ret) .skip)) (.seq (.seq (.ops [o 8 (.fa 1 (.t 1)),o 9 (.ld1 (.t 8)),o 10 (.lenL (.t 9)),o 11 (.bin .eql 3 true (.t 10) (.v (.int .i64 0)))]) (.cond (.t 11) (.seq (.ops [o 2 (.mov (.v (.int .i64 12)))]) .ret) .skip)) (.seq (.seq (.ops [o 12 (.fa 1 (.t 1)),o 13 (.ld1 (.t 12)),o 14 (.lenL (.t 13)),o 15 (.bin .gtr 3 true (.t 14) (.v (.int .i64 256)))]) (.cond (.t 15) (.seq (.ops [o 2 (.mov (.v (.int .i64 5)))]) .ret) .skip)) (.seq (.seq (.ops [o 16 (.fa 2 (.t 1)),o 17 (.ld1 (.t 16)),o 18 (.lenL (.t 17)),o 19 (.fa 1 (.t 1)),o 20 (.ld1 (.t 19)),o 21 (.lenL (.t 20)),o 22 (.bin .neq 3 false (.t 18) (.t 21))]) (.cond (.t 22) (.seq (.ops [o 2 (.mov (.v (.int .i64 2)))]) .ret) .skip)) (.seq (.seq (.ops [o 3 (.mov (.v (.int .i64 0)))]) (.block 0 (.loop r50_l1))) (.seq (.ops [o 2 (.mov (.v (.int .i64 0)))]) .ret)))))))
theorem k50:fnRC 50=some ([.tmp 2],r50):=by kernel_rfl
def r57_l0:RC:=(.seq (.ops [o 20 (.bin .lss 3 false (.t 19) (.t 18))]) (.seq (.cond (.t 20) .skip (.exit 0)) (.seq (.block 1 (.seq (.ops [om 21 19,o 22 (.ixa 1 (.t 17) (.t 19)),o 23 (.ld1 (.t 22)),om 9 21,om 10 23]) (.seq (.seq (.ops [o 24 (.fa 2 (.t 2)),o 25 (.ld1 (.t 24)),om 26 7,o 27 (.ixa 1 (.t 25) (.t 26)),o 28 (.ld1 (.t 27)),om 29 10,o 30 (.ixa 1 (.t 28) (.t 29)),o 31 (.ld1 (.t 30))]) (.cond (.t 31) (.ops [om 32 8,om 33 9,o 34 (.bsl 3 1 1 [(.int .i64 0)] [(0,1,(.t 33))]),o 35 (.app 3 1 8 (.t 32) (.t 34)),om 8 35]) .skip)) (.ops [o 36 (.fa 1 (.t 2)),o 37 (.ld1 (.t 36)),om 38 7,o 39 (.ixa 1 (.t 37) (.t 38)),o 40 (.ld1 (.t 39)),om 41 10,o 42 (.ixa 1 (.t 40) (.t 41)),o 43 (.ld1 (.t 42)),om 7 43])))) (.ops [o 44 (.bin .add 3 true (.t 19) (.v (.int .i64 1))),om 19 44]))))
def r57:RC:=(.seq (.ops [o 2 (.box 69 (.t 0)),o 4 (.mov (.v .nils)),o 5 (.mov (.v (.int .i64 0)))]) (.seq (.seq (.ops [o 11 (.ldn 3 (.t 2)),om 12 1,o 13 (.call 123 [(.t 11),(.t 12)]),om 6 13]) (.seq (.ops [om 14 6,o 15 (.bin .neq 26 true (.t 14) (.v (.int .i64 0)))]) (.cond (.t 15) (.seq (.ops [om 16 6,o 4 (.mov (.v .nils)),om 5 16]) .ret) .skip))) (.seq (.ops [o 7 (.mov (.v (.int .i64 0)))]) (.seq (.ops [o 8 (.mov (.v .nils))]) (.seq (.seq (.ops [om 17 1,o 18 (.lenL (.t 17)),o 19 (.mov (.v (.int .i64 0)))]) (.block 0 (.loop r57_l0))) (.seq (.ops [om 45 8,om 4 45,o 5 (.mov (.v (.int .i64 0)))]) .ret))))))
theorem k57:fnRC 57=some ([.tmp 4,.tmp 5],r57):=by kernel_rfl
def r58_l0:RC:=(.seq (.ops [o 39 (.bin .lss 3 false (.t 38) (.t 37))]) (.seq (.cond (.t 39) .skip (.exit 0)) (.seq (.block 1 (.seq (.ops [om 40 38,o 41 (.ixa 1 (.t 36) (.t 38)),o 42 (.ld1 (.t 41)),om 4 40,om 5 42]) (.seq (.drw 19 [om 43 5,o 44 (.lenL (.t 43)),o 45 (.fa 0 (.t 1)),o 46 (.ld1 (.t 45)),o 47 (.bin .shl 3 true (.v (.int .i64 1)) (.t 46)),o 48 (.bin .neq 3 false (.t 44) (.t 47)),om 49 48,oF 50 49 (.fa 2 (.t 1)),oF 51 49 (.ld1 (.t 50)),oF 52 49 (.mov (.t 4)),oF 53 49 (.ixa 1 (.t 51) (.t 52)),oF 54 49 (.ld1 (.t 53)),oF 55 49 (.lenL (.t 54)),oF 56 49 (.fa 0 (.t 1)),oF 57 49 (.ld1 (.t 56)),oF 58 49 (.bin .shl 3 true (.v (.int .i64 1)) (.t 57)),oF 59 49 (.bin .neq 3 false (.t 55) (.t 58)),o 60 (.pick (.t 49) (.v (.bool true)) (.t 59)),om 6 60]) (.seq (.ops [om 61 5,o 62 (.mkf 126 [] [(.t 1)]),o 63 (.call 125 [(.t 61),(.t 62)]),om 7 63]) (.seq (.ops [om 64 6,o 65 (.call 116 [(.t 64),(.v (.int .i64 2))]),om 66 7,o 67 (.call 116 [(.t 66),(.v (.int .i64 10))]),o 68 (.bsl 26 1 2 [(.int .i64 0),(.int .i64 0)] [(0,1,(.t 65)),(1,1,(.t 67))]),o 69 (.call 89 [(.t 68)]),om 8 69]) (.seq (.ops [om 70 8,o 71 (.bin .neq 26 true (.t 70) (.v (.int .i64 0)))]) (.cond (.t 71) (.seq (.ops [om 72 8,om 2 72]) .ret) .skip))))))) (.ops [o 73 (.bin .add 3 true (.t 38) (.v (.int .i64 1))),om 38 73]))))
def r58:RC:=(.seq (.ops [o 1 (.box 69 (.t 0)),o 2 (.mov (.v (.int .i64 0)))]) (.seq (.seq (.drw 24 [o 9 (.fa 0 (.t 1)),o 10 (.ld1 (.t 9)),o 11 (.call 124 [(.t 10),(.v (.int .i64 1)),(.v (.int .i64 4))]),o 12 (.fa 1 (.t 1)),o 13 (.ld1 (.t 12)),o 14 (.lenL (.t 13)),o 15 (.bin .eql 3 true (.t 14) (.v (.int .i64 0))),o 16 (.call 116 [(.t 15),(.v (.int .i64 12))]),o 17 (.fa 1 (.t 1)),o 18 (.ld1 (.t 17)),o 19 (.lenL (.t 18)),o 20 (.bin .gtr 3 true (.t 19) (.v (.int .i64 256))),o 21 (.call 116 [(.t 20),(.v (.int .i64 5))]),o 22 (.fa 2 (.t 1)),o 23 (.ld1 (.t 22)),o 24 (.lenL (.t 23)),o 25 (.fa 1 (.t 1)),o 26 (.ld1 (.t 25)),o 27 (.lenL (.t 26)),o 28 (.bin .neq 3 false (.t 24) (.t 27)),o 29 (.call 116 [(.t 28),(.v (.int .i64 2))]),
 ⟨some 30,none,some 21,false,.bsl 26 1 4 [(.int .i64 0),(.int .i64 0),(.int .i64 0),(.int .i64 0)] [(0,1,(.t 11)),(1,1,(.t 16)),(2,1,(.t 21)),(3,1,(.t 29))]⟩,o 31 (.call 89 [(.t 30)]),om 3 31]) (.seq (.ops [om 32 3,o 33 (.bin .neq 26 true (.t 32) (.v (.int .i64 0)))]) (.cond (.t 33) (.seq (.ops [om 34 3,om 2 34]) .ret) .skip))) (.seq (.seq (.ops [o 35 (.fa 1 (.t 1)),o 36 (.ld1 (.t 35)),o 37 (.lenL (.t 36)),o 38 (.mov (.v (.int .i64 0)))]) (.block 0 (.loop r58_l0))) (.seq (.ops [o 2 (.mov (.v (.int .i64 0)))]) .ret))))
theorem k58:fnRC 58=some ([.tmp 2],r58):=by kernel_rfl
def r59:RC:=(.seq (.ops [o 1 (.box 69 (.t 0)),o 2 (.al [(.int .i64 0),.nils,.nils] 69),o 3 (.mov (.v (.int .i64 0)))]) (.seq (.seq (.ops [o 5 (.ldn 3 (.t 1)),o 6 (.call 58 [(.t 5)]),om 4 6]) (.seq (.ops [om 7 4,o 8 (.bin .neq 26 true (.t 7) (.v (.int .i64 0)))]) (.cond (.t 8) (.seq (.ops [o 9 (.bld [(.int .i64 0),.nils,.nils] []),om 10 4,oS (.st 3 (.t 2) (.t 9)),om 3 10]) .ret) .skip))) (.seq (.ops [o 11 (.ldn 3 (.t 1)),o 12 (.call 104 [(.t 11)]),oS (.st 3 (.t 2) (.t 12)),o 3 (.mov (.v (.int .i64 0)))]) .ret)))
theorem k59:fnRC 59=some ([.cell 2 69,.tmp 3],r59):=by kernel_rfl
def r60_l0:RC:=(.seq (.seq (.ops [om 31 5,o 32 (.fa 1 (.t 2)),o 33 (.ld1 (.t 32)),o 34 (.lenL (.t 33)),o 35 (.bin .lss 3 false (.t 31) (.t 34))]) (.cond (.t 35) .skip (.exit 0))) (.seq (.block 1 (.seq (.drw 12 [o 38 (.fa 1 (.t 2)),o 39 (.ld1 (.t 38)),om 40 5,o 41 (.ixa 1 (.t 39) (.t 40)),o 42 (.ld1 (.t 41)),o 43 (.fa 1 (.t 3)),o 44 (.ld1 (.t 43)),om 45 5,o 46 (.ixa 1 (.t 44) (.t 45)),o 47 (.ld1 (.t 46)),o 48 (.call 109 [(.t 42),(.t 47)]),o 49 (.un .not (.t 48))]) (.cond (.t 49) (.seq (.ops [o 4 (.mov (.v (.bool false)))]) .ret) .skip))) (.ops [om 36 5,o 37 (.bin .add 3 true (.t 36) (.v (.int .i64 1))),om 5 37])))
def r60_l1:RC:=(.seq (.seq (.ops [om 70 7,o 71 (.fa 2 (.t 2)),o 72 (.ld1 (.t 71)),om 73 6,o 74 (.ixa 1 (.t 72) (.t 73)),o 75 (.ld1 (.t 74)),o 76 (.lenL (.t 75)),o 77 (.bin .lss 3 false (.t 70) (.t 76))]) (.cond (.t 77) .skip (.exit 4))) (.seq (.block 5 (.seq (.drw 17 [o 80 (.fa 2 (.t 2)),o 81 (.ld1 (.t 80)),om 82 6,o 83 (.ixa 1 (.t 81) (.t 82)),o 84 (.ld1 (.t 83)),om 85 7,o 86 (.ixa 1 (.t 84) (.t 85)),o 87 (.ld1 (.t 86)),o 88 (.fa 2 (.t 3)),o 89 (.ld1 (.t 88)),om 90 6,o 91 (.ixa 1 (.t 89) (.t 90)),o 92 (.ld1 (.t 91)),om 93 7,o 94 (.ixa 1 (.t 92) (.t 93)),o 95 (.ld1 (.t 94)),o 96 (.bin .neq 4 false (.t 87) (.t 95))]) (.cond (.t 96) (.seq (.ops [o 4 (.mov (.v (.bool false)))]) .ret) .skip))) (.ops [om 78 7,o 79 (.bin .add 3 true (.t 78) (.v (.int .i64 1))),om 7 79])))
def r60_l2:RC:=(.seq (.seq (.ops [om 50 6,o 51 (.fa 2 (.t 2)),o 52 (.ld1 (.t 51)),o 53 (.lenL (.t 52)),o 54 (.bin .lss 3 false (.t 50) (.t 53))]) (.cond (.t 54) .skip (.exit 2))) (.seq (.block 3 (.seq (.seq (.drw 13 [o 57 (.fa 2 (.t 2)),o 58 (.ld1 (.t 57)),om 59 6,o 60 (.ixa 1 (.t 58) (.t 59)),o 61 (.ld1 (.t 60)),o 62 (.lenL (.t 61)),o 63 (.fa 2 (.t 3)),o 64 (.ld1 (.t 63)),om 65 6,o 66 (.ixa 1 (.t 64) (.t 65)),o 67 (.ld1 (.t 66)),o 68 (.lenL (.t 67)),o 69 (.bin .neq 3 false (.t 62) (.t 68))]) (.cond (.t 69) (.seq (.ops [o 4 (.mov (.v (.bool false)))]) .ret) .skip)) (.seq (.ops [o 7 (.mov (.v (.int .i64 0)))]) (.block 4 (.loop r60_l1))))) (.ops [om 55 6,o 56 (.bin .add 3 true (.t 55) (.v (.int .i64 1))),om 6 56])))
def r60:RC:=(.seq (.ops [o 2 (.box 72 (.t 0)),o 3 (.box 72 (.t 1)),o 4 (.mov (.v (.bool false)))]) (.seq (.seq (.ops [o 8 (.fa 0 (.t 2)),o 9 (.ld1 (.t 8)),o 10 (.fa 0 (.t 3)),o 11 (.ld1 (.t 10)),o 12 (.bin .neq 3 false (.t 9) (.t 11)),om 13 12,oF 14 13 (.fa 1 (.t 2)),oF 15 13 (.ld1 (.t 14)),oF 16 13 (.lenL (.t 15)),oF 17 13 (.fa 1 (.t 3)),oF 18 13 (.ld1 (.t 17)),oF 19 13 (.lenL (.t 18)),oF 20 13 (.bin .neq 3 false (.t 16) (.t 19)),o 21 (.pick (.t 13) (.v (.bool true)) (.t 20)),om 22 21,oF 23 22 (.fa 2 (.t 2)),oF 24 22 (.ld1 (.t 23)),oF 25 22 (.lenL (.t 24)),oF 26 22 (.fa 2 (.t 3)),oF 27 22 (.ld1 (.t 26)),oF 28 22 (.lenL (.t 27)),oF 29 22 (.bin .neq 3 false (.t 25) (.t 28)),o 30 (.pick (.t 22) (.v (.bool true)) (.t 29))]) (.cond (.t 30) (.seq (.ops [o 4 (.mov (.v (.bool false)))]) .ret) .skip)) (.seq (.seq (.ops [o 5 (.mov (.v (.int .i64 0)))]) (.block 0 (.loop r60_l0))) (.seq (.seq (.ops [o 6 (.mov (.v (.int .i64 0)))]) (.block 2 (.loop r60_l2))) (.seq (.ops [o 4 (.mov (.v (.bool true)))]) .ret)))))
theorem k60:fnRC 60=some ([.tmp 4],r60):=by kernel_rfl
def r123:RC:=(.seq (.ops [o 2 (.box 69 (.t 0)),o 4 (.mov (.v (.int .i64 0)))]) (.seq (.seq (.ops [o 6 (.ldn 3 (.t 2)),o 7 (.call 58 [(.t 6)]),om 5 7]) (.seq (.ops [om 8 5,o 9 (.bin .neq 26 true (.t 8) (.v (.int .i64 0)))]) (.cond (.t 9) (.seq (.ops [om 10 5,om 4 10]) .ret) .skip))) (.seq (.ops [o 11 (.fa 0 (.t 2)),o 12 (.ld1 (.t 11)),om 13 1,o 14 (.call 91 [(.t 12),(.t 13)]),om 4 14]) .ret)))
theorem k123:fnRC 123=some ([.tmp 4],r123):=by kernel_rfl
def r126:RC:=(.seq (.ops [o 3 (.mov (.v (.bool false)))]) (.seq (.ops [om 4 0,o 5 (.bin .lss 3 true (.t 4) (.v (.int .i64 0))),om 6 5,oF 7 6 (.mov (.t 0)),oF 8 6 (.fa 1 (.t 1)),oF 9 6 (.ld1 (.t 8)),oF 10 6 (.lenL (.t 9)),oF 11 6 (.bin .geq 3 false (.t 7) (.t 10)),o 12 (.pick (.t 6) (.v (.bool true)) (.t 11)),om 3 12]) .ret))
theorem k126:fnRC 126=some ([.tmp 3],r126):=by kernel_rfl
def r173:RC:=(.seq (.ops [o 2 (.mov (.v .nils))]) (.seq (.seq (.ops [om 3 0,o 4 (.bin .eql 43 true (.t 3) (.v .nils))]) (.cond (.t 4) (.seq (.ops [o 2 (.mov (.v .nils))]) .ret) .skip)) (.seq (.ops [o 5 (.bsl 4 1 0 [] []),om 6 0,o 7 (.app 4 1 1 (.t 5) (.t 6)),om 2 7]) .ret)))
theorem k173:fnRC 173=some ([.tmp 2],r173):=by kernel_rfl
def r215:RC:=(.seq (.ops [o 2 (.mov (.v .nils))]) (.seq (.seq (.ops [om 3 0,o 4 (.bin .eql 40 true (.t 3) (.v .nils))]) (.cond (.t 4) (.seq (.ops [o 2 (.mov (.v .nils))]) .ret) .skip)) (.seq (.ops [o 5 (.bsl 3 1 0 [] []),om 6 0,o 7 (.app 3 1 8 (.t 5) (.t 6)),om 2 7]) .ret)))
theorem k215:fnRC 215=some ([.tmp 2],r215):=by kernel_rfl
def r216:RC:=(.seq (.ops [o 4 (.mov (.v (.bool false)))]) (.seq (.ops [om 9 0,o 10 (.raw (.nilCheck (.tmp 9))),o 11 (.fa 2 (.t 10)),o 12 (.ld1 (.t 11)),om 13 1,o 14 (.ixa 1 (.t 12) (.t 13)),o 15 (.ld1 (.t 14)),om 5 15]) (.seq (.drw 24 [om 16 0,o 17 (.raw (.nilCheck (.tmp 16))),o 18 (.fa 1 (.t 17)),o 19 (.ld1 (.t 18)),om 20 1,o 21 (.ixa 1 (.t 19) (.t 20)),o 22 (.ld1 (.t 21)),om 23 0,o 24 (.raw (.nilCheck (.tmp 23))),o 25 (.fa 3 (.t 24)),o 26 (.ld1 (.t 25)),om 27 5,o 28 (.ixa 1 (.t 26) (.t 27)),o 29 (.ld1 (.t 28)),om 30 0,o 31 (.raw (.nilCheck (.tmp 30))),o 32 (.fa 5 (.t 31)),o 33 (.ld1 (.t 32)),om 34 5,o 35 (.ixa 1 (.t 33) (.t 34)),o 36 (.ld1 (.t 35)),o 37 (.bin .add 3 false (.t 29) (.t 36)),om 6 22,om 7 37]) (.seq (.seq (.ops [om 38 6,om 39 7,o 40 (.bin .lss 3 false (.t 38) (.t 39))]) (.cond (.t 40) (.seq (.ops [o 4 (.mov (.v (.bool false)))]) .ret) .skip)) (.seq (.ops [om 41 0,o 42 (.raw (.nilCheck (.tmp 41))),o 43 (.fa 0 (.t 42)),o 44 (.ld1 (.t 43)),om 45 7,o 46 (.ixa 1 (.t 44) (.t 45)),o 47 (.ld1 (.t 46)),om 8 47]) (.seq (.drw 16 [om 48 0,o 49 (.raw (.nilCheck (.tmp 48))),o 50 (.fa 0 (.t 49)),o 51 (.ld1 (.t 50)),om 52 6,om 53 0,o 54 (.raw (.nilCheck (.tmp 53))),o 55 (.fa 0 (.t 54)),o 56 (.ld1 (.t 55)),om 57 7,om 58 8,om 59 1,o 60 (.ixa 1 (.t 51) (.t 52)),
 ⟨none,none,none,true,.st 1 (.t 60) (.t 58)⟩,o 61 (.ixa 1 (.t 56) (.t 57)),
 ⟨none,none,none,true,.st 1 (.t 61) (.t 59)⟩]) (.seq (.drw 16 [om 62 0,o 63 (.raw (.nilCheck (.tmp 62))),o 64 (.fa 1 (.t 63)),o 65 (.ld1 (.t 64)),om 66 8,om 67 0,o 68 (.raw (.nilCheck (.tmp 67))),o 69 (.fa 1 (.t 68)),o 70 (.ld1 (.t 69)),om 71 1,om 72 6,om 73 7,o 74 (.ixa 1 (.t 65) (.t 66)),
 ⟨none,none,none,true,.st 1 (.t 74) (.t 72)⟩,o 75 (.ixa 1 (.t 70) (.t 71)),
 ⟨none,none,none,true,.st 1 (.t 75) (.t 73)⟩]) (.seq (.ops [om 76 0,o 77 (.raw (.nilCheck (.tmp 76))),o 78 (.fa 5 (.t 77)),o 79 (.ld1 (.t 78)),om 80 5,o 81 (.ixa 1 (.t 79) (.t 80)),o 82 (.ld1 (.t 81)),o 83 (.bin .add 3 true (.t 82) (.v (.int .i64 1))),o 84 (.ixa 1 (.t 79) (.t 80)),oS (.st 1 (.t 84) (.t 83))]) (.seq (.ops [om 85 0,o 86 (.raw (.nilCheck (.tmp 85))),o 87 (.fa 5 (.t 86)),o 88 (.ld1 (.t 87)),om 89 5,o 90 (.ixa 1 (.t 88) (.t 89)),o 91 (.ld1 (.t 90)),o 92 (.bin .eql 3 true (.t 91) (.v (.int .i64 1))),om 4 92]) .ret)))))))))
theorem k216:fnRC 216=some ([.tmp 4],r216):=by kernel_rfl
end Go.Am
namespace Go.Am
open Go
variable [MaxLen]
set_option maxRecDepth 100000
section
variable (X:Cx)
def srcG (len:Nat)(x:Option (List AV)):Option (Nat×List AV):=match x with
 |some r=>some (len,r)
 |none=>none
def srcK (len k o:Nat)(x:Option (List AV)):Option (Nat×List AV):=match x with
 |some c=>srcG len (grab k o c)
 |none=>none
theorem srcG_some (len:Nat)(r:List AV):srcG len (some r)=some (len,r):=(fun h=>h) rfl
theorem srcK_some (len k o:Nat)(c:List AV):srcK len k o (some c)=srcG len (grab k o c):=(fun h=>h) rfl
theorem source_sl (n b o len:Nat)(cap:Option Nat)(z:Nat)(s:St):sourceA n (.sl b o len cap z) s=srcK len (len*n) o (cellsOf (s.get b)):=by
 simp only[sourceA,←cells_get,srcK,srcG]
 rfl
theorem source_nils (n:Nat)(s:St):sourceA n .nils s=some (0,[]):=(fun h=>h) rfl
theorem source_str (n:Nat)(l:List UInt8)(s:St):sourceA n (.str l) s=some (l.length,l.map fun c=>.int .u8 c.toNat):=(fun h=>h) rfl
def appS (t:TypeId)(n m:Nat)(new:List AV)(b o len:Nat)(esz:Nat)(s:St)(x:Option Blk):Option (AV×St):=match x with
 |some (.cells c e0 false flo fhi)=>match grab (len*n) o c with
  |some old=>if esz=n∧fhi≤o+len*n∧e0=t∧new.all noAgg=true then
    some (.sl s.next 0 (len+m) none n,(s.put b .gone).new (.cells (old++new) t false (flo-o) (fhi-o)))
   else none
  |none=>none
 |_=>none
def appD (t:TypeId)(n m:Nat)(new:List AV)(d:AV)(s:St):Option (AV×St):=match d with
 |.nils=>some (.sl s.next 0 m none n,s.new (.cells new t false 0 0))
 |.sl b o len cap esz=>match s.cells b with
  |some c=>match grab (len*n) o c with
   |some old =>
    match cap with
    |some k=>if len+m≤k then
      if esz=n then match writeCells s b (o+len*n) new with
       |some s'=>some (.sl b o (len+m) (some k) n,s')
       |none=>none
      else none
     else some (.sl s.next 0 (len+m) none n,s.new (.cells (old++new) t false 0 0))
    |none=>match s.get b with
     |some (.cells _ e0 false flo fhi) =>
      if esz=n∧fhi≤o+len*n∧e0=t∧new.all noAgg=true then
       some (.sl s.next 0 (len+m) none n,(s.put b .gone).new (.cells (old++new) t false (flo-o) (fhi-o)))
      else none
     |_=>none
   |none=>none
  |none=>none
 |_=>none
def app0 (d:AV)(s:St):Option (AV×St):=match d with
 |.nils=>some (d,s)
 |.sl ..=>some (d,s)
 |.fz _=>some (d,s)
 |_=>none
def appK (t:TypeId)(n bytes:Nat)(d:AV)(x:Option (Nat×List AV))(s:St):Option (AV×St):=match x with
 |some (m,new) =>
  if new.length≠m*n∨(lenA d+m)*bytes>2^40∨lenA d+m>2^40 then none
  else if m=0 then app0 d s else appD t n m new d s
 |none=>none
theorem app_eq (t:TypeId)(n bytes:Nat)(d x:AV)(s:St):appR t n bytes d x s=appK t n bytes d (sourceA n x s) s:=by
 unfold appR appK appD app0
 rfl
theorem appK_some {t:TypeId}{n bytes:Nat}{d:AV}{m:Nat}{new:List AV}{s:St}(h1:new.length=m*n)(h2:(lenA d+m)*bytes≤2^40)(h3:lenA d+m≤2^40)(h4:m≠0) :
  appK t n bytes d (some (m,new)) s=appD t n m new d s:=by
 simp only[appK]
 rw[if_neg (by omega),if_neg h4]
theorem appD_nils (t:TypeId)(n m:Nat)(new:List AV)(s:St):appD t n m new .nils s=some (.sl s.next 0 m none n,s.new (.cells new t false 0 0)):=(fun h=>h) rfl
theorem appD_sl (t:TypeId)(n m:Nat)(new:List AV)(b o len esz:Nat)(s:St):appD t n m new (.sl b o len none esz) s=appS t n m new b o len esz s (s.get b):=by
 simp only[appD,appS,St.cells]
 cases s.get b with
 |none=>rfl
 |some x =>
  cases x <;> simp only
  rename_i c e0 ro lo hi
  cases ro <;> simp only
  cases grab (len*n) o c <;> rfl
theorem appS_cells {t:TypeId}{n m:Nat}{new:List AV}{b len:Nat}{s:St}{cs:List AV}{lo hi:Nat}(hl:cs.length=len*n)(hh:hi≤len*n)(hna:new.all noAgg=true) :
  appS t n m new b 0 len n s (some (.cells cs t false lo hi))=some (.sl s.next 0 (len+m) none n,(s.put b .gone).new (.cells (cs++new) t false lo hi)):=by
 simp only[appS]
 rw[←hl,grab_all]
 simp only[true_and]
 rw[if_pos ⟨by omega,hna⟩]
 simp
theorem lenA_nils:lenA .nils=0:=(fun h=>h) rfl
theorem lenA_sl (b o n:Nat)(c:Option Nat)(z:Nat):lenA (.sl b o n c z)=n:=(fun h=>h) rfl
theorem lenA_fz (l:List AV):lenA (.fz l)=l.length:=(fun h=>h) rfl
def RowI (s:St)(B:Nat)(t:TypeId)(n i:Nat)(cs:List AV)(v:AV):Prop :=
 (i=0∧v=.nils∧cs=[])∨(0<i∧cs.length=i*n∧∃b,B≤b∧b<s.next∧v=.sl b 0 i none n∧s.get b=some (.cells cs t false 0 0))
theorem RowI.nil (s:St)(B:Nat)(t:TypeId)(n:Nat):RowI s B t n 0 [] .nils:=.inl ⟨rfl,rfl,rfl⟩
theorem RowI.noAgg {s:St}{B:Nat}{t:TypeId}{n i:Nat}{cs:List AV}{v:AV}(h:RowI s B t n i cs v):noAgg v=true:=by
 rcases h with⟨_,rfl,_⟩|⟨_,_,b,_,_,rfl,_⟩ <;> rfl
theorem RowI.cells {s:St}{B:Nat}{t:TypeId}{n i:Nat}{cs:List AV}{v:AV}(h:RowI s B t n i cs v):v.cells=[v]:=by
 rcases h with⟨_,rfl,_⟩|⟨_,_,b,_,_,rfl,_⟩ <;> rfl
theorem RowI.len {s:St}{B:Nat}{t:TypeId}{n i:Nat}{cs:List AV}{v:AV}(h:RowI s B t n i cs v):lenRL v=some (.int .i64 i):=by
 rcases h with⟨rfl,rfl,_⟩|⟨_,_,b,_,_,rfl,_⟩ <;> rfl
theorem RowI.lenA {s:St}{B:Nat}{t:TypeId}{n i:Nat}{cs:List AV}{v:AV}(h:RowI s B t n i cs v):Go.Am.lenA v=i:=by
 rcases h with⟨rfl,rfl,_⟩|⟨_,_,b,_,_,rfl,_⟩ <;> rfl
theorem RowI.mono {s s':St}{B:Nat}{t:TypeId}{n i:Nat}{cs:List AV}{v:AV}(h:RowI s B t n i cs v)(hn:s.next≤s'.next)(hg:∀j,B≤j→j<s.next→s'.get j=s.get j):RowI s' B t n i cs v:=by
 rcases h with⟨h0,h1,h2⟩|⟨h0,h1,b,h2,h3,h4,h5⟩
 ·exact .inl ⟨h0,h1,h2⟩
 ·exact .inr ⟨h0,h1,b,h2,by omega,h4,by rw[hg b h2 h3];exact h5⟩
theorem RowI.app {s:St}{B:Nat}{t:TypeId}{n i:Nat}{cs:List AV}{v:AV}(h:RowI s B t n i cs v)(hB:B≤s.next){m:Nat}{new:List AV}(hm:m≠0)(hl:new.length=m*n)(hna:new.all Go.Am.noAgg=true) :
  ∃s1,appD t n m new v s=some (.sl s.next 0 (i+m) none n,s1)∧s1.next=s.next+1∧RowI s1 B t n (i+m) (cs++new) (.sl s.next 0 (i+m) none n)∧(∀j,j<B→s1.get j=s.get j)∧(Fr s→Fr s1):=by
 rcases h with⟨rfl,rfl,rfl⟩|⟨h0,h1,b,h2,h3,rfl,h5⟩
 ·refine⟨s.new (.cells new t false 0 0),by rw[appD_nils,Nat.zero_add],rfl,.inr ⟨by omega,by rw[Nat.zero_add,List.nil_append];exact hl,s.next,hB,by rw[next_new];omega,rfl,by rw[get_new,if_pos rfl];rfl⟩,fun j hj=>by rw[get_new,if_neg (by omega)],fun hf=>hf.new _⟩
 ·refine⟨(s.put b .gone).new (.cells (cs++new) t false 0 0),by rw[appD_sl,h5,appS_cells h1 (by omega) hna],rfl,.inr ⟨by omega,by rw[List.length_append,h1,hl,Nat.add_mul],s.next,hB,by rw[next_new,next_put];omega,rfl,?_⟩,fun j hj=>?_,fun hf=>(hf.put h3 _).new _⟩
  ·rw[get_new,next_put,if_pos rfl]
  ·rw[get_new,next_put,if_neg (by omega),get_put,if_neg (by omega)]
theorem chunks_enc {A:Type}(enc:A→AV)(n:Nat)(hc:∀a,∃c,enc a=.agg c∧c.length=n):∀l:List A,chunksA true n l.length (l.flatMap fun a=>(enc a).cells)=l.map enc
 |[]=>rfl
 |a::l=>by
  obtain⟨c,h1,h2⟩:=hc a
  have ih:=chunks_enc enc n hc l
  rw[List.length_cons,chunks_agg,List.flatMap_cons,h1,cells_agg,List.map_cons,h1]
  rw[show (c++l.flatMap fun a=>(enc a).cells).take n=c from by rw[←h2,List.take_left],show (c++l.flatMap fun a=>(enc a).cells).drop n=l.flatMap fun a=>(enc a).cells from by rw[←h2,List.drop_left],ih]
theorem mapO_self {f:AV→Option AV}:∀{l:List AV},(∀x∈l,f x=some x)→mapO f l=some l
 |[],_=>rfl
 |x::l,h=>by
  rw[mapO,h x (List.mem_cons_self ..),mapO_self fun y hy=>h y (List.mem_cons_of_mem _ hy)]
theorem RowI.frz_agg {s:St}{B:Nat}{t:TypeId}{n:Nat}{A:Type}{enc:A→AV}{l:List A}{v:AV}(h:RowI s B t n l.length (l.flatMap fun a=>(enc a).cells) v)(hag:isAggT X t=some true)(hsz:size X t=some n)(hn:n≠0)
  (hc:∀a,∃c,enc a=.agg c∧c.length=n){d:Nat}(hf:∀a,frz X s d (enc a)=some (enc a)):frz X s (d+1) v=some (encS true (l.map enc)):=by
 rcases h with⟨h0,rfl,_⟩|⟨h0,h1,b,_,_,rfl,hg⟩
 ·have:l=[]:=List.length_eq_zero_iff.1 h0
  subst this;rfl
 ·rw[frz_sl,hg,frzS_cells,←h1,grab_all,hag,hsz]
  cases n with
  |zero=>exact absurd rfl hn
  |succ n =>
   rw[frzT_agg,chunks_enc enc (n+1) hc,mapO_self (fun x hx=>?_),fzK_some]
   ·cases l with
    |nil=>simp at h0
    |cons a l=>rfl
   ·obtain⟨a,_,rfl⟩:=List.mem_map.1 hx
    exact hf a
theorem RowI.frz_one {s:St}{B:Nat}{t:TypeId}{l:List AV}{v:AV}(h:RowI s B t 1 l.length l v)(hag:isAggT X t=some false)(hsz:size X t=some 1)(hna:l.all Go.Am.noAgg=true)
  {d:Nat}{r:List AV}(hf:mapO (frz X s d) l=some r):frz X s (d+1) v=some (encS true r):=by
 rcases h with⟨h0,rfl,_⟩|⟨h0,h1,b,_,_,rfl,hg⟩
 ·have:l=[]:=List.length_eq_zero_iff.1 h0
  subst this
  simp only[mapO] at hf;cases hf;rfl
 ·rw[frz_sl,hg,frzS_cells,Nat.mul_one,grab_all,hag,hsz,frzT_one,if_pos hna,chunks_all,hf,fzK_some]
  cases r with
  |nil =>
   exfalso
   cases l with
   |nil=>simp at h0
   |cons a l =>
    simp only[mapO] at hf
    split at hf <;> cases hf
  |cons a r=>rfl
end
attribute [go_sem] srcG_some srcK_some source_sl source_nils source_str app_eq appD_nils appD_sl lenA_nils lenA_sl lenA_fz
end Go.Am
namespace Go.Am
open Go
variable [MaxLen]
set_option maxRecDepth 100000
set_option maxHeartbeats 8000000
theorem calv_fn (X:Cx)(g:FuncId)(x y args:List AV)(s:St):calv X (.fn (.func g) x y) args s=callK X (calV X g (x++args++y)) g (x++args++y) s:=by
 rw[←callK_eq];rfl
attribute [go_sem] calv_fn List.nil_append List.append_nil List.cons_append
theorem bin_shl1 (X:Cx)(t:TypeId)(c:Bool)(j:IntKind){n:Int}(h:0≤n∧n≤16):binA X .shl t c (.int .i64 1) (.int j n)=some (.int .i64 (2^n.toNat)):=by
 obtain⟨h0,h1⟩:=h
 have hn:¬n<0:=by omega
 simp only[binA,shiftA,hn,if_false]
 have hm:min n.toNat IntKind.i64.bits=n.toNat:=by
  have:IntKind.i64.bits=64:=rfl
  rw[this];omega
 rw[hm,Int.one_mul]
 have hp:(2:Int)^n.toNat≤2^16:=by
  have h2:(2:Nat)^n.toNat≤2^16:=Nat.pow_le_pow_right (by omega) (by omega)
  exact_mod_cast h2
 have hp0:(0:Int)≤2^n.toNat:=Int.pow_nonneg (by omega)
 rw[wrap_i64 (by omega) (by omega)]
def atI (l:List Int)(t:Int):Int:=l.getD t.toNat 0
theorem atI_get {l:List Int}{t:Int}(h1:t.toNat<l.length):l[t.toNat]? = some (atI l t):=by
 unfold atI;rw[List.getD_eq_getElem?_getD,List.getElem?_eq_getElem h1];rfl
theorem intsE_get {l:List Int}{t:Int}(h:t.toNat<l.length):(ints l)[t.toNat]? = some (.int .i64 (atI l t)):=by
 rw[ints_get,atI_get h];rfl
theorem ixa_sig {nl:Bool}{l:List Int}{t:Int}(h0:0≤t)(h1:t.toNat<l.length):ixRA 1 (encS nl (ints l)) (.int .i64 t)=some (.fp [.int .i64 (atI l t)] 0) :=
 ixa_encS 1 nl (ints l) .i64 t (.int .i64 (atI l t)) h0 (intsE_get h1) rfl (by decide)
theorem ixa_sigN {nl:Bool}{l:List Int}{t:Nat}(h1:t<l.length):ixRA 1 (encS nl (ints l)) (.int .i64 (t:Int))=some (.fp [.int .i64 (atI l (t:Int))] 0) :=
 ixa_sig (by omega) (by omega)
theorem br_zeroH {p:Bool}{e x:Int}(h:br p e x=0)(he:e≠0):p=false∧x=0:=by
 cases p
 ·exact⟨rfl,h⟩
 ·exact absurd h he
theorem outside_ok {n a b:Int}(h:outside n a b=false):a≤n∧n≤b:=by
 unfold outside at h
 simp only[Bool.or_eq_false_iff,decide_eq_false_iff_not] at h
 omega
theorem noAgg_bools (l:List Bool):(bools l).all noAgg=true:=by
 rw[List.all_eq_true];intro x hx
 obtain⟨b,_,rfl⟩:=List.mem_map.1 hx;rfl
theorem noAgg_ints (l:List Int):(ints l).all noAgg=true:=by
 rw[List.all_eq_true];intro x hx
 obtain⟨b,_,rfl⟩:=List.mem_map.1 hx;rfl
theorem frz_bools (s:St)(d:Nat)(l:List Bool):mapO (frz U s (d+1)) (bools l)=some (bools l):=mapO_self fun x hx=>by
 obtain⟨b,_,rfl⟩:=List.mem_map.1 hx;rfl
theorem frz_ints (s:St)(d:Nat)(l:List Int):mapO (frz U s (d+1)) (ints l)=some (ints l):=mapO_self fun x hx=>by
 obtain⟨b,_,rfl⟩:=List.mem_map.1 hx;rfl
theorem bools_len (l:List Bool):(bools l).length=l.length:=by simp[bools]
theorem RowI.frz_bools {s:St}{B:Nat}{l:List Bool}{v:AV}(h:RowI s B 4 1 l.length (bools l) v)(d:Nat):frz U s (d+2) v=some (encS true (bools l)):=by
 have h':RowI s B 4 1 (bools l).length (bools l) v:=by rw[bools_len];exact h
 exact h'.frz_one U ag_4 sz_4 (noAgg_bools l) (Go.Am.frz_bools s d l)
theorem RowI.frz_ints {s:St}{B:Nat}{l:List Int}{v:AV}(h:RowI s B 3 1 l.length (ints l) v)(d:Nat):frz U s (d+2) v=some (encS true (ints l)):=by
 have h':RowI s B 3 1 (ints l).length (ints l) v:=by rw[ints_len];exact h
 exact h'.frz_one U ag_3 sz_3 (noAgg_ints l) (Go.Am.frz_ints s d l)
theorem bools_get (l:List Bool)(i:Nat):(bools l)[i]? = (l[i]?).map .bool:=by simp[bools]
theorem pow_le16 (n:Int)(h1:n≤16):(1:Int)≤2^n.toNat∧(2:Int)^n.toNat≤65536:=by
 obtain⟨k,hk⟩:∃k:Nat,n.toNat=k:=⟨_,rfl⟩
 rw[hk]
 have:∀k:Fin 17,(1:Int)≤2^k.val∧(2:Int)^k.val≤65536:=by decide
 exact this ⟨k,by omega⟩
def anyOut (lines:Int)(l:List Int):Bool:=l.any fun x=>outside x 0 (2^lines.toNat-1)
def ckSig (lines:Int)(l:List Int):Int:=br (decide ((l.length:Int)>4096)) 5 (br (anyOut lines l) 3 0)
theorem c28 (lines:Int)(h0:1≤lines)(h1:lines≤16)(nl:Bool)(l:List Int):calV U 28 [.int .i64 lines,encS nl (ints l)]=some (.int .i64 (ckSig lines l)):=by
 refine pure_go k28 (by kernel_rfl) (by simp[stills,still_encS,still]) ?_
 rw[ckSig]
 simp (maxSteps:=2000000) +contextual only[go_sem,↓reduceIte,r28,lenL_encS,ints_len]
 simp only[brI_some]
 refine br_r fun hle=>?_
 have hle:l.length≤4096:=by simp at hle;omega
 refine loop_to (σ:=Nat) (fun i=>l.length-i) (fun i=>some (AV.int .i64 (br (anyOut lines (l.drop i)) 3 0))) (fun i e s=>i≤l.length∧Env.get e 0=.int .i64 lines∧Env.get e 1=encS nl (ints l)∧Env.get e 5=.int .i64 i) 0 ?_ ?_ ?_
 ·rintro L i e s ⟨hi,g0,g1,g5⟩ ih
  by_cases hd:i<l.length
  ·have hx:=ixa_sigN (nl:=nl) hd
   have hw:=wrap_succ hd (by omega)
   have hp:=pow_le16 lines h1
   have hw2:IntKind.i64.wrap (2^lines.toNat-1)=2^lines.toNat-1:=by rw[wrap_i64] <;> omega
   have hat:atI l (i:Int)=l[i]:=by unfold atI;rw[Int.toNat_natCast,List.getD_eq_getElem?_getD,List.getElem?_eq_getElem hd];rfl
   rw[hat] at hx
   simp +contextual only[go_sem,↓reduceIte,r28_l0,g0,g1,g5,nat_lt_dec,hd,hx,lenL_encS,ints_len,bin_shl1 U _ _ _ (show 0≤lines∧lines≤16 from⟨by omega,h1⟩),hw2,c94]
   rw[List.drop_eq_getElem_cons hd,anyOut,List.any_cons]
   cases hb:outside l[i] 0 (2^lines.toNat-1) with
   |true=>simp +contextual only[go_sem,↓reduceIte,Bool.true_or]
   |false =>
    simp +contextual only[go_sem,↓reduceIte,hw,Bool.false_or]
    refine ih (i+1) _ _ (by omega) ⟨by omega,?_,?_,?_⟩ <;> simp +contextual only[go_sem,↓reduceIte,g0,g1,g5,hw]
  ·have:i=l.length:=by omega
   subst this
   simp +contextual only[go_sem,↓reduceIte,r28_l0,g0,g1,g5,nat_lt_dec,Nat.lt_irrefl,lenL_encS,ints_len]
   rw[List.drop_length];rfl
 ·simp only[List.drop_zero,brI_some]
 ·refine⟨Nat.zero_le _,?_,?_,?_⟩ <;> simp +contextual only[go_sem,↓reduceIte] <;> rfl
theorem loop_ex {X:Cx}{β:Type}{fin:Fl→β}{ks:List K} [Stat] {b:RC}{σ:Type}{Post:β→Prop}(m:σ→Nat)(I:σ→Env→St→Prop)(x:σ){e:Env}{s:St}
  (h:∀(L:RC) (x:σ) (e:Env) (s:St),I x e s→(∀(y:σ) (e':Env) (s':St),m y<m x→I y e' s'→Post (goL X fin ks L e' s'))→Post (go X fin (.lp L::ks) b e s))
  (hI:I x e s):Post (goL X fin ks b e s):=by
 have key:∀n (x:σ) (e:Env) (s:St),m x=n→I x e s→Post (goL X fin ks b e s):=by
  intro n
  induction n using Nat.strongRecOn with
  |ind n ih =>
   intro x e s hx hI
   rw[goL_eq]
   exact h b x e s hI fun y e' s' hy hI'=>ih (m y) (by omega) y e' s' rfl hI'
 exact key _ x e s rfl hI
theorem RowI.app2 {s:St}{B:Nat}{t:TypeId}{n i:Nat}{cs:List AV}{v:AV}(h:RowI s B t n i cs v)(hB:B≤s.next){m:Nat}{new:List AV}(hm:m≠0)(hl:new.length=m*n)(hna:new.all Go.Am.noAgg=true) :
  ∃s1,appD t n m new v s=some (.sl s.next 0 (i+m) none n,s1)∧s1.next=s.next+1∧RowI s1 B t n (i+m) (cs++new) (.sl s.next 0 (i+m) none n)∧(∀j,j≠s.next→v≠.sl j 0 i none n→s1.get j=s.get j)∧(Fr s→Fr s1):=by
 rcases h with⟨rfl,rfl,rfl⟩|⟨h0,h1,b,h2,h3,rfl,h5⟩
 ·refine⟨s.new (.cells new t false 0 0),by rw[appD_nils,Nat.zero_add],rfl,.inr ⟨by omega,by rw[Nat.zero_add,List.nil_append];exact hl,s.next,hB,by rw[next_new];omega,rfl,by rw[get_new,if_pos rfl];rfl⟩,fun j hj _=>by rw[get_new,if_neg (by omega)],fun hf=>hf.new _⟩
 ·refine⟨(s.put b .gone).new (.cells (cs++new) t false 0 0),by rw[appD_sl,h5,appS_cells h1 (by omega) hna],rfl,.inr ⟨by omega,by rw[List.length_append,h1,hl,Nat.add_mul],s.next,hB,by rw[next_new,next_put];omega,rfl,?_⟩,fun j hj hv=>?_,fun hf=>(hf.put h3 _).new _⟩
  ·rw[get_new,next_put,if_pos rfl]
  ·have:b≠j:=fun e=>hv (by rw[e])
   rw[get_new,next_put,if_neg (by omega),get_put,if_neg this]
theorem RowI.far {s:St}{B:Nat}{t:TypeId}{n i:Nat}{cs:List AV}{v:AV}(h:RowI s B t n i cs v){j:Nat}(hj:s.next≤j∨j<B):v≠.sl j 0 i none n:=by
 rintro rfl
 rcases h with⟨_,h,_⟩|⟨_,_,b,h1,h2,h3,_⟩
 ·cases h
 ·cases h3;omega
theorem RowI.other {s:St}{B:Nat}{t:TypeId}{n i:Nat}{cs:List AV}{v:AV}(h:RowI s B t n i cs v){j:Nat}{c:List AV}{t':TypeId}{lo hi:Nat}(hj:s.get j=some (.cells c t' false lo hi))(ht:t'≠t):v≠.sl j 0 i none n:=by
 rintro rfl
 rcases h with⟨_,h,_⟩|⟨_,_,b,h1,h2,h3,h4⟩
 ·cases h
 ·cases h3
  rw[hj] at h4
  cases h4;exact ht rfl
theorem go_drcU {β:Type}{c:Code}{n:Nat}{l:List ROC}(h:rcDrc U c=some (n,l))(fin:Fl→β)(ks:List K)(e:Env)(s:St):go U fin ks (.raw c) e s =
  bif noneC s.next s l then goC U (backC U fin ks c e s) fin ks s.next l e (s.upto (s.next+n)) [s.upto (s.next+n)] [] else backC U fin ks c e s:=go_drc U h fin ks e s
theorem repeatL_one (x:AV):∀n:Nat,repeatL n [x]=List.replicate n x
 |0=>rfl
 |n+1=>by rw[repeatL,repeatL_one x n];rfl
theorem lay_set:∀(cs:List AV) (i:Nat) (x:AV),i<cs.length→lay i [x] cs=some (cs.set i x)
 |[],i,x,h=>by simp at h
 |c::cs,0,x,h=>by rw[lay_zero,lay_nil];rfl
 |c::cs,i+1,x,h=>by
  rw[lay_succ,lay_set cs i x (by simpa using h)];rfl
def part {A:Type}(l:List A)(z:A)(n i:Nat):List A:=l.take i++List.replicate (n-i) z
theorem frz_slI {s:St}{b d:Nat}{cap:Option Nat}{l:List Int}(hg:s.get b=some (.cells (ints l) 3 false 0 0)):frz U s (d+2) (.sl b 0 l.length cap 1)=some (.fz (ints l)):=by
 have e:l.length=(ints l).length:=(ints_len l).symm
 rw[frz_sl,hg,frzS_cells,Nat.mul_one,e,grab_all,ag_3,sz_3,frzT_one,if_pos (noAgg_ints l),chunks_all,frz_ints,fzK_some]
theorem c159 (x lines:Int)(h0:1≤lines)(h1:lines≤16):calV U 159 [.int .i64 x,.fp [.int .i64 lines] 0]=some (.bool (outside x 0 (2^lines.toNat-1))):=by
 refine pure_go k159 (by kernel_rfl) (by simp[stills,still]) ?_
 have hp:(decide (x<0)||decide (x≥2^lines.toNat))=outside x 0 (2^lines.toNat-1):=by
  unfold outside
  congr 1
  congr 1
  apply propext;omega
 rw[←hp]
 simp +contextual only[go_sem,↓reduceIte,r159,bin_shl1 U _ _ _ (show 0≤lines∧lines≤16 from⟨by omega,h1⟩)]
def idxO (P:Int→Bool):Nat→List Int→Int
 |_,[] => -1
 |i,x::l=>bif P x then (i:Int) else idxO P (i+1) l
theorem idxO_any (P:Int→Bool):∀(l:List Int) (i:Nat),decide (idxO P i l≥0)=l.any P
 |[],i=>by simp[idxO]
 |x::l,i=>by
  rw[idxO,List.any_cons]
  cases P x with
  |true=>simp
  |false=>rw[cond_false,idxO_any P l (i+1),Bool.false_or]
theorem c179 (nl:Bool)(l:List Int)(lines:Int)(h0:1≤lines)(h1:lines≤16)(hl:l.length≤2^40) :
  calV U 179 [encS nl (ints l),.fn (.func 159) [] [.fp [.int .i64 lines] 0]]=some (.int .i64 (idxO (fun x=>outside x 0 (2^lines.toNat-1)) 0 l)):=by
 refine pure_go k179 (by kernel_rfl) (by simp[stills,still,still_encS]) ?_
 simp +contextual only[go_sem,↓reduceIte,r179,lenL_encS,ints_len]
 refine loop_to (σ:=Nat) (fun i=>l.length-i) (fun i=>some (AV.int .i64 (idxO (fun x=>outside x 0 (2^lines.toNat-1)) i (l.drop i)))) (fun i e s=>i≤l.length∧Env.get e 0=encS nl (ints l)∧Env.get e 1=.fn (.func 159) [] [.fp [.int .i64 lines] 0]∧Env.get e 7=.int .i64 l.length∧Env.get e 8=.int .i64 i) 0 ?_ rfl ?_
 ·rintro L i e s ⟨hi,g0,g1,g7,g8⟩ ih
  by_cases hd:i<l.length
  ·have hx:=ixa_sigN (nl:=nl) hd
   have hw:=wrap_succ hd (by omega)
   have hat:atI l (i:Int)=l[i]:=by unfold atI;rw[Int.toNat_natCast,List.getD_eq_getElem?_getD,List.getElem?_eq_getElem hd];rfl
   rw[hat] at hx
   have hc:=c159 l[i] lines h0 h1
   rw[List.drop_eq_getElem_cons hd,idxO]
   simp +contextual only[go_sem,↓reduceIte,r179_l0,g0,g1,g7,g8,nat_lt_dec,hd,hx,hc]
   cases hb:outside l[i] 0 (2^lines.toNat-1) with
   |true=>simp +contextual only[go_sem,↓reduceIte]
   |false =>
    simp +contextual only[go_sem,↓reduceIte,hw]
    refine ih (i+1) _ _ (by omega) ⟨by omega,?_,?_,?_,?_⟩ <;> simp +contextual only[go_sem,↓reduceIte,g0,g1,g7,g8,hw]
  ·have:i=l.length:=by omega
   subst this
   simp +contextual only[go_sem,↓reduceIte,r179_l0,g0,g1,g7,g8,nat_lt_dec,Nat.lt_irrefl]
   rw[List.drop_length];rfl
 ·refine⟨Nat.zero_le _,?_,?_,?_,?_⟩ <;> simp +contextual only[go_sem,↓reduceIte] <;> rfl
theorem c125 (nl:Bool)(l:List Int)(lines:Int)(h0:1≤lines)(h1:lines≤16)(hl:l.length≤2^40) :
  calV U 125 [encS nl (ints l),.fn (.func 159) [] [.fp [.int .i64 lines] 0]]=some (.bool (anyOut lines l)):=by
 refine pure_go k125 (by kernel_rfl) (by simp[stills,still,still_encS]) ?_
 have:=c179 nl l lines h0 h1 hl
 have hi:=idxO_any (fun x=>outside x 0 (2^lines.toNat-1)) l 0
 simp +contextual only[go_sem,↓reduceIte,r125,this,hi]
 rfl
theorem z125 {args:List AV}{s:St}(h:stills args=false):callK U (calV U 125 args) 125 args s=calZ U 125 (mapO (frz U s 40) args) s:=z_of (by kernel_rfl) s h
theorem c91 (nl:Bool)(l:List Int)(lines:Int)(h0:1≤lines)(h1:lines≤16):calV U 91 [.int .i64 lines,encS nl (ints l)]=some (.int .i64 (ckSig lines l)):=by
 refine pure_go k91 (by kernel_rfl) (by simp[stills,still,still_encS]) ?_
 rw[ckSig]
 cases hb:decide ((l.length:Int)>4096) with
 |true =>
  simp +contextual only[go_sem,↓reduceIte,r91,lenL_encS,ints_len,hb]
 |false =>
  have hle:l.length≤2^40:=by simp at hb;omega
  have hz:=fun s=>cz_of (c125 nl l lines h0 h1 hle) (by kernel_rfl) (by simp[stills,still,still_encS]) rfl s
  have hst:stills [encS nl (ints l),.fn (.func 159) [] [.ptr 8 0]]=false:=by simp[stills,still,still_encS]
  simp +contextual only[go_sem,↓reduceIte,r91,lenL_encS,ints_len,hb,z125 hst,frz_encS,hz,c116]
def sameI:List Int→List Int→Bool
 |[],[]=>true
 |x::a,y::b=>bif x != y then false else sameI a b
 |_,_=>false
theorem sameI_len:∀{a b:List Int},a.length≠b.length→sameI a b=false
 |[],[],h=>absurd rfl h
 |[],_::_,_=>rfl
 |_::_,[],_=>rfl
 |a::x,b::y,h=>by
  rw[sameI,sameI_len (fun e=>h (by simp[e]))]
  cases a != b <;> rfl
theorem sameI_refl:∀a:List Int,sameI a a=true
 |[]=>rfl
 |a::x=>by rw[sameI,sameI_refl x];simp
theorem c109 (na nb:Bool)(a b:List Int)(ha:a.length<2^62):calV U 109 [encS na (ints a),encS nb (ints b)]=some (.bool (sameI a b)):=by
 refine pure_go k109 (by kernel_rfl) (by simp[stills,still_encS,still]) ?_
 simp (maxSteps:=2000000) +contextual only[go_sem,↓reduceIte,r109,lenL_encS,ints_len]
 cases hl:((a.length:Int) != (b.length:Int)) with
 |true =>
  have:a.length≠b.length:=by simp at hl;omega
  rw[sameI_len this]
  simp +contextual only[go_sem,↓reduceIte]
 |false =>
  have hl:a.length=b.length:=by simp at hl;omega
  simp +contextual only[go_sem,↓reduceIte]
  refine loop_to (σ:=Nat) (fun i=>a.length-i) (fun i=>some (AV.bool (sameI (a.drop i) (b.drop i)))) (fun i e s=>i≤a.length∧Env.get e 0=encS na (ints a)∧Env.get e 1=encS nb (ints b)∧Env.get e 5=.int .i64 i) 0 ?_ rfl ?_
  ·rintro L i e s ⟨hi,g0,g1,g5⟩ ih
   by_cases hd:i<a.length
   ·have hd':i<b.length:=by omega
    have hx:ixRA 1 (encS na (ints a)) (.int .i64 (i:Int))=some (.fp [.int .i64 a[i]] 0):=ixa_encS 1 na (ints a) .i64 i (.int .i64 a[i]) (by omega) (by rw[Int.toNat_natCast,ints_get,List.getElem?_eq_getElem hd];rfl) rfl (by decide)
    have hy:ixRA 1 (encS nb (ints b)) (.int .i64 (i:Int))=some (.fp [.int .i64 b[i]] 0):=ixa_encS 1 nb (ints b) .i64 i (.int .i64 b[i]) (by omega) (by rw[Int.toNat_natCast,ints_get,List.getElem?_eq_getElem hd'];rfl) rfl (by decide)
    have hw:=wrap_succ hd (by omega)
    rw[List.drop_eq_getElem_cons hd,List.drop_eq_getElem_cons hd',sameI]
    simp +contextual only[go_sem,↓reduceIte,r109_l0,g0,g1,g5,nat_lt_dec,hd,hx,hy,lenL_encS,ints_len]
    cases hb:a[i] != b[i] with
    |true=>simp +contextual only[go_sem,↓reduceIte]
    |false =>
     simp +contextual only[go_sem,↓reduceIte,hw]
     refine ih (i+1) _ _ (by omega) ⟨by omega,?_,?_,?_⟩ <;> simp +contextual only[go_sem,↓reduceIte,g0,g1,g5,hw]
   ·have:i=a.length:=by omega
    subst this
    simp +contextual only[go_sem,↓reduceIte,r109_l0,g0,g1,g5,nat_lt_dec,Nat.lt_irrefl,lenL_encS,ints_len]
    rw[List.drop_length,hl,List.drop_length];rfl
  ·refine⟨Nat.zero_le _,?_,?_,?_⟩ <;> simp +contextual only[go_sem,↓reduceIte] <;> rfl
theorem c56 (na nb:Bool)(a b:List Int)(ha:a.length<2^62):calV U 56 [encS na (ints a),encS nb (ints b)]=some (.bool (sameI a b)):=by
 refine pure_go k56 (by kernel_rfl) (by simp[stills,still_encS,still]) ?_
 have:=c109 na nb a b ha
 simp (maxSteps:=2000000) +contextual only[go_sem,↓reduceIte,r56,this]
end Go.Am
namespace Go.Am
open Go
variable [MaxLen]
set_option maxRecDepth 100000
set_option maxHeartbeats 4000000
def encN (a:Auto):AV:=encS a.nNl (a.next.map encRow)
def encFs (a:Auto):AV:=encS a.fNl (a.fires.map encFRow)
theorem encA_eq (a:Auto):encA a=.agg [.int .i64 a.lines,encN a,encFs a]:=rfl
theorem still_encA (a:Auto):still (encA a)=true:=by simp[encA,still,stills,still_encS]
theorem ixa_rowI {nl:Bool}{l:List (Bool×List Int)}{i:Nat}(h:i<l.length):ixRA 1 (encS nl (l.map encRow)) (.int .i64 (i:Int))=some (.fp [encS l[i].1 (ints l[i].2)] 0):=by
 have:=ixa_encS 1 nl (l.map encRow) .i64 i (encRow l[i]) (by omega) (by rw[Int.toNat_natCast,List.getElem?_map,List.getElem?_eq_getElem h];rfl) (by rw[encRow,cells_encS];rfl) (by decide)
 rw[encRow,cells_encS] at this
 exact this
theorem ixa_rowB {nl:Bool}{l:List (Bool×List Bool)}{i:Nat}(h:i<l.length):ixRA 1 (encS nl (l.map encFRow)) (.int .i64 (i:Int))=some (.fp [encS l[i].1 (bools l[i].2)] 0):=by
 have:=ixa_encS 1 nl (l.map encFRow) .i64 i (encFRow l[i]) (by omega) (by rw[Int.toNat_natCast,List.getElem?_map,List.getElem?_eq_getElem h];rfl) (by rw[encFRow,cells_encS];rfl) (by decide)
 rw[encFRow,cells_encS] at this
 exact this
theorem ixa_intV {nl:Bool}{l:List Int}{i:Nat}(h:i<l.length):ixRA 1 (encS nl (ints l)) (.int .i64 (i:Int))=some (.fp [.int .i64 l[i]] 0) :=
 ixa_encS 1 nl (ints l) .i64 i (.int .i64 l[i]) (by omega) (by rw[Int.toNat_natCast,ints_get,List.getElem?_eq_getElem h];rfl) rfl (by decide)
theorem ixa_boolV {nl:Bool}{l:List Bool}{i:Nat}(h:i<l.length):ixRA 1 (encS nl (bools l)) (.int .i64 (i:Int))=some (.fp [.bool l[i]] 0) :=
 ixa_encS 1 nl (bools l) .i64 i (.bool l[i]) (by omega) (by rw[Int.toNat_natCast,bools_get,List.getElem?_eq_getElem h];rfl) rfl (by decide)
def mOf (lines:Int):Int:=2^lines.toNat
def ckRows (m n:Int):List (Bool×List Int)→List (Bool×List Bool)→Int
 |[],_=>0
 |r::l,f=>br ((r.2.length:Int) != m||(((f.headD (true,[])).2.length:Int) != m)) 2 <| br (r.2.any fun x=>outside x 0 (n-1)) 10 <| ckRows m n l f.tail
def ckA (a:Auto):Int :=
 br (outside a.lines 1 4) 3 <| br ((a.next.length:Int)==0) 12 <| br (decide ((a.next.length:Int)>256)) 5 <| br ((a.fires.length:Int) != a.next.length) 2 <| ckRows (mOf a.lines) a.next.length a.next a.fires
theorem c50 (a:Auto):calV U 50 [encA a]=some (.int .i64 (ckA a)):=by
 refine pure_go k50 (by kernel_rfl) (by simp[stills,still_encA]) ?_
 rw[encA_eq,ckA]
 have nn:=noAgg_encS a.nNl (a.next.map encRow)
 have nf:=noAgg_encS a.fNl (a.fires.map encFRow)
 have ln:=lenL_encS a.nNl (a.next.map encRow)
 have lf:=lenL_encS a.fNl (a.fires.map encFRow)
 have cn:=cells_encS a.nNl (a.next.map encRow)
 have cf:=cells_encS a.fNl (a.fires.map encFRow)
 rw[List.length_map] at ln lf
 unfold encN encFs
 cases ho:outside a.lines 1 4 with
 |true =>
  simp (maxSteps:=2000000) +contextual only[go_sem,↓reduceIte,r50,c94,nn,nf,cn,cf,ho]
 |false =>
 have hl:1≤a.lines∧a.lines≤4:=by
  simp only[outside,Bool.or_eq_false_iff,decide_eq_false_iff_not] at ho;omega
 have hsh:=bin_shl1 U 3 true .i64 (n:=a.lines) (show 0≤a.lines∧a.lines≤16 by omega)
 simp (maxSteps:=2000000) +contextual only[go_sem,↓reduceIte,r50,c94,nn,nf,cn,cf,ln,lf,ho]
 simp only[brI_some]
 refine br_r fun h1=>?_
 refine br_r fun h2=>?_
 refine br_r fun h3=>?_
 have hn:a.next.length≤256:=by simp at h2;omega
 have hfl:a.fires.length=a.next.length:=by simp at h3;omega
 have hp:=pow_le16 a.lines (by omega)
 have hw1:IntKind.i64.wrap ((a.next.length:Int)-1)=(a.next.length:Int)-1:=by rw[wrap_i64] <;> omega
 refine loop_to (σ:=Nat) (fun i=>a.next.length-i) (fun i=>some (AV.int .i64 (ckRows (mOf a.lines) a.next.length (a.next.drop i) (a.fires.drop i)))) (fun i e s=>i≤a.next.length∧Env.get e 1=.ptr 8 0∧Env.get e 3=.int .i64 (i:Nat)∧8<s.next ∧
  s.get 8=some (.cells [.int .i64 a.lines,encS a.nNl (a.next.map encRow),encS a.fNl (a.fires.map encFRow)] 72 false 0 0)) 0 ?_ (by rw[List.drop_zero,List.drop_zero]) ?_
 ·rintro L i e s ⟨hi,g1,g3,nx,gs⟩ IH
  by_cases hd:i<a.next.length
  ·have hw:=wrap_succ hd (by omega)
   have hx:=ixa_rowI (nl:=a.nNl) hd
   have hy:=ixa_rowB (nl:=a.fNl) (show i<a.fires.length by omega)
   have hla:=lenL_encS a.next[i].1 (ints a.next[i].2)
   have hlb:=lenL_encS a.fires[i].1 (bools a.fires[i].2)
   rw[ints_len] at hla
   rw[bools_len] at hlb
   have hfd:(a.fires.drop i).headD (true,[])=a.fires[i]:=by rw[List.drop_eq_getElem_cons (show i<a.fires.length by omega)];rfl
   have hft:(a.fires.drop i).tail=a.fires.drop (i+1):=by rw[List.tail_drop]
   rw[List.drop_eq_getElem_cons hd,ckRows,hfd,hft]
   generalize hR:a.next[i]=R at *
   generalize hF:a.fires[i]=F at *
   have ne8:∀q,(s.next+q=8)=False:=fun q=>by simp;omega
   cases h4:((R.2.length:Int) != mOf a.lines) with
   |true =>
    unfold mOf at h4
    simp (maxSteps:=2000000) +contextual only[go_sem,↓reduceIte,r50_l1,g1,g3,gs,nat_lt_dec,hd,ln,lf,hx,hy,hla,hlb,hsh,h4]
    all_goals rfl
   |false =>
   cases h5:((F.2.length:Int) != mOf a.lines) with
   |true =>
    unfold mOf at h4 h5
    simp (maxSteps:=2000000) +contextual only[go_sem,↓reduceIte,r50_l1,g1,g3,gs,nat_lt_dec,hd,ln,lf,hx,hy,hla,hlb,hsh,h4,h5]
    all_goals rfl
   |false =>
    unfold mOf at h4 h5
    simp (maxSteps:=2000000) +contextual only[go_sem,↓reduceIte,r50_l1,g1,g3,gs,nat_lt_dec,hd,ln,lf,hx,hy,hla,hlb,hsh,h4,h5]
    have hRl:R.2.length≤65536:=by simp at h4;omega
    refine loop_to (σ:=Nat) (fun x=>R.2.length-x) (fun x=>some (AV.int .i64 (br ((R.2.drop x).any fun y=>outside y 0 ((a.next.length:Int)-1)) 10 (ckRows (mOf a.lines) a.next.length (a.next.drop (i+1)) (a.fires.drop (i+1)))))) (fun x e s=>x≤R.2.length∧Env.get e 1=.ptr 8 0∧Env.get e 3=.int .i64 (i:Nat)∧Env.get e 4=.int .i64 (x:Nat)∧8<s.next ∧
     s.get 8=some (.cells [.int .i64 a.lines,encS a.nNl (a.next.map encRow),encS a.fNl (a.fires.map encFRow)] 72 false 0 0)) 0 ?_ (by rw[List.drop_zero];rfl) ?_
    ·rintro L' x e' s' ⟨hx',g1',g3',g4',nx',gs'⟩ IH'
     by_cases hd':x<R.2.length
     ·have hw':=wrap_succ hd' (by omega)
      have hxx:=ixa_intV (nl:=R.1) hd'
      rw[List.drop_eq_getElem_cons hd',List.any_cons]
      cases ho2:outside R.2[x] 0 ((a.next.length:Int)-1) with
      |true=>simp (maxSteps:=2000000) +contextual only[go_sem,↓reduceIte,r50_l0,g1',g3',g4',gs',nat_lt_dec,hd',ln,hx,hla,hxx,hw1,c94,ho2,Bool.true_or]
      |false =>
       simp (maxSteps:=2000000) +contextual only[go_sem,↓reduceIte,r50_l0,g1',g3',g4',gs',nat_lt_dec,hd',ln,hx,hla,hxx,hw1,c94,ho2,Bool.false_or,hw']
       refine IH' (x+1) _ _ (by omega) ⟨by omega,?_,?_,?_,?_,?_⟩
       all_goals simp +contextual only[go_sem,↓reduceIte,g1',g3',g4',gs',hw',upto_get]
       all_goals omega
     ·have:x=R.2.length:=by omega
      subst this
      simp (maxSteps:=2000000) +contextual only[go_sem,↓reduceIte,r50_l0,g1',g3',g4',gs',nat_lt_dec,Nat.lt_irrefl,ln,hx,hla,hw]
      rw[List.drop_length]
      refine IH (i+1) _ _ (by omega) ⟨by omega,?_,?_,?_,?_⟩
      all_goals try simp +contextual only[go_sem,↓reduceIte,g1',g3',gs',hw]
      all_goals omega
    ·refine⟨Nat.zero_le _,?_,?_,?_,?_,?_⟩
     all_goals try simp +contextual only[go_sem,↓reduceIte,g1,g3,gs]
     all_goals first|rfl|omega
  ·have:i=a.next.length:=by omega
   subst this
   simp +contextual only[go_sem,↓reduceIte,r50_l1,g1,g3,gs,nat_lt_dec,Nat.lt_irrefl,ln]
   rw[List.drop_length,ckRows]
 ·refine⟨Nat.zero_le _,?_,?_,?_,?_⟩
  all_goals try simp +contextual only[go_sem,↓reduceIte]
  all_goals rfl
def cellsA (a:Auto):List AV:=[.int .i64 a.lines,encS a.nNl (a.next.map encRow),encS a.fNl (a.fires.map encFRow)]
theorem still_cellsA (a:Auto):stills (cellsA a)=true:=by simp[cellsA,stills,still,still_encS]
theorem c126 (x:Int)(a:Auto)(hn:a.next.length≤2^40):calV U 126 [.int .i64 x,.fp (cellsA a) 0]=some (.bool (outside x 0 ((a.next.length:Int)-1))):=by
 refine pure_go k126 (by kernel_rfl) (by simp[stills,still,still_cellsA]) ?_
 have ln:=lenL_encS a.nNl (a.next.map encRow)
 rw[List.length_map] at ln
 have hp:outside x 0 ((a.next.length:Int)-1)=(decide (x<0)||decide (x≥(a.next.length:Int))):=by
  unfold outside
  congr 1
  congr 1
  apply propext;omega
 rw[hp]
 unfold cellsA
 cases h:decide (x<0) <;> simp +contextual only[go_sem,↓reduceIte,r126,ln,h]
 all_goals rfl
theorem cv126 (x:Int)(a:Auto)(hn:a.next.length≤2^40)(s:St):calv U (.fn (.func 126) [] [.fp (cellsA a) 0]) [.int .i64 x] s=some (.bool (outside x 0 ((a.next.length:Int)-1)),s):=by
 have h:=c126 x a hn
 simp only[calv_fn,List.nil_append,List.cons_append,h,callK_some]
theorem c179P (P:Int→Bool)(fn:AV)(hst:still fn=true)(hf:∀x s,calv U fn [.int .i64 x] s=some (.bool (P x),s))(nl:Bool)(l:List Int)(hl:l.length≤2^40):calV U 179 [encS nl (ints l),fn]=some (.int .i64 (idxO P 0 l)):=by
 refine pure_go k179 (by kernel_rfl) (by simp[stills,still_encS,hst]) ?_
 simp +contextual only[go_sem,↓reduceIte,r179,lenL_encS,ints_len]
 refine loop_to (σ:=Nat) (fun i=>l.length-i) (fun i=>some (AV.int .i64 (idxO P i (l.drop i)))) (fun i e s=>i≤l.length∧Env.get e 0=encS nl (ints l)∧Env.get e 1=fn∧Env.get e 7=.int .i64 l.length∧Env.get e 8=.int .i64 i) 0 ?_ rfl ?_
 ·rintro L i e s ⟨hi,g0,g1,g7,g8⟩ ih
  by_cases hd:i<l.length
  ·have hx:=ixa_intV (nl:=nl) hd
   have hw:=wrap_succ hd (by omega)
   rw[List.drop_eq_getElem_cons hd,idxO]
   have hc:=hf l[i]
   cases hb:P l[i] with
   |true=>simp +contextual only[go_sem,↓reduceIte,r179_l0,g0,g1,g7,g8,nat_lt_dec,hd,hx,hc,hb]
   |false =>
    simp +contextual only[go_sem,↓reduceIte,r179_l0,g0,g1,g7,g8,nat_lt_dec,hd,hx,hc,hb,hw]
    refine ih (i+1) _ _ (by omega) ⟨by omega,?_,?_,?_,?_⟩ <;> simp +contextual only[go_sem,↓reduceIte,g0,g1,g7,g8,hw]
  ·have:i=l.length:=by omega
   subst this
   simp +contextual only[go_sem,↓reduceIte,r179_l0,g0,g1,g7,g8,nat_lt_dec,Nat.lt_irrefl]
   rw[List.drop_length];rfl
 ·refine⟨Nat.zero_le _,?_,?_,?_,?_⟩ <;> simp +contextual only[go_sem,↓reduceIte] <;> rfl
theorem c125P (P:Int→Bool)(fn:AV)(hst:still fn=true)(hf:∀x s,calv U fn [.int .i64 x] s=some (.bool (P x),s))(nl:Bool)(l:List Int)(hl:l.length≤2^40):calV U 125 [encS nl (ints l),fn]=some (.bool (l.any P)):=by
 refine pure_go k125 (by kernel_rfl) (by simp[stills,still_encS,hst]) ?_
 have h:=c179P P fn hst hf nl l hl
 have hi:=idxO_any P l 0
 simp +contextual only[go_sem,↓reduceIte,r125,h,hi]
theorem c58 (a:Auto)(hn:a.next.length≤2^40)(hr:∀r∈a.next,r.2.length≤2^40):calV U 58 [encA a]=some (.int .i64 (ckA a)):=by
 refine pure_go k58 (by kernel_rfl) (by simp[stills,still_encA]) ?_
 rw[encA_eq]
 have nn:=noAgg_encS a.nNl (a.next.map encRow)
 have nf:=noAgg_encS a.fNl (a.fires.map encFRow)
 have ln:=lenL_encS a.nNl (a.next.map encRow)
 have lf:=lenL_encS a.fNl (a.fires.map encFRow)
 have cn:=cells_encS a.nNl (a.next.map encRow)
 have cf:=cells_encS a.fNl (a.fires.map encFRow)
 rw[List.length_map] at ln lf
 unfold encN encFs
 have hz:stills [.sl 29 0 4 (some 4) 1]=false:=rfl
 simp (maxSteps:=2000000) +contextual only[go_sem,↓reduceIte,r58,c124,c116,nn,nf,cn,cf,ln,lf,z89,cz89_4]
 rw[show within a.lines 1 4=br (outside a.lines 1 4) 3 0 from rfl,ckA]
 cases ho:outside a.lines 1 4 with
 |true=>rfl
 |false =>
 cases h1:((a.next.length:Int)==0) with
 |true=>rfl
 |false =>
 cases h2:decide ((a.next.length:Int)>256) with
 |true=>rfl
 |false =>
 cases h3:((a.fires.length:Int) != a.next.length) with
 |true=>rfl
 |false =>
 have hl:1≤a.lines∧a.lines≤4:=by
  simp only[outside,Bool.or_eq_false_iff,decide_eq_false_iff_not] at ho;omega
 have hsh:=bin_shl1 U 3 true .i64 (n:=a.lines) (show 0≤a.lines∧a.lines≤16 by omega)
 have hp:=pow_le16 a.lines (by omega)
 have hn:a.next.length≤256:=by simp at h2;omega
 have hfl:a.fires.length=a.next.length:=by simp at h3;omega
 simp only[br_false]
 rw[show (firstOf [0,0,0,0] != 0)=false from rfl,br_false]
 refine loop_to (σ:=Nat) (fun i=>a.next.length-i) (fun i=>some (AV.int .i64 (ckRows (mOf a.lines) a.next.length (a.next.drop i) (a.fires.drop i)))) (fun i e s=>i≤a.next.length∧Env.get e 1=.ptr 8 0∧Env.get e 36=encS a.nNl (a.next.map encRow)∧Env.get e 37=.int .i64 a.next.length∧Env.get e 38=.int .i64 (i:Nat)∧8<s.next∧Fr s ∧
  s.get 8=some (.cells [.int .i64 a.lines,encS a.nNl (a.next.map encRow),encS a.fNl (a.fires.map encFRow)] 69 false 0 0)) 0 ?_ (by rw[List.drop_zero,List.drop_zero]) ?_
 ·rintro L i e s ⟨hi,g1,g36,g37,g38,nx,fr,gs⟩ IH
  by_cases hd:i<a.next.length
  ·have hw:=wrap_succ hd (by omega)
   have hx:=ixa_rowI (nl:=a.nNl) hd
   have hy:=ixa_rowB (nl:=a.fNl) (show i<a.fires.length by omega)
   have hla:=lenL_encS a.next[i].1 (ints a.next[i].2)
   have hlb:=lenL_encS a.fires[i].1 (bools a.fires[i].2)
   rw[ints_len] at hla
   rw[bools_len] at hlb
   have hfd:(a.fires.drop i).headD (true,[])=a.fires[i]:=by rw[List.drop_eq_getElem_cons (show i<a.fires.length by omega)];rfl
   have hft:(a.fires.drop i).tail=a.fires.drop (i+1):=by rw[List.tail_drop]
   rw[List.drop_eq_getElem_cons hd,ckRows,hfd,hft]
   generalize hR:a.next[i]=R at *
   generalize hF:a.fires[i]=F at *
   have ne8:∀q,(s.next+q=8)=False:=fun q=>by simp;omega
   have ne8':(s.next=8)=False:=by simp;omega
   have hfk:=fr.at
   have hrl:=hr R (by rw[←hR];exact List.getElem_mem hd)
   have hz:=fun s=>cz_of (c125P _ (.fn (.func 126) [] [.fp (cellsA a) 0]) (by simp[still,stills,still_cellsA]) (fun x s=>cv126 x a (by omega) s) R.1 R.2 hrl) (by kernel_rfl) (by simp[stills,still,still_encS,still_cellsA]) rfl s
   have hst:stills [encS R.1 (ints R.2),.fn (.func 126) [] [.ptr 8 0]]=false:=by simp[stills,still,still_encS]
   have hz2:∀j,stills [.sl j 0 2 (some 2) 1]=false:=fun _=>rfl
   simp only[cellsA] at hz
   simp (maxSteps:=2000000) +contextual only[go_sem,↓reduceIte,r58_l0,g1,g36,g37,g38,gs,nat_lt_dec,hd,ln,lf,hx,hy,hla,hlb,hsh,ne8,ne8',hfk,z125 hst,frz_encS,hz,c116,z89,cz89_2,hz2,Nat.add_assoc,Nat.left_eq_add]
   have hm:(2:Int)^a.lines.toNat=mOf a.lines:=rfl
   rw[hm]
   cases h4:((R.2.length:Int) != mOf a.lines||(F.2.length:Int) != mOf a.lines) with
   |true=>rfl
   |false =>
   cases h5:(R.2.any fun x=>outside x 0 ((a.next.length:Int)-1)) with
   |true=>rfl
   |false =>
   simp only[br_false]
   rw[show (firstOf [0,0] != 0)=false from rfl,br_false]
   refine IH (i+1) _ _ (by omega) ⟨by omega,?_,?_,?_,?_,?_,?_,?_⟩
   case refine_6 =>
    repeat first|exact fr|apply Fr.new|apply Fr.put|apply Fr.upto
    all_goals try simp +contextual only[go_sem,↓reduceIte]
    all_goals omega
   all_goals try simp +contextual only[go_sem,↓reduceIte,g1,g36,g37,gs,hw,ne8,ne8']
   all_goals omega
  ·have:i=a.next.length:=by omega
   subst this
   simp +contextual only[go_sem,↓reduceIte,r58_l0,g37,g38,nat_lt_dec,Nat.lt_irrefl]
   rw[List.drop_length,ckRows]
 ·refine⟨Nat.zero_le _,?_,?_,?_,?_,?_,?_,?_⟩
  case refine_6 =>
   repeat first|exact Fr.own|apply Fr.new|apply Fr.put|apply Fr.upto
   all_goals simp +contextual only[go_sem,↓reduceIte]
  all_goals try simp +contextual only[go_sem,↓reduceIte]
  all_goals rfl
end Go.Am
namespace Go.Am
open Go
structure Fa where
 n:Nat
 m:Nat
 nx:Nat→Nat→Nat
 fr:Nat→Nat→Bool
structure Fa.ok (A:Fa):Prop where
 pos:0<A.n
 lt:∀s x,s<A.n→x<A.m→A.nx s x<A.n
def Fa.E (A:Fa)(f:Nat→Nat)(u v:Nat):Prop:=∀x,x<A.m→A.fr u x=A.fr v x∧f (A.nx u x)=f (A.nx v x)
theorem Fa.E_refl (A:Fa)(f:Nat→Nat)(u:Nat):A.E f u u:=fun _ _=>⟨rfl,rfl⟩
theorem Fa.E.symm {A:Fa}{f:Nat→Nat}{u v:Nat}(h:A.E f u v):A.E f v u:=fun x hx=>⟨(h x hx).1.symm,(h x hx).2.symm⟩
theorem Fa.E.trans {A:Fa}{f:Nat→Nat}{u v w:Nat}(h:A.E f u v)(k:A.E f v w):A.E f u w:=fun x hx=>⟨(h x hx).1.trans (k x hx).1,(h x hx).2.trans (k x hx).2⟩
def alkN (A:Fa)(f:Nat→Nat)(u v:Nat):Nat→Bool
 |0=>true
 |x+1=>alkN A f u v x&&(A.fr u x==A.fr v x&&f (A.nx u x)==f (A.nx v x))
theorem alkN_iff (A:Fa)(f:Nat→Nat)(u v:Nat):∀k,alkN A f u v k=true↔∀x,x<k→A.fr u x=A.fr v x∧f (A.nx u x)=f (A.nx v x)
 |0=>by simp[alkN]
 |k+1=>by
  rw[alkN,Bool.and_eq_true,alkN_iff A f u v k,Bool.and_eq_true,beq_iff_eq,beq_iff_eq]
  constructor
  ·rintro⟨h1,h2⟩ x hx
   by_cases e:x=k
   ·subst e;exact h2
   ·exact h1 x (by omega)
  ·intro h
   exact⟨fun x hx=>h x (by omega),h k (by omega)⟩
def alk (A:Fa)(f:Nat→Nat)(u v:Nat):Bool:=alkN A f u v A.m
theorem alk_iff (A:Fa)(f:Nat→Nat)(u v:Nat):alk A f u v=true↔A.E f u v:=alkN_iff A f u v A.m
def scanD (al:Nat→Bool):Nat→Nat→Nat
 |0,c=>c
 |k+1,c=>scanD al k (bif al k then k else c)
theorem scanD_spec (al:Nat→Bool):∀k c,k≤c→(scanD al k c≤c)∧(scanD al k c=c∨(scanD al k c<k∧al (scanD al k c)=true))∧∀o,o<k→o<scanD al k c→al o=false
 |0,c,_=>⟨Nat.le_refl _,.inl rfl,fun o h=>by omega⟩
 |k+1,c,hk=>by
  rw[scanD]
  cases ha:al k with
  |true =>
   obtain⟨h1,h2,h3⟩:=scanD_spec al k k (Nat.le_refl _)
   simp only[cond_true]
   refine⟨by omega,.inr ?_,fun o ho hs=>h3 o (by omega) hs⟩
   rcases h2 with h2|⟨h2,h4⟩
   ·rw[h2];exact⟨by omega,ha⟩
   ·exact⟨by omega,h4⟩
  |false =>
   obtain⟨h1,h2,h3⟩:=scanD_spec al k c (by omega)
   simp only[cond_false]
   refine⟨h1,?_,fun o ho hs=>?_⟩
   ·rcases h2 with h2|⟨h2,h4⟩
    ·exact .inl h2
    ·exact .inr ⟨by omega,h4⟩
   ·by_cases e:o=k
    ·subst e;exact ha
    ·exact h3 o (by omega) hs
def cano (A:Fa)(f:Nat→Nat)(s:Nat):Nat:=scanD (alk A f s) s s
theorem cano_spec (A:Fa)(f:Nat→Nat)(s:Nat):cano A f s≤s∧A.E f s (cano A f s)∧∀o,o<cano A f s→¬A.E f s o:=by
 obtain⟨h1,h2,h3⟩:=scanD_spec (alk A f s) s s (Nat.le_refl _)
 refine⟨h1,?_,fun o ho he=>?_⟩
 ·rcases h2 with h2|⟨_,h2⟩
  ·show A.E f s (scanD _ s s)
   rw[h2];exact A.E_refl f s
  ·exact (alk_iff A f _ _).1 h2
 ·have:=h3 o (by unfold cano at ho;omega) ho
  rw[(alk_iff A f _ _).2 he] at this
  cases this
theorem cano_iff (A:Fa)(f:Nat→Nat)(u v:Nat):cano A f u=cano A f v↔A.E f u v:=by
 obtain⟨u1,u2,u3⟩:=cano_spec A f u
 obtain⟨v1,v2,v3⟩:=cano_spec A f v
 constructor
 ·intro h
  rw[h] at u2
  exact u2.trans v2.symm
 ·intro h
  have a:¬cano A f u<cano A f v:=fun hl=>v3 _ hl (h.symm.trans u2)
  have b:¬cano A f v<cano A f u:=fun hl=>u3 _ hl (h.trans v2)
  omega
structure Can (g:Nat→Nat):Prop where
 le:∀s,g s≤s
 fix:∀s,g (g s)=g s
theorem Can.min {g:Nat→Nat}(h:Can g){s u:Nat}(e:g u=g s):g s≤u:=by rw[←e];exact h.le u
theorem cano_can (A:Fa)(f:Nat→Nat):Can (cano A f):=⟨fun s=>(cano_spec A f s).1,fun s=>((cano_iff A f _ _).2 (cano_spec A f s).2.1).symm⟩
def Fine (g f:Nat→Nat):Prop:=∀u v,g u=g v→f u=f v
theorem fine_next (A:Fa){f:Nat→Nat}(h:Fine (cano A f) f):Fine (cano A (cano A f)) (cano A f):=fun u v e=>by
 rw[cano_iff] at e ⊢
 exact fun x hx=>⟨(e x hx).1,h _ _ (e x hx).2⟩
def cntF (g:Nat→Nat):Nat→Nat
 |0=>0
 |k+1=>cntF g k+if g k=k then 1 else 0
theorem cntF_le (g:Nat→Nat):∀k,cntF g k≤k
 |0=>Nat.le_refl _
 |k+1=>by have:=cntF_le g k;rw[cntF];split <;> omega
theorem cntF_mono {g h:Nat→Nat}(H:∀s,g s=s→h s=s):∀k,cntF g k≤cntF h k
 |0=>Nat.le_refl _
 |k+1=>by
  have:=cntF_mono H k
  rw[cntF,cntF]
  by_cases e:g k=k
  ·rw[if_pos e,if_pos (H k e)];omega
  ·rw[if_neg e];split <;> omega
theorem cntF_lt {g h:Nat→Nat}(H:∀s,g s=s→h s=s){t:Nat}(h1:h t=t)(h2:g t≠t):∀k,t<k→cntF g k<cntF h k
 |k+1,hk=>by
  rw[cntF,cntF]
  by_cases e:t=k
  ·subst e
   have:=cntF_mono H t
   rw[if_neg h2,if_pos h1];omega
  ·have:=cntF_lt H h1 h2 k (by omega)
   by_cases e:g k=k
   ·rw[if_pos e,if_pos (H k e)];omega
   ·rw[if_neg e];split <;> omega
theorem grow {g h:Nat→Nat}(cg:Can g)(ch:Can h)(hf:Fine h g){n s:Nat}(hs:s<n)(hne:h s≠g s):cntF g n<cntF h n:=by
 refine cntF_lt (t:=h s) (fun u hu=>?_) (ch.fix s) (fun e=>?_) n (Nat.lt_of_le_of_lt (ch.le s) hs)
 ·have:=hf (h u) u (ch.fix u)
  have:=cg.min this
  have:=ch.le u
  omega
 ·have:=hf (h s) s (ch.fix s)
  exact hne (by omega)
def same2 (g f:Nat→Nat):Nat→Bool
 |0=>true
 |k+1=>same2 g f k&&g k==f k
theorem same2_iff (g f:Nat→Nat):∀k,same2 g f k=true↔∀s,s<k→g s=f s
 |0=>by simp[same2]
 |k+1=>by
  rw[same2,Bool.and_eq_true,same2_iff g f k,beq_iff_eq]
  constructor
  ·rintro⟨h1,h2⟩ s hs
   by_cases e:s=k
   ·subst e;exact h2
   ·exact h1 s (by omega)
  ·intro h
   exact⟨fun s hs=>h s (by omega),h k (by omega)⟩
def rclF (A:Fa):Nat→(Nat→Nat)→Nat→Nat
 |0,f=>f
 |r+1,f=>bif same2 (cano A f) f A.n then f else rclF A r (cano A f)
theorem same2_false {g f:Nat→Nat}{k:Nat}(h:same2 g f k=false):∃s,s<k∧g s≠f s:=by
 refine Classical.byContradiction fun hc=>?_
 have:same2 g f k=true:=(same2_iff g f k).2 fun s hs=>Classical.byContradiction fun e=>hc ⟨s,hs,e⟩
 rw[h] at this;cases this
theorem rclF_stable (A:Fa):∀(r:Nat) (f:Nat→Nat),Can f→Fine (cano A f) f→A.n<cntF f A.n+r→∀s,s<A.n→cano A (rclF A r f) s=rclF A r f s
 |0,f,_,_,h=>by have:=cntF_le f A.n;omega
 |r+1,f,cf,hf,h=>by
  rw[rclF]
  cases hs:same2 (cano A f) f A.n with
  |true=>exact (same2_iff _ _ _).1 hs
  |false =>
   obtain⟨s,h1,h2⟩:=same2_false hs
   have:=grow cf (cano_can A f) hf h1 h2
   exact rclF_stable A r _ (cano_can A f) (fine_next A hf) (by omega)
theorem rclF_can (A:Fa):∀(r:Nat) (f:Nat→Nat),Can f→Can (rclF A r f)
 |0,f,h=>h
 |r+1,f,h=>by
  rw[rclF]
  cases same2 (cano A f) f A.n with
  |true=>exact h
  |false=>exact rclF_can A r _ (cano_can A f)
structure Bis (A:Fa)(B:Nat→Nat→Prop):Prop where
 lt:∀u v,B u v→u<A.n∧v<A.n
 fr:∀u v,B u v→∀x,x<A.m→A.fr u x=A.fr v x
 nx:∀u v,B u v→∀x,x<A.m→B (A.nx u x) (A.nx v x)
theorem rclF_bis {A:Fa}{B:Nat→Nat→Prop}(hB:Bis A B):∀(r:Nat) (f:Nat→Nat),(∀u v,B u v→f u=f v)→∀u v,B u v→rclF A r f u=rclF A r f v
 |0,f,h=>h
 |r+1,f,h=>by
  rw[rclF]
  cases same2 (cano A f) f A.n with
  |true=>exact h
  |false=>exact rclF_bis hB r _ fun u v huv=>(cano_iff A f u v).2 fun x hx=>⟨hB.fr u v huv x hx,h _ _ (hB.nx u v huv x hx)⟩
def clsR (A:Fa):Nat→Nat:=rclF A (A.n+1) fun _=>0
theorem clsR_can (A:Fa):Can (clsR A):=rclF_can A _ _ ⟨fun _=>Nat.zero_le _,fun _=>rfl⟩
theorem clsR_iff {A:Fa}(h:A.ok){u v:Nat}(hu:u<A.n)(hv:v<A.n):clsR A u=clsR A v↔A.E (clsR A) u v:=by
 have h0:0<cntF (fun _=>0) A.n:=by
  have:∀k,0<k→0<cntF (fun _=>0) k:=by
   intro k hk
   induction k with
   |zero=>omega
   |succ k ih =>
    rw[cntF]
    by_cases e:k=0
    ·subst e;decide
    ·have:=ih (by omega);omega
  exact this _ h.pos
 have st:=rclF_stable A (A.n+1) (fun _=>0) ⟨fun _=>Nat.zero_le _,fun _=>rfl⟩ (fun _ _ _=>rfl) (by omega)
 have e:=cano_iff A (clsR A) u v
 rw[←e]
 show _↔cano A (rclF A (A.n+1) fun _=>0) u=cano A (rclF A (A.n+1) fun _=>0) v
 rw[st u hu,st v hv]
 rfl
theorem clsR_bis {A:Fa}{B:Nat→Nat→Prop}(hB:Bis A B)(u v:Nat)(h:B u v):clsR A u=clsR A v:=rclF_bis hB _ _ (fun _ _ _=>rfl) u v h
theorem clsR_isBis {A:Fa}(h:A.ok):Bis A fun u v=>u<A.n∧v<A.n∧clsR A u=clsR A v :=
 ⟨fun u v k=>⟨k.1,k.2.1⟩,fun u v k x hx=>(((clsR_iff h k.1 k.2.1).1 k.2.2) x hx).1,fun u v k x hx=>⟨h.lt u x k.1 hx,h.lt v x k.2.1 hx,(((clsR_iff h k.1 k.2.1).1 k.2.2) x hx).2⟩⟩
def gt (l:List Nat)(i:Nat):Nat:=l.getD i 0
theorem gt_set (l:List Nat)(i x j:Nat):gt (l.set i x) j=if i=j∧j<l.length then x else gt l j:=by
 unfold gt
 rw[List.getD_eq_getElem?_getD,List.getD_eq_getElem?_getD,List.getElem?_set]
 by_cases e:i=j
 ·subst e
  by_cases h:i<l.length
  ·simp[h]
  ·simp[h]
 ·simp[e]
theorem gt_app (l:List Nat)(x j:Nat):gt (l++[x]) j=if j=l.length then x else gt l j:=by
 unfold gt
 rw[List.getD_eq_getElem?_getD,List.getD_eq_getElem?_getD]
 by_cases e:j=l.length
 ·subst e;simp
 ·rw[if_neg e]
  by_cases h:j<l.length
  ·rw[List.getElem?_append_left h]
  ·rw[List.getElem?_eq_none (by simp;omega),List.getElem?_eq_none (by omega)]
structure Pt where
 list:List Nat
 place:List Nat
 set:List Nat
 bg:List Nat
 en:List Nat
 mr:List Nat
structure Pt.Wf (n:Nat)(p:Pt):Prop where
 ll:p.list.length=n
 lp:p.place.length=n
 ls:p.set.length=n
 le:p.en.length=p.bg.length
 lm:p.mr.length=p.bg.length
 pl:∀u,u<n→gt p.place u<n∧gt p.list (gt p.place u)=u
 li:∀i,i<n→gt p.list i<n∧gt p.place (gt p.list i)=i
 st:∀u,u<n→gt p.set u<p.bg.length∧gt p.bg (gt p.set u)≤gt p.place u∧gt p.place u<gt p.en (gt p.set u)
 sp:∀k,k<p.bg.length→gt p.bg k<gt p.en k∧gt p.en k≤n∧∀i,gt p.bg k≤i→i<gt p.en k→gt p.set (gt p.list i)=k
 mr:∀k,k<p.bg.length→gt p.bg k+gt p.mr k≤gt p.en k
def Pt.Mk (p:Pt)(u:Nat):Prop:=gt p.place u<gt p.bg (gt p.set u)+gt p.mr (gt p.set u)
instance (p:Pt)(u:Nat):Decidable (p.Mk u):=inferInstanceAs (Decidable (_<_))
def Pt.markd (p:Pt)(u:Nat):Pt×Bool :=
 bif decide (gt p.place u<gt p.bg (gt p.set u)+gt p.mr (gt p.set u)) then (p,false) else
  ({ p with
   list:=(p.list.set (gt p.place u) (gt p.list (gt p.bg (gt p.set u)+gt p.mr (gt p.set u)))).set (gt p.bg (gt p.set u)+gt p.mr (gt p.set u)) u
   place:=(p.place.set (gt p.list (gt p.bg (gt p.set u)+gt p.mr (gt p.set u))) (gt p.place u)).set u (gt p.bg (gt p.set u)+gt p.mr (gt p.set u))
   mr:=p.mr.set (gt p.set u) (gt p.mr (gt p.set u)+1) },gt p.mr (gt p.set u)+1==1)
theorem markd_spec {n:Nat}{p:Pt}(h:p.Wf n){u:Nat}(hu:u<n):(p.markd u).1.Wf n∧(p.markd u).1.set=p.set∧(p.markd u).1.bg=p.bg∧(p.markd u).1.en=p.en∧(∀v,v<n→((p.markd u).1.Mk v↔p.Mk v∨v=u)) ∧
  ((p.markd u).2=true↔gt p.mr (gt p.set u)=0)∧(∀k,k<p.bg.length→(0<gt (p.markd u).1.mr k↔0<gt p.mr k∨k=gt p.set u)):=by
 obtain⟨hs1,hs2,hs3⟩:=h.st u hu
 obtain⟨hk1,hk2,hk3⟩:=h.sp _ hs1
 obtain⟨hp1,hp2⟩:=h.pl u hu
 unfold Pt.markd
 generalize hs:gt p.set u=s at *
 generalize ha:gt p.place u=a at *
 generalize ht:gt p.bg s+gt p.mr s=t at *
 by_cases hm:a<t
 ·rw[decide_eq_true hm,cond_true]
  refine⟨h,rfl,rfl,rfl,fun v hv=>⟨.inl,?_⟩,?_,fun k hk=>⟨.inl,?_⟩⟩
  ·rintro (h1|rfl)
   ·exact h1
   ·unfold Pt.Mk;rw[hs,ha,ht];exact hm
  ·simp;omega
  ·rintro (h1|rfl)
   ·exact h1
   ·simp only;omega
 ·rw[decide_eq_false hm,cond_false]
  have htn:t<n:=by omega
  obtain⟨hl1,hl2⟩:=h.li t htn
  have hso:=hk3 t (by omega) (by omega)
  generalize ho:gt p.list t=o at *
  have L:∀i,gt ((p.list.set a o).set t u) i=if i=t then u else if i=a then o else gt p.list i:=fun i=>by
   rw[gt_set,gt_set,List.length_set,h.ll]
   by_cases e1:i=t
   ·subst e1;rw[if_pos ⟨rfl,htn⟩,if_pos rfl]
   ·rw[if_neg (by omega),if_neg e1]
    by_cases e2:i=a
    ·subst e2;rw[if_pos ⟨rfl,hp1⟩,if_pos rfl]
    ·rw[if_neg (by omega),if_neg e2]
  have P:∀v,gt ((p.place.set o a).set u t) v=if v=u then t else if v=o then a else gt p.place v:=fun v=>by
   rw[gt_set,gt_set,List.length_set,h.lp]
   by_cases e1:v=u
   ·subst e1;rw[if_pos ⟨rfl,hu⟩,if_pos rfl]
   ·rw[if_neg (by omega),if_neg e1]
    by_cases e2:v=o
    ·subst e2;rw[if_pos ⟨rfl,hl1⟩,if_pos rfl]
    ·rw[if_neg (by omega),if_neg e2]
  have M:∀k,gt (p.mr.set s (gt p.mr s+1)) k=if k=s then gt p.mr s+1 else gt p.mr k:=fun k=>by
   rw[gt_set,h.lm]
   by_cases e:k=s
   ·subst e;rw[if_pos ⟨rfl,hs1⟩,if_pos rfl]
   ·rw[if_neg (by omega),if_neg e]
  have hou:o=u↔a=t:=by
   constructor
   ·intro e;rw[e,ha] at hl2;exact hl2
   ·intro e;rw[←e,hp2] at ho;exact ho.symm
  refine⟨⟨?_,?_,h.ls,h.le,?_,fun v hv=>?_,fun i hi=>?_,fun v hv=>?_,fun k hk=>?_,fun k hk=>?_⟩,rfl,rfl,rfl,fun v hv=>?_,?_,fun k hk=>?_⟩
  ·simp[h.ll]
  ·simp[h.lp]
  ·simp[h.lm]
  ·show gt ((p.place.set o a).set u t) v<n∧gt ((p.list.set a o).set t u) (gt ((p.place.set o a).set u t) v)=v
   rw[P v]
   by_cases e1:v=u
   ·rw[if_pos e1];exact⟨htn,by rw[L,if_pos rfl,e1]⟩
   ·rw[if_neg e1]
    by_cases e2:v=o
    ·rw[if_pos e2]
     exact⟨hp1,by rw[L,if_neg (fun e=>e1 (e2.trans (hou.2 e))),if_pos rfl,e2]⟩
    ·rw[if_neg e2]
     obtain⟨q1,q2⟩:=h.pl v hv
     refine⟨q1,?_⟩
     rw[L,if_neg (fun e=>e2 (by rw[←q2,e,ho])),if_neg (fun e=>e1 (by rw[←q2,e,hp2])),q2]
  ·show gt ((p.list.set a o).set t u) i<n∧gt ((p.place.set o a).set u t) (gt ((p.list.set a o).set t u) i)=i
   rw[L i]
   by_cases e1:i=t
   ·rw[if_pos e1];exact⟨hu,by rw[P,if_pos rfl,e1]⟩
   ·rw[if_neg e1]
    by_cases e2:i=a
    ·rw[if_pos e2]
     exact⟨hl1,by rw[P,if_neg (fun e=>e1 (e2.trans (hou.1 e))),if_pos rfl,e2]⟩
    ·rw[if_neg e2]
     obtain⟨q1,q2⟩:=h.li i hi
     refine⟨q1,?_⟩
     rw[P,if_neg (fun e=>e2 (by rw[←q2,e,ha])),if_neg (fun e=>e1 (by rw[←q2,e,hl2])),q2]
  ·show gt p.set v<p.bg.length∧gt p.bg (gt p.set v)≤gt ((p.place.set o a).set u t) v∧gt ((p.place.set o a).set u t) v<gt p.en (gt p.set v)
   rw[P v]
   by_cases e1:v=u
   ·rw[if_pos e1,e1,hs];exact⟨hs1,by omega,by omega⟩
   ·rw[if_neg e1]
    by_cases e2:v=o
    ·rw[if_pos e2,e2,hso];exact⟨hs1,by omega,by omega⟩
    ·rw[if_neg e2];exact h.st v hv
  ·obtain⟨q1,q2,q3⟩:=h.sp k hk
   refine⟨q1,q2,fun i hi1 hi2=>?_⟩
   show gt p.set (gt ((p.list.set a o).set t u) i)=k
   have:=q3 i hi1 hi2
   rw[L i]
   by_cases e1:i=t
   ·rw[if_pos e1,hs];rw[e1,ho,hso] at this;exact this
   ·rw[if_neg e1]
    by_cases e2:i=a
    ·rw[if_pos e2,hso];rw[e2,hp2,hs] at this;exact this
    ·rw[if_neg e2];exact this
  ·show gt p.bg k+gt (p.mr.set s (gt p.mr s+1)) k≤gt p.en k
   rw[M k]
   by_cases e:k=s
   ·rw[if_pos e,e];omega
   ·rw[if_neg e];exact h.mr k hk
  ·show gt ((p.place.set o a).set u t) v<gt p.bg (gt p.set v)+gt (p.mr.set s (gt p.mr s+1)) (gt p.set v)↔p.Mk v∨v=u
   unfold Pt.Mk
   rw[P v,M]
   by_cases e1:v=u
   ·rw[if_pos e1,e1,hs,if_pos rfl]
    exact⟨fun _=>.inr rfl,fun _=>by omega⟩
   ·rw[if_neg e1]
    by_cases e2:v=o
    ·have hat:a≠t:=fun e=>e1 (e2.trans (hou.2 e))
     rw[if_pos e2,e2,hso,if_pos rfl,hl2]
     constructor
     ·intro hh;exfalso;omega
     ·rintro (hh|hh)
      ·exfalso;omega
      ·exact absurd (e2.trans hh) e1
    ·rw[if_neg e2]
     by_cases e3:gt p.set v=s
     ·have hne:gt p.place v≠t:=fun e=>e2 (by rw[←(h.pl v hv).2,e,ho])
      rw[e3,if_pos rfl]
      constructor
      ·intro hh;exact .inl (by omega)
      ·rintro (hh|hh)
       ·omega
       ·exact absurd hh e1
     ·rw[if_neg e3]
      exact⟨.inl,fun hh=>hh.resolve_right e1⟩
  ·simp
  ·show 0<gt (p.mr.set s (gt p.mr s+1)) k↔_
   rw[M k]
   by_cases e:k=s
   ·rw[if_pos e];exact⟨fun _=>.inr e,fun _=>by omega⟩
   ·rw[if_neg e];exact⟨.inl,fun hh=>hh.resolve_right e⟩
def setAll (k:Nat):List Nat→List Nat→List Nat
 |[],s=>s
 |u::l,s=>setAll k l (s.set u k)
theorem setAll_len (k:Nat):∀(l s:List Nat),(setAll k l s).length=s.length
 |[],s=>rfl
 |u::l,s=>by rw[setAll,setAll_len k l,List.length_set]
theorem setAll_gt (k:Nat):∀(l s:List Nat) (v:Nat),v<s.length→gt (setAll k l s) v=if v∈l then k else gt s v
 |[],s,v,_=>by simp[setAll]
 |u::l,s,v,hv=>by
  rw[setAll,setAll_gt k l _ v (by rw[List.length_set];exact hv),gt_set]
  by_cases h1:v∈l
  ·rw[if_pos h1,if_pos (List.mem_cons_of_mem _ h1)]
  ·rw[if_neg h1]
   by_cases h2:u=v
   ·rw[if_pos ⟨h2,hv⟩,if_pos (by rw[h2];exact List.mem_cons_self ..)]
   ·rw[if_neg (by omega),if_neg (by simp[h1];omega)]
def piece (l:List Nat)(a b:Nat):List Nat:=(l.drop a).take (b-a)
theorem piece_mem {l:List Nat}{a b x:Nat}(hb:b≤l.length):x∈piece l a b↔∃i,a≤i∧i<b∧gt l i=x:=by
 unfold piece
 rw[List.mem_take_iff_getElem]
 constructor
 ·rintro⟨j,hj,e⟩
  rw[List.length_drop] at hj
  rw[List.getElem_drop] at e
  refine⟨a+j,by omega,by omega,?_⟩
  unfold gt
  rw[List.getD_eq_getElem?_getD,List.getElem?_eq_getElem (by omega)]
  exact e
 ·rintro⟨i,h1,h2,e⟩
  refine⟨i-a,by rw[List.length_drop];omega,?_⟩
  rw[List.getElem_drop]
  unfold gt at e
  rw[List.getD_eq_getElem?_getD,List.getElem?_eq_getElem (by omega)] at e
  simp only[Option.getD_some] at e
  rw[←e]
  congr 1
  omega
def Pt.cut (p:Pt)(s:Nat):Pt×Bool :=
 bif gt p.mr s==gt p.en s-gt p.bg s then ({ p with mr:=p.mr.set s 0 },false) else
 bif decide (2*gt p.mr s>gt p.en s-gt p.bg s) then
  ({ p with mr:=p.mr.set s 0++[0],bg:=p.bg++[gt p.bg s+gt p.mr s],en:=p.en.set s (gt p.bg s+gt p.mr s)++[gt p.en s],set:=setAll p.bg.length (piece p.list (gt p.bg s+gt p.mr s) (gt p.en s)) p.set },true)
 else
  ({ p with mr:=p.mr.set s 0++[0],bg:=p.bg.set s (gt p.bg s+gt p.mr s)++[gt p.bg s],en:=p.en++[gt p.bg s+gt p.mr s],set:=setAll p.bg.length (piece p.list (gt p.bg s) (gt p.bg s+gt p.mr s)) p.set },true)
structure Cut (n:Nat)(p:Pt)(s:Nat)(r:Pt×Bool):Prop where
 wf:r.1.Wf n
 len:r.1.bg.length=p.bg.length+(bif r.2 then 1 else 0)
 num:∀v,v<n→gt r.1.set v=gt p.set v∨(gt p.set v=s∧gt r.1.set v=p.bg.length∧r.2=true)
 eq:∀u v,u<n→v<n→(gt r.1.set u=gt r.1.set v↔gt p.set u=gt p.set v∧(gt p.set u=s→(p.Mk u↔p.Mk v)))
 mr:∀k,k<p.bg.length→k≠s→gt r.1.mr k=gt p.mr k
 mk0:gt r.1.mr s=0
 mkK:r.2=true→gt r.1.mr p.bg.length=0
 Mk:∀v,v<n→gt p.set v≠s→(r.1.Mk v↔p.Mk v)
theorem cut_part {n:Nat}{p:Pt}(h:p.Wf n){s:Nat}(hs:s<p.bg.length)(b:Bool){f t f' t':Nat}(hb:gt p.bg s≤f∧f<t∧t≤gt p.en s)(hb':gt p.bg s≤f'∧f'<t'∧t'≤gt p.en s)
  (hm:∀i,gt p.bg s≤i→i<gt p.en s→((f≤i∧i<t↔(i<gt p.bg s+gt p.mr s↔b=true))∧(f'≤i∧i<t'↔¬(f≤i∧i<t)))){bg1 en1:List Nat}
  (hbl:bg1.length=p.bg.length)(hel:en1.length=p.bg.length)(hbg:∀k,gt bg1 k=if k=s then f' else gt p.bg k)(hen:∀k,gt en1 k=if k=s then t' else gt p.en k) :
  Cut n p s ({ p with mr:=p.mr.set s 0++[0],bg:=bg1++[f],en:=en1++[t],set:=setAll p.bg.length (piece p.list f t) p.set },true):=by
 obtain⟨k1,k2,k3⟩:=h.sp s hs
 have hS:∀v,v<n→gt (setAll p.bg.length (piece p.list f t) p.set) v=if gt p.set v=s∧(p.Mk v↔b=true) then p.bg.length else gt p.set v:=fun v hv=>by
  rw[setAll_gt _ _ _ _ (by rw[h.ls];exact hv)]
  obtain⟨q1,q2⟩:=h.pl v hv
  have hi:v∈piece p.list f t↔gt p.set v=s∧(p.Mk v↔b=true):=by
   rw[piece_mem (by rw[h.ll];omega)]
   constructor
   ·rintro⟨i,h1,h2,rfl⟩
    have hin:i<n:=by omega
    have e:=(h.li i hin).2
    have es:=k3 i (by omega) (by omega)
    refine⟨es,?_⟩
    have:=((hm i (by omega) (by omega)).1).1 ⟨h1,h2⟩
    unfold Pt.Mk
    rw[e,es];exact this
   ·rintro⟨h1,h2⟩
    obtain⟨_,r2,r3⟩:=h.st v hv
    rw[h1] at r2 r3
    unfold Pt.Mk at h2
    rw[h1] at h2
    obtain⟨h3,h4⟩:=((hm _ r2 r3).1).2 h2
    exact⟨_,h3,h4,q2⟩
  by_cases e:v∈piece p.list f t
  ·rw[if_pos e,if_pos (hi.1 e)]
  ·rw[if_neg e,if_neg fun c=>e (hi.2 c)]
 have hK:∀v,v<n→gt p.set v<p.bg.length:=fun v hv=>(h.st v hv).1
 have hM:∀k,gt (p.mr.set s 0++[0]) k=if k=s∨k=p.bg.length then 0 else gt p.mr k:=fun k=>by
  rw[gt_app,gt_set,List.length_set,h.lm]
  by_cases e1:k=p.bg.length
  ·rw[if_pos e1,if_pos (.inr e1)]
  ·rw[if_neg e1]
   by_cases e2:k=s
   ·rw[if_pos ⟨e2.symm,by omega⟩,if_pos (.inl e2)]
   ·rw[if_neg (by omega),if_neg (by omega)]
 have hB:∀k,gt (bg1++[f]) k=if k=p.bg.length then f else if k=s then f' else gt p.bg k:=fun k=>by rw[gt_app,hbl,hbg]
 have hE:∀k,gt (en1++[t]) k=if k=p.bg.length then t else if k=s then t' else gt p.en k:=fun k=>by rw[gt_app,hel,hen]
 have hin:∀v,v<n→gt p.set v=s→((f≤gt p.place v∧gt p.place v<t↔(p.Mk v↔b=true))∧(f'≤gt p.place v∧gt p.place v<t'↔¬(f≤gt p.place v∧gt p.place v<t))):=fun v hv e=>by
  obtain⟨_,r2,r3⟩:=h.st v hv
  rw[e] at r2 r3
  have:=hm _ r2 r3
  unfold Pt.Mk
  rw[e];exact this
 refine⟨⟨h.ll,h.lp,by rw[setAll_len];exact h.ls,by simp[hel,hbl],by simp[h.lm,hbl],h.pl,h.li,fun v hv=>?_,fun k hk=>?_,fun k hk=>?_⟩,by simp[hbl],fun v hv=>?_,fun u v hu hv=>?_,fun k hk hne=>?_,?_,fun _=>?_,fun v hv hne=>?_⟩
 ·show gt (setAll p.bg.length (piece p.list f t) p.set) v<(bg1++[f]).length∧gt (bg1++[f]) (gt (setAll p.bg.length (piece p.list f t) p.set) v)≤gt p.place v∧gt p.place v<gt (en1++[t]) (gt (setAll p.bg.length (piece p.list f t) p.set) v)
  rw[hS v hv,hB,hE,List.length_append,hbl]
  have hkv:=hK v hv
  obtain⟨r1,r2,r3⟩:=h.st v hv
  by_cases c:gt p.set v=s∧(p.Mk v↔b=true)
  ·have:=((hin v hv c.1).1).2 c.2
   simp only[if_pos c]
   exact⟨by simp,this.1,this.2⟩
  ·simp only[if_neg c]
   have hne:¬gt p.set v=p.bg.length:=by omega
   rw[if_neg hne,if_neg hne]
   by_cases e:gt p.set v=s
   ·have:=((hin v hv e).2).2 fun c2=>c ⟨e,((hin v hv e).1).1 c2⟩
    rw[if_pos e,if_pos e]
    exact⟨by simp;omega,this.1,this.2⟩
   ·rw[if_neg e,if_neg e]
    exact⟨by simp;omega,r2,r3⟩
 ·show gt (bg1++[f]) k<gt (en1++[t]) k∧gt (en1++[t]) k≤n∧∀i,gt (bg1++[f]) k≤i→i<gt (en1++[t]) k→gt (setAll p.bg.length (piece p.list f t) p.set) (gt p.list i)=k
  have hk:k<p.bg.length+1:=by simpa[hbl] using hk
  rw[hB,hE]
  by_cases e1:k=p.bg.length
  ·rw[if_pos e1,if_pos e1]
   refine⟨hb.2.1,by omega,fun i h1 h2=>?_⟩
   obtain⟨q1,q2⟩:=h.li i (by omega)
   have es:=k3 i (by omega) (by omega)
   rw[hS _ q1,if_pos ⟨es,((hin _ q1 es).1).1 (by rw[q2];exact⟨h1,h2⟩)⟩,e1]
  ·rw[if_neg e1,if_neg e1]
   by_cases e2:k=s
   ·rw[if_pos e2,if_pos e2]
    refine⟨hb'.2.1,by omega,fun i h1 h2=>?_⟩
    obtain⟨q1,q2⟩:=h.li i (by omega)
    have es:=k3 i (by omega) (by omega)
    have hno:¬(f≤i∧i<t):=((hm i (by omega) (by omega)).2).1 ⟨h1,h2⟩
    rw[hS _ q1,if_neg (fun c=>hno (by have:=((hin _ q1 es).1).2 c.2;rw[q2] at this;exact this)),es,e2]
   ·rw[if_neg e2,if_neg e2]
    obtain⟨r1,r2,r3⟩:=h.sp k (by omega)
    refine⟨r1,r2,fun i h1 h2=>?_⟩
    obtain⟨q1,_⟩:=h.li i (by omega)
    have es:=r3 i h1 h2
    rw[hS _ q1,if_neg (fun c=>e2 (es.symm.trans c.1)),es]
 ·show gt (bg1++[f]) k+gt (p.mr.set s 0++[0]) k≤gt (en1++[t]) k
  have hk:k<p.bg.length+1:=by simpa[hbl] using hk
  rw[hB,hE,hM]
  by_cases e1:k=p.bg.length
  ·rw[if_pos e1,if_pos e1,if_pos (.inr e1)];omega
  ·rw[if_neg e1,if_neg e1]
   by_cases e2:k=s
   ·rw[if_pos e2,if_pos e2,if_pos (.inl e2)];omega
   ·rw[if_neg e2,if_neg e2,if_neg (by omega)]
    exact h.mr k (by omega)
 ·show gt (setAll p.bg.length (piece p.list f t) p.set) v=_∨_
  rw[hS v hv]
  by_cases c:gt p.set v=s∧(p.Mk v↔b=true)
  ·right
   refine⟨c.1,?_,rfl⟩
   rw[if_pos c]
  ·rw[if_neg c];exact .inl rfl
 ·show gt (setAll p.bg.length (piece p.list f t) p.set) u=gt (setAll p.bg.length (piece p.list f t) p.set) v↔_
  have hku:=hK u hu
  have hkv:=hK v hv
  rw[hS u hu,hS v hv]
  by_cases cu:gt p.set u=s∧(p.Mk u↔b=true)
  ·by_cases cv:gt p.set v=s∧(p.Mk v↔b=true)
   ·rw[if_pos cu,if_pos cv]
    exact⟨fun _=>⟨cu.1.trans cv.1.symm,fun _=>cu.2.trans cv.2.symm⟩,fun _=>rfl⟩
   ·rw[if_pos cu,if_neg cv]
    constructor
    ·intro e;omega
    ·rintro⟨e1,e2⟩
     exact absurd ⟨e1.symm.trans cu.1,(e2 cu.1).symm.trans cu.2⟩ cv
  ·by_cases cv:gt p.set v=s∧(p.Mk v↔b=true)
   ·rw[if_neg cu,if_pos cv]
    constructor
    ·intro e;omega
    ·rintro⟨e1,e2⟩
     have es:=e1.trans cv.1
     exact absurd ⟨es,(e2 es).trans cv.2⟩ cu
   ·rw[if_neg cu,if_neg cv]
    constructor
    ·intro e
     refine⟨e,fun es=>?_⟩
     have c1:¬(p.Mk u↔b=true):=fun c=>cu ⟨es,c⟩
     have c2:¬(p.Mk v↔b=true):=fun c=>cv ⟨e.symm.trans es,c⟩
     cases b with
     |true=>simp only[iff_true] at c1 c2;exact⟨fun x=>absurd x c1,fun x=>absurd x c2⟩
     |false =>
      simp only[Bool.false_eq_true,iff_false,Classical.not_not] at c1 c2
      exact⟨fun _=>c2,fun _=>c1⟩
    ·exact fun e=>e.1
 ·show gt (p.mr.set s 0++[0]) k=gt p.mr k
  rw[hM,if_neg (by omega)]
 ·show gt (p.mr.set s 0++[0]) s=0
  rw[hM,if_pos (.inl rfl)]
 ·show gt (p.mr.set s 0++[0]) p.bg.length=0
  rw[hM,if_pos (.inr rfl)]
 ·show gt p.place v<gt (bg1++[f]) (gt (setAll p.bg.length (piece p.list f t) p.set) v)+gt (p.mr.set s 0++[0]) (gt (setAll p.bg.length (piece p.list f t) p.set) v)↔p.Mk v
  have hkv:=hK v hv
  rw[hS v hv,if_neg (fun c=>hne c.1),hB,hM,if_neg (by omega),if_neg hne,if_neg (by omega)]
  rfl
theorem cut_spec {n:Nat}{p:Pt}(h:p.Wf n){s:Nat}(hs:s<p.bg.length)(hm:0<gt p.mr s):Cut n p s (p.cut s):=by
 obtain⟨k1,k2,k3⟩:=h.sp s hs
 have kk:=h.mr s hs
 unfold Pt.cut
 cases hall:gt p.mr s==gt p.en s-gt p.bg s with
 |true =>
  have hall:gt p.mr s=gt p.en s-gt p.bg s:=by simpa using hall
  rw[cond_true]
  have hM:∀k,gt (p.mr.set s 0) k=if k=s then 0 else gt p.mr k:=fun k=>by
   rw[gt_set,h.lm]
   by_cases e:k=s
   ·rw[if_pos ⟨e.symm,by omega⟩,if_pos e]
   ·rw[if_neg (by omega),if_neg e]
  refine⟨⟨h.ll,h.lp,h.ls,h.le,by simp[h.lm],h.pl,h.li,h.st,h.sp,fun k hk=>?_⟩,rfl,fun v _=>.inl rfl,fun u v hu hv=>⟨fun e=>⟨e,fun es=>?_⟩,fun e=>e.1⟩,fun k hk hne=>?_,?_,fun h=>(nomatch h),fun v hv hne=>?_⟩
  ·show gt p.bg k+gt (p.mr.set s 0) k≤gt p.en k
   rw[hM]
   have:=h.mr k hk
   split <;> omega
  ·have au:=(h.st u hu).2.2
   have av:=(h.st v hv).2.2
   have e:gt p.set u=gt p.set v:=e
   unfold Pt.Mk
   rw[←e] at av ⊢
   rw[es] at au av ⊢
   constructor <;> intro _ <;> omega
  ·show gt (p.mr.set s 0) k=_
   rw[hM,if_neg hne]
  ·show gt (p.mr.set s 0) s=0
   rw[hM,if_pos rfl]
  ·show gt p.place v<gt p.bg (gt p.set v)+gt (p.mr.set s 0) (gt p.set v)↔p.Mk v
   rw[hM,if_neg hne];rfl
 |false =>
  have hall:gt p.mr s≠gt p.en s-gt p.bg s:=by simpa using hall
  rw[cond_false]
  cases decide (2*gt p.mr s>gt p.en s-gt p.bg s) with
  |true =>
   rw[cond_true]
   refine cut_part h hs false (f:=gt p.bg s+gt p.mr s) (t:=gt p.en s) (f':=gt p.bg s) (t':=gt p.bg s+gt p.mr s) (by omega) (by omega) (fun i h1 h2=>?_) rfl (by rw[List.length_set];exact h.le) (fun k=>?_) fun k=>?_
   ·simp only[Bool.false_eq_true,iff_false];omega
   ·by_cases e:k=s
    ·rw[if_pos e,e]
    ·rw[if_neg e]
   ·rw[gt_set,h.le]
    by_cases e:k=s
    ·rw[if_pos ⟨e.symm,by omega⟩,if_pos e]
    ·rw[if_neg (by omega),if_neg e]
  |false =>
   rw[cond_false]
   refine cut_part h hs true (f:=gt p.bg s) (t:=gt p.bg s+gt p.mr s) (f':=gt p.bg s+gt p.mr s) (t':=gt p.en s) (by omega) (by omega) (fun i h1 h2=>?_) (by rw[List.length_set]) h.le (fun k=>?_) fun k=>?_
   ·simp only[iff_true];omega
   ·rw[gt_set]
    by_cases e:k=s
    ·rw[if_pos ⟨e.symm,by omega⟩,if_pos e]
    ·rw[if_neg (by omega),if_neg e]
   ·by_cases e:k=s
    ·rw[if_pos e,e]
    ·rw[if_neg e]
def markAll:List Nat→Pt→List Nat→Pt×List Nat
 |[],p,T=>(p,T)
 |u::l,p,T=>markAll l (p.markd u).1 (bif (p.markd u).2 then T++[gt p.set u] else T)
theorem markAll_app:∀(a b:List Nat) (p:Pt) (T:List Nat),markAll (a++b) p T=markAll b (markAll a p T).1 (markAll a p T).2
 |[],b,p,T=>rfl
 |u::a,b,p,T=>by rw[List.cons_append,markAll,markAll,markAll_app a b]
structure Tch (p:Pt)(T:List Nat):Prop where
 nd:T.Nodup
 mem:∀k,k<p.bg.length→(k∈T↔0<gt p.mr k)
 lt:∀k∈T,k<p.bg.length
structure MarkAll (n:Nat)(us:List Nat)(p:Pt)(r:Pt×List Nat):Prop where
 wf:r.1.Wf n
 set:r.1.set=p.set
 bg:r.1.bg=p.bg
 en:r.1.en=p.en
 tch:Tch r.1 r.2
 Mk:∀v,v<n→(r.1.Mk v↔p.Mk v∨v∈us)
theorem markAll_spec {n:Nat}:∀(us:List Nat) {p:Pt} {T:List Nat},p.Wf n→Tch p T→(∀u∈us,u<n)→MarkAll n us p (markAll us p T)
 |[],p,T,h,ht,_=>⟨h,rfl,rfl,rfl,ht,fun v _=>by simp[markAll]⟩
 |u::l,p,T,h,ht,hu=>by
  have hun:=hu u (List.mem_cons_self ..)
  obtain⟨m1,m2,m3,m4,m5,m6,m7⟩:=markd_spec h hun
  have hsu:=(h.st u hun).1
  have ht1:Tch (p.markd u).1 (bif (p.markd u).2 then T++[gt p.set u] else T):=by
   refine⟨?_,fun k hk=>?_,fun k hk=>?_⟩
   ·cases hb:(p.markd u).2 with
    |false=>exact ht.nd
    |true =>
     have h0:=m6.1 hb
     rw[cond_true,List.nodup_append]
     refine⟨ht.nd,by simp,fun a ha b hb=>?_⟩
     rw[List.mem_singleton.1 hb]
     rintro rfl
     have:=(ht.mem _ hsu).1 ha
     omega
   ·rw[m3] at hk
    rw[m7 k hk]
    cases hb:(p.markd u).2 with
    |false =>
     have h0:gt p.mr (gt p.set u)≠0:=fun e=>by rw[m6.2 e] at hb;cases hb
     rw[cond_false,ht.mem k hk]
     constructor
     ·exact .inl
     ·rintro (h1|rfl)
      ·exact h1
      ·omega
    |true =>
     rw[cond_true,List.mem_append,List.mem_singleton,ht.mem k hk]
   ·rw[m3]
    cases hb:(p.markd u).2 with
    |false=>rw[hb] at hk;exact ht.lt k hk
    |true =>
     rw[hb,cond_true,List.mem_append,List.mem_singleton] at hk
     rcases hk with hk|rfl
     ·exact ht.lt k hk
     ·exact hsu
  have ih:=markAll_spec l m1 ht1 fun x hx=>hu x (List.mem_cons_of_mem _ hx)
  rw[markAll]
  refine⟨ih.wf,ih.set.trans m2,ih.bg.trans m3,ih.en.trans m4,ih.tch,fun v hv=>?_⟩
  rw[ih.Mk v hv,m5 v hv,List.mem_cons,or_assoc]
def cutAll:List Nat→Pt→List Nat→Pt×List Nat
 |[],p,w=>(p,w)
 |t::T,p,w=>cutAll T (p.cut t).1 (bif (p.cut t).2 then w++[p.bg.length] else w)
def Pt.Zero (p:Pt):Prop:=∀k,k<p.bg.length→gt p.mr k=0
structure Cuts (n:Nat)(p:Pt)(w:List Nat)(R:Nat→Nat→Prop)(r:Pt×List Nat):Prop where
 wf:r.1.Wf n
 zero:r.1.Zero
 le:p.bg.length≤r.1.bg.length
 wlen:r.2.length+p.bg.length=w.length+r.1.bg.length
 work:∀k,k∈r.2↔k∈w∨(p.bg.length≤k∧k<r.1.bg.length)
 num:∀v,v<n→gt r.1.set v=gt p.set v∨p.bg.length≤gt r.1.set v
 eq:∀u v,u<n→v<n→(gt r.1.set u=gt r.1.set v↔gt p.set u=gt p.set v∧R u v)
theorem cutAll_spec {n:Nat}:∀(T:List Nat) {p:Pt} (w:List Nat),p.Wf n→T.Nodup→(∀k∈T,k<p.bg.length∧0<gt p.mr k)→(∀k,k<p.bg.length→k∉T→gt p.mr k=0) →
  Cuts n p w (fun u v=>gt p.set u∈T→(p.Mk u↔p.Mk v)) (cutAll T p w)
 |[],p,w,h,_,_,hz=>⟨h,fun k hk=>hz k hk (by simp),Nat.le_refl _,rfl,fun k=>by simp only[cutAll];constructor;exact .inl;rintro (h|h);exact h;omega,fun v _=>.inl rfl,fun u v _ _=>by simp[cutAll]⟩
 |t::T,p,w,h,hn,hT,hz=>by
  obtain⟨ht,hm⟩:=hT t (List.mem_cons_self ..)
  have hc:=cut_spec h ht hm
  rw[List.nodup_cons] at hn
  rw[cutAll]
  generalize hr:p.cut t=r at *
  obtain⟨p1,b⟩:=r
  simp only at hc ⊢
  have hlen:p1.bg.length=p.bg.length+(bif b then 1 else 0):=hc.len
  have hle:p.bg.length≤p1.bg.length:=by omega
  have hT1:∀k∈T,k<p1.bg.length∧0<gt p1.mr k:=fun k hk=>by
   obtain⟨q1,q2⟩:=hT k (List.mem_cons_of_mem _ hk)
   refine⟨by omega,?_⟩
   have:gt p1.mr k=gt p.mr k:=hc.mr k q1 fun e=>hn.1 (e ▸ hk)
   omega
  have hz1:∀k,k<p1.bg.length→k∉T→gt p1.mr k=0:=fun k hk hnk=>by
   by_cases e:k=t
   ·rw[e];exact hc.mk0
   ·by_cases e2:k<p.bg.length
    ·have:gt p1.mr k=gt p.mr k:=hc.mr k e2 e
     rw[this]
     exact hz k e2 fun hmem=>by
      rcases List.mem_cons.1 hmem with h1|h1
      ·exact e h1
      ·exact hnk h1
    ·cases b with
     |false=>simp at hlen;omega
     |true =>
      have:k=p.bg.length:=by simp at hlen;omega
      rw[this];exact hc.mkK rfl
  have ih:=cutAll_spec (p:=p1) T (bif b then w++[p.bg.length] else w) hc.wf hn.2 hT1 hz1
  have ile:=ih.le
  have iwl:=ih.wlen
  refine⟨ih.wf,ih.zero,by omega,?_,fun k=>?_,fun v hv=>?_,fun u v hu hv=>?_⟩
  ·cases b with
   |false=>simp at hlen iwl ⊢;omega
   |true=>simp at hlen iwl ⊢;omega
  ·rw[ih.work k]
   cases b with
   |false =>
    have hlen:p1.bg.length=p.bg.length:=by simpa using hlen
    rw[cond_false,hlen]
   |true =>
    have hlen:p1.bg.length=p.bg.length+1:=by simpa using hlen
    simp only[cond_true] at ile
    rw[cond_true,List.mem_append,List.mem_singleton]
    constructor
    ·rintro ((h1|h1)|h1)
     ·exact .inl h1
     ·exact .inr (by omega)
     ·exact .inr (by omega)
    ·rintro (h1|h1)
     ·exact .inl (.inl h1)
     ·by_cases e:k=p.bg.length
      ·exact .inl (.inr e)
      ·exact .inr (by omega)
  ·rcases ih.num v hv with h1|h1
   ·rcases hc.num v hv with h2|h2
    ·exact .inl (h1.trans h2)
    ·have h3:gt p1.set v=p.bg.length:=h2.2.1
     exact .inr (by omega)
   ·exact .inr (by omega)
  ·rw[ih.eq u v hu hv]
   have he:gt p1.set u=gt p1.set v↔gt p.set u=gt p.set v∧(gt p.set u=t→(p.Mk u↔p.Mk v)):=hc.eq u v hu hv
   have hmem:∀x,x<n→(gt p1.set x∈T↔gt p.set x∈T):=fun x hx=>by
    have hnum:gt p1.set x=gt p.set x∨(gt p.set x=t∧gt p1.set x=p.bg.length∧b=true):=hc.num x hx
    rcases hnum with h1|⟨h1,h2,_⟩
    ·rw[h1]
    ·rw[h1,h2]
     constructor
     ·intro hk;have:=(hT _ (List.mem_cons_of_mem _ hk)).1;omega
     ·intro hk;exact absurd hk hn.1
   have hMk:∀x,x<n→gt p.set x≠t→(p1.Mk x↔p.Mk x):=hc.Mk
   rw[he]
   constructor
   ·rintro⟨⟨e1,e2⟩,e3⟩
    refine⟨e1,fun hx=>?_⟩
    rcases List.mem_cons.1 hx with h1|h1
    ·exact e2 h1
    ·have hne:gt p.set u≠t:=fun e=>hn.1 (e ▸ h1)
     have:=e3 ((hmem u hu).2 h1)
     rw[hMk u hu hne,hMk v hv (by rw[←e1];exact hne)] at this
     exact this
   ·rintro⟨e1,e2⟩
    refine⟨⟨e1,fun hx=>e2 (by rw[hx];exact List.mem_cons_self ..)⟩,fun hx=>?_⟩
    have h1:=(hmem u hu).1 hx
    have hne:gt p.set u≠t:=fun e=>hn.1 (e ▸ h1)
    rw[hMk u hu hne,hMk v hv (by rw[←e1];exact hne)]
    exact e2 (List.mem_cons_of_mem _ h1)
def symP (bef:Nat→List Nat)(S:List Nat)(p:Pt)(w:List Nat):Pt×List Nat :=
 cutAll (markAll (S.flatMap bef) p []).2 (markAll (S.flatMap bef) p []).1 w
theorem sym_spec {n:Nat}{p:Pt}(h:p.Wf n)(hz:p.Zero)(w:List Nat){nx:Nat→Nat}{bef:Nat→List Nat}{S:List Nat}(hS:∀c∈S,c<n)(hb:∀c,c<n→∀u,u∈bef c↔u<n∧nx u=c) :
  Cuts n p w (fun u v=>nx u∈S↔nx v∈S) (symP bef S p w):=by
 have hus:∀u,u∈S.flatMap bef↔u<n∧nx u∈S:=fun u=>by
  rw[List.mem_flatMap]
  constructor
  ·rintro⟨c,h1,h2⟩
   obtain⟨q1,q2⟩:=(hb c (hS c h1) u).1 h2
   exact⟨q1,by rw[q2];exact h1⟩
  ·rintro⟨h1,h2⟩
   exact⟨_,h2,(hb _ (hS _ h2) u).2 ⟨h1,rfl⟩⟩
 have ht0:Tch p []:=⟨by simp,fun k hk=>by simp[hz k hk],fun k hk=>by simp at hk⟩
 have hm:=markAll_spec (S.flatMap bef) h ht0 fun u hu=>((hus u).1 hu).1
 unfold symP
 generalize markAll (S.flatMap bef) p []=r at *
 obtain⟨p1,T⟩:=r
 have e1:p1.set=p.set:=hm.set
 have e2:p1.bg=p.bg:=hm.bg
 have t1:T.Nodup:=hm.tch.nd
 have t2:∀k,k<p1.bg.length→(k∈T↔0<gt p1.mr k):=hm.tch.mem
 have t3:∀k∈T,k<p1.bg.length:=hm.tch.lt
 have hc:=cutAll_spec (p:=p1) T w hm.wf t1 (fun k hk=>⟨t3 k hk,(t2 k (t3 k hk)).1 hk⟩) (fun k hk hn=>by have:=t2 k hk;have:¬0<gt p1.mr k:=fun h=>hn (this.2 h);omega)
 have hM:∀v,v<n→(p1.Mk v↔nx v∈S):=fun v hv=>by
  have:p1.Mk v↔p.Mk v∨v∈S.flatMap bef:=hm.Mk v hv
  rw[this,hus]
  constructor
  ·rintro (h1|h1)
   ·obtain⟨q1,q2,_⟩:=h.st v hv
    unfold Pt.Mk at h1
    rw[hz _ q1] at h1
    omega
   ·exact h1.2
  ·exact fun h1=>.inr ⟨hv,h1⟩
 simp only[e1,e2] at hc
 have hle:=hc.le;have hwl:=hc.wlen;have hwk:=hc.work;have hnm:=hc.num
 simp only[e1,e2] at hle hwl hwk hnm
 refine⟨hc.wf,hc.zero,hle,hwl,hwk,hnm,fun u v hu hv=>?_⟩
 have:=hc.eq u v hu hv
 simp only[e1] at this
 rw[this]
 constructor
 ·rintro⟨q1,q2⟩
  refine⟨q1,?_⟩
  by_cases hu':gt p.set u∈T
  ·rw[←hM u hu,←hM v hv];exact q2 hu'
  ·have hno:∀x,x<n→gt p.set x=gt p.set u→¬nx x∈S:=fun x hx e hxS=>by
    obtain⟨r1,r2,r3⟩:=hm.wf.st x hx
    simp only[e1,e] at r1 r2 r3
    have h0:¬0<gt p1.mr (gt p.set u):=fun h=>hu' ((t2 _ r1).2 h)
    have hmx:=(hM x hx).2 hxS
    unfold Pt.Mk at hmx
    rw[e1,e] at hmx
    omega
   exact⟨fun h=>absurd h (hno u hu rfl),fun h=>absurd h (hno v hv q1.symm)⟩
 ·rintro⟨q1,q2⟩
  exact⟨q1,fun _=>by rw[hM u hu,hM v hv];exact q2⟩
def popP (bef:Nat→Nat→List Nat)(S:List Nat):Nat→Nat→Pt→List Nat→Pt×List Nat
 |0,_,p,w=>(p,w)
 |r+1,x,p,w=>popP bef S r (x+1) (symP (bef x) S p w).1 (symP (bef x) S p w).2
theorem pop_spec {n:Nat}{nx:Nat→Nat→Nat}{bef:Nat→Nat→List Nat}{S:List Nat}(hS:∀c∈S,c<n):∀(r x:Nat) {p:Pt} (w:List Nat),p.Wf n→p.Zero→(∀y,x≤y→y<x+r→∀c,c<n→∀u,u∈bef y c↔u<n∧nx u y=c) →
  Cuts n p w (fun u v=>∀y,x≤y→y<x+r→(nx u y∈S↔nx v y∈S)) (popP bef S r x p w)
 |0,x,p,w,h,hz,_=>⟨h,hz,Nat.le_refl _,rfl,fun k=>by simp only[popP];constructor;exact .inl;rintro (h|h);exact h;omega,fun v _=>.inl rfl,fun u v _ _=>⟨fun e=>⟨e,fun y h1 h2=>by omega⟩,fun e=>e.1⟩⟩
 |r+1,x,p,w,h,hz,hb=>by
  have h1:=sym_spec h hz w (nx:=fun u=>nx u x) hS (hb x (Nat.le_refl _) (by omega))
  rw[popP]
  generalize symP (bef x) S p w=q at *
  obtain⟨p1,w1⟩:=q
  simp only at h1 ⊢
  have ih:=pop_spec (p:=p1) hS r (x+1) w1 h1.wf h1.zero fun y hy1 hy2=>hb y (by omega) (by omega)
  have a1:=h1.le;have a2:=ih.le;have a3:=h1.wlen;have a4:=ih.wlen
  simp only at a1 a2 a3 a4
  refine⟨ih.wf,ih.zero,by omega,by omega,fun k=>?_,fun v hv=>?_,fun u v hu hv=>?_⟩
  ·rw[ih.work k]
   have:=h1.work k
   simp only at this
   rw[this]
   constructor
   ·rintro ((h|h)|h)
    ·exact .inl h
    ·exact .inr (by omega)
    ·exact .inr (by omega)
   ·rintro (h|h)
    ·exact .inl (.inl h)
    ·by_cases e:k<p1.bg.length
     ·exact .inl (.inr ⟨h.1,e⟩)
     ·exact .inr ⟨by omega,h.2⟩
  ·have b1:=h1.num v hv
   have b2:=ih.num v hv
   simp only at b1 b2
   rcases b2 with b2|b2
   ·rcases b1 with b1|b1
    ·exact .inl (b2.trans b1)
    ·exact .inr (by omega)
   ·exact .inr (by omega)
  ·rw[ih.eq u v hu hv]
   have:=h1.eq u v hu hv
   simp only at this
   rw[this]
   constructor
   ·rintro⟨⟨e1,e2⟩,e3⟩
    refine⟨e1,fun y hy1 hy2=>?_⟩
    by_cases e:y=x
    ·subst e;exact e2
    ·exact e3 y (by omega) (by omega)
   ·rintro⟨e1,e2⟩
    exact⟨⟨e1,e2 x (Nat.le_refl _) (by omega)⟩,fun y hy1 hy2=>e2 y (by omega) (by omega)⟩
theorem pigeon:∀(n K:Nat) (f:Nat→Nat),(∀k,k<K→f k<n)→(∀i j,i<K→j<K→f i=f j→i=j)→K≤n
 |0,K,f,h1,_=>by
  rcases Nat.eq_zero_or_pos K with h|h
  ·omega
  ·exact absurd (h1 0 h) (by omega)
 |n+1,K,f,h1,h2=>by
  by_cases hex:∃k,k<K∧f k=n
  ·obtain⟨k0,hk0,e0⟩:=hex
   have:=pigeon n (K-1) (fun k=>if k=k0 then f (K-1) else f k) (fun k hk=>by
    by_cases e:k=k0
    ·rw[if_pos e]
     have:=h1 (K-1) (by omega)
     have:f (K-1)≠n:=fun e'=>by have:=h2 (K-1) k0 (by omega) hk0 (e'.trans e0.symm);omega
     omega
    ·rw[if_neg e]
     have:=h1 k (by omega)
     have:f k≠n:=fun e'=>e (h2 k k0 (by omega) hk0 (e'.trans e0.symm))
     omega) (fun i j hi hj e=>by
    by_cases e1:i=k0
    ·by_cases e2:j=k0
     ·omega
     ·rw[if_pos e1,if_neg e2] at e
      have:=h2 _ _ (by omega) (by omega) e;omega
    ·by_cases e2:j=k0
     ·rw[if_neg e1,if_pos e2] at e
      have:=h2 _ _ (by omega) (by omega) e;omega
     ·rw[if_neg e1,if_neg e2] at e
      exact h2 _ _ (by omega) (by omega) e)
   omega
  ·have:=pigeon n K f (fun k hk=>by
    have:=h1 k hk
    have:f k≠n:=fun e=>hex ⟨k,hk,e⟩
    omega) h2
   omega
theorem Pt.Wf.few {n:Nat}{p:Pt}(h:p.Wf n):p.bg.length≤n:=by
 refine pigeon n _ (fun k=>gt p.bg k) (fun k hk=>by have:=h.sp k hk;omega) fun i j hi hj e=>?_
 obtain⟨a1,a2,a3⟩:=h.sp i hi
 obtain⟨b1,b2,b3⟩:=h.sp j hj
 have e:gt p.bg i=gt p.bg j:=e
 have:=a3 _ (Nat.le_refl _) a1
 have:=b3 _ (Nat.le_refl _) b1
 rw[e] at *
 omega
def hopP (bef:Nat→Nat→List Nat)(m:Nat):Nat→Pt→List Nat→Pt
 |0,p,_=>p
 |f+1,p,w=>match w.getLast? with
  |none=>p
  |some s=>hopP bef m f (popP bef (piece p.list (gt p.bg s) (gt p.en s)) m 0 p w.dropLast).1 (popP bef (piece p.list (gt p.bg s) (gt p.en s)) m 0 p w.dropLast).2
structure Hop (A:Fa)(p:Pt)(w:List Nat):Prop where
 wf:p.Wf A.n
 zero:p.Zero
 work:∀k∈w,k<p.bg.length
 fr:∀u v,u<A.n→v<A.n→gt p.set u=gt p.set v→∀x,x<A.m→A.fr u x=A.fr v x
 bis:∀B,Bis A B→∀u v,B u v→gt p.set u=gt p.set v
 part:∃xc:Nat→Nat,(∀u v,u<A.n→v<A.n→gt p.set u=gt p.set v→xc u=xc v)∧(∀u v,u<A.n→v<A.n→gt p.set u=gt p.set v→∀x,x<A.m→xc (A.nx u x)=xc (A.nx v x)) ∧
  ∀u v,u<A.n→v<A.n→xc u=xc v→gt p.set u∈w∨gt p.set v∈w∨gt p.set u=gt p.set v
theorem hop_step {A:Fa}(hA:A.ok){bef:Nat→Nat→List Nat}(hb:∀y,y<A.m→∀c,c<A.n→∀u,u∈bef y c↔u<A.n∧A.nx u y=c){p:Pt}{w:List Nat}(h:Hop A p w){s:Nat}(hs:w.getLast? = some s) :
  Hop A (popP bef (piece p.list (gt p.bg s) (gt p.en s)) A.m 0 p w.dropLast).1 (popP bef (piece p.list (gt p.bg s) (gt p.en s)) A.m 0 p w.dropLast).2 ∧
  2*(A.n-(popP bef (piece p.list (gt p.bg s) (gt p.en s)) A.m 0 p w.dropLast).1.bg.length)+(popP bef (piece p.list (gt p.bg s) (gt p.en s)) A.m 0 p w.dropLast).2.length<2*(A.n-p.bg.length)+w.length:=by
 have hw:w=w.dropLast++[s]:=by
  have hne:w≠[]:=fun e=>by rw[e] at hs;cases hs
  rw[List.getLast?_eq_some_getLast hne] at hs
  have:=List.dropLast_concat_getLast hne
  rw[Option.some.inj hs] at this
  exact this.symm
 have hsK:s<p.bg.length:=h.work s (by rw[hw];simp)
 obtain⟨k1,k2,k3⟩:=h.wf.sp s hsK
 have hS:∀c,c<A.n→(c∈piece p.list (gt p.bg s) (gt p.en s)↔gt p.set c=s):=fun c hc=>by
  rw[piece_mem (by rw[h.wf.ll];exact k2)]
  constructor
  ·rintro⟨i,h1,h2,rfl⟩;exact k3 i h1 h2
  ·intro e
   obtain⟨_,r2,r3⟩:=h.wf.st c hc
   rw[e] at r2 r3
   exact⟨_,r2,r3,(h.wf.pl c hc).2⟩
 have hSn:∀c∈piece p.list (gt p.bg s) (gt p.en s),c<A.n:=fun c hc=>by
  rw[piece_mem (by rw[h.wf.ll];exact k2)] at hc
  obtain⟨i,h1,h2,rfl⟩:=hc
  exact (h.wf.li i (by omega)).1
 have hp:=pop_spec (nx:=A.nx) hSn A.m 0 w.dropLast h.wf h.zero fun y _ hy=>hb y (by omega)
 generalize piece p.list (gt p.bg s) (gt p.en s)=S at *
 generalize popP bef S A.m 0 p w.dropLast=q at *
 obtain⟨p1,w1⟩:=q
 have hpw:p1.Wf A.n:=hp.wf
 have hfew:=hpw.few
 have hle:p.bg.length≤p1.bg.length:=hp.le
 have hwl:w1.length+p.bg.length=w.dropLast.length+p1.bg.length:=hp.wlen
 have hwk:∀k,k∈w1↔k∈w.dropLast∨(p.bg.length≤k∧k<p1.bg.length):=hp.work
 have hnum:∀v,v<A.n→gt p1.set v=gt p.set v∨p.bg.length≤gt p1.set v:=hp.num
 have heq:∀u v,u<A.n→v<A.n→(gt p1.set u=gt p1.set v↔gt p.set u=gt p.set v∧∀y,0≤y→y<0+A.m→(A.nx u y∈S↔A.nx v y∈S)):=hp.eq
 have hwlen:w.length=w.dropLast.length+1:=by
  conv=>lhs;rw[hw]
  simp
 refine⟨⟨hpw,hp.zero,fun k hk=>?_,fun u v hu hv e=>h.fr u v hu hv ((heq u v hu hv).1 e).1,fun B hB u v huv=>?_,?_⟩,by show 2*(A.n-p1.bg.length)+w1.length<_;omega⟩
 ·rcases (hwk k).1 hk with h1|h1
  ·have:=h.work k (by rw[hw];exact List.mem_append_left _ h1)
   show k<p1.bg.length
   omega
  ·exact h1.2
 ·obtain⟨hu,hv⟩:=hB.lt u v huv
  refine (heq u v hu hv).2 ⟨h.bis B hB u v huv,fun y _ hy=>?_⟩
  have hn:=hB.nx u v huv y (by omega)
  obtain⟨n1,n2⟩:=hB.lt _ _ hn
  rw[hS _ n1,hS _ n2,h.bis B hB _ _ hn]
 ·obtain⟨xc,x1,x2,x3⟩:=h.part
  refine⟨fun u=>2*xc u+if gt p.set u=s then 1 else 0,fun u v hu hv e=>?_,fun u v hu hv e x hx=>?_,fun u v hu hv e=>?_⟩
  ·have e:=((heq u v hu hv).1 e).1
   simp only[x1 u v hu hv e,e]
  ·obtain⟨e,e'⟩:=(heq u v hu hv).1 e
   have n1:=hA.lt u x hu hx
   have n2:=hA.lt v x hv hx
   have hm:=e' x (Nat.zero_le _) (by omega)
   rw[hS _ n1,hS _ n2] at hm
   simp only[x2 u v hu hv e x hx]
   by_cases c:gt p.set (A.nx u x)=s
   ·rw[if_pos c,if_pos (hm.1 c)]
   ·rw[if_neg c,if_neg fun c'=>c (hm.2 c')]
  ·have ex:xc u=xc v∧(gt p.set u=s↔gt p.set v=s):=by
    simp only at e
    by_cases c:gt p.set u=s
    ·by_cases c':gt p.set v=s
     ·rw[if_pos c,if_pos c'] at e;exact⟨by omega,by simp[c,c']⟩
     ·rw[if_pos c,if_neg c'] at e;omega
    ·by_cases c':gt p.set v=s
     ·rw[if_neg c,if_pos c'] at e;omega
     ·rw[if_neg c,if_neg c'] at e;exact⟨by omega,by simp[c,c']⟩
   show gt p1.set u∈w1∨gt p1.set v∈w1∨gt p1.set u=gt p1.set v
   by_cases cu:gt p1.set u∈w1
   ·exact .inl cu
   by_cases cv:gt p1.set v∈w1
   ·exact .inr (.inl cv)
   refine .inr (.inr ?_)
   have old:∀v,v<A.n→¬gt p1.set v∈w1→gt p1.set v=gt p.set v∧¬gt p.set v∈w.dropLast:=fun v hv c=>by
    have hlt:=(hpw.st v hv).1
    rcases hnum v hv with h1|h1
    ·refine⟨h1,fun hm=>c ((hwk _).2 (.inl ?_))⟩
     rw[h1];exact hm
    ·exact absurd ((hwk _).2 (.inr ⟨h1,hlt⟩)) c
   obtain⟨u1,u2⟩:=old u hu cu
   obtain⟨v1,v2⟩:=old v hv cv
   rw[u1,v1]
   by_cases c:gt p.set u=s
   ·rw[c,ex.2.1 c]
   ·have c':gt p.set v≠s:=fun h=>c (ex.2.2 h)
    rcases x3 u v hu hv ex.1 with h1|h1|h1
    ·rw[hw,List.mem_append,List.mem_singleton] at h1
     rcases h1 with h1|h1
     ·exact absurd h1 u2
     ·exact absurd h1 c
    ·rw[hw,List.mem_append,List.mem_singleton] at h1
     rcases h1 with h1|h1
     ·exact absurd h1 v2
     ·exact absurd h1 c'
    ·exact h1
theorem hop_end {A:Fa}(hA:A.ok){bef:Nat→Nat→List Nat}(hb:∀y,y<A.m→∀c,c<A.n→∀u,u∈bef y c↔u<A.n∧A.nx u y=c):∀(f:Nat) {p:Pt} {w:List Nat},Hop A p w→2*(A.n-p.bg.length)+w.length≤f→Hop A (hopP bef A.m f p w) []
 |0,p,w,h,hf=>by
  have:w=[]:=List.length_eq_zero_iff.1 (by omega)
  subst this;exact h
 |f+1,p,w,h,hf=>by
  rw[hopP]
  cases hs:w.getLast? with
  |none =>
   have:w=[]:=by simpa using hs
   subst this;exact h
  |some s =>
   obtain⟨h1,h2⟩:=hop_step hA hb h hs
   exact hop_end hA hb f h1 (by omega)
theorem hop_cls {A:Fa}(hA:A.ok){p:Pt}(h:Hop A p []){u v:Nat}(hu:u<A.n)(hv:v<A.n):gt p.set u=gt p.set v↔clsR A u=clsR A v:=by
 constructor
 ·intro e
  obtain⟨xc,x1,x2,x3⟩:=h.part
  refine clsR_bis (B:=fun u v=>u<A.n∧v<A.n∧gt p.set u=gt p.set v) ⟨fun u v k=>⟨k.1,k.2.1⟩,fun u v k=>h.fr u v k.1 k.2.1 k.2.2,fun u v k x hx=>⟨hA.lt u x k.1 hx,hA.lt v x k.2.1 hx,?_⟩⟩ u v ⟨hu,hv,e⟩
  rcases x3 _ _ (hA.lt u x k.1 hx) (hA.lt v x k.2.1 hx) (x2 u v k.1 k.2.1 k.2.2 x hx) with h1|h1|h1
  ·simp at h1
  ·simp at h1
  ·exact h1
 ·intro e
  exact h.bis _ (clsR_isBis hA) u v ⟨hu,hv,e⟩
def idxN:List Nat→Nat→Nat
 |[],_=>0
 |x::l,c=>bif x==c then 0 else idxN l c+1
theorem idxN_lt:∀(l:List Nat) (c:Nat),idxN l c<l.length↔c∈l
 |[],c=>by simp[idxN]
 |x::l,c=>by
  have:=idxN_lt l c
  rw[idxN,List.length_cons,List.mem_cons]
  cases h:x==c with
  |true =>
   have:x=c:=by simpa using h
   simp[this]
  |false =>
   have hne:¬x=c:=by simpa using h
   simp only[cond_false]
   constructor
   ·intro h;exact .inr (this.1 (by omega))
   ·rintro (h|h)
    ·exact absurd h.symm hne
    ·have:=this.2 h;omega
theorem idxN_map (f g:Nat→Nat)(n:Nat):∀(l:List Nat),(∀a∈l,f a=f n↔g a=g n)→idxN (l.map f) (f n)=idxN (l.map g) (g n)
 |[],_=>rfl
 |x::l,h=>by
  have h0:=h x (List.mem_cons_self ..)
  have he:(f x==f n)=(g x==g n):=by rw[Bool.eq_iff_iff,beq_iff_eq,beq_iff_eq];exact h0
  rw[List.map_cons,List.map_cons,idxN,idxN,he,idxN_map f g n l fun a ha=>h a (List.mem_cons_of_mem _ ha)]
def numRow (κ:Nat→Nat):List Nat→List Nat→List Nat×List Nat
 |[],st=>(st,[])
 |c::cs,st=>bif decide (idxN (st.map κ) (κ c)<st.length) then ((numRow κ cs st).1,idxN (st.map κ) (κ c)::(numRow κ cs st).2) else ((numRow κ cs (st++[c])).1,st.length::(numRow κ cs (st++[c])).2)
theorem numRow_rel {κ ρ:Nat→Nat}{Q:Nat→Prop}(hk:∀a b,Q a→Q b→(κ a=κ b↔ρ a=ρ b)):∀(cs st:List Nat),(∀a∈cs,Q a)→(∀a∈st,Q a)→numRow id (cs.map ρ) (st.map ρ)=((numRow κ cs st).1.map ρ,(numRow κ cs st).2)∧∀a∈(numRow κ cs st).1,Q a
 |[],st,_,h=>⟨rfl,h⟩
 |c::cs,st,h1,h2=>by
  have hc:=h1 c (List.mem_cons_self ..)
  have hcs:=fun a ha=>h1 a (List.mem_cons_of_mem _ ha)
  have he:idxN ((st.map ρ).map id) (id (ρ c))=idxN (st.map κ) (κ c):=by
   rw[List.map_id]
   exact (idxN_map κ ρ c st fun a ha=>hk a c (h2 a ha) hc).symm
  rw[List.map_cons,numRow,numRow,he,List.length_map]
  cases decide (idxN (st.map κ) (κ c)<st.length) with
  |true =>
   obtain⟨e1,e2⟩:=numRow_rel hk cs st hcs h2
   simp only[cond_true,e1]
   exact⟨by first|rfl|trivial,e2⟩
  |false =>
   obtain⟨e1,e2⟩:=numRow_rel hk cs (st++[c]) hcs fun a ha=>by
    rcases List.mem_append.1 ha with h|h
    ·exact h2 a h
    ·rw[List.mem_singleton.1 h];exact hc
   have e3:st.map ρ++[ρ c]=(st++[c]).map ρ:=by simp
   simp only[cond_false,e3,e1]
   exact⟨by first|rfl|trivial,e2⟩
def bfsN (κ:Nat→Nat)(row:Nat→List Nat):Nat→Nat→List Nat→List (Nat×List Nat)
 |0,_,_=>[]
 |f+1,i,st=>match st[i]? with
  |none=>[]
  |some s=>(s,(numRow κ (row s) st).2)::bfsN κ row f (i+1) (numRow κ (row s) st).1
theorem bfsN_rel {κ ρ:Nat→Nat}{Q:Nat→Prop}(hk:∀a b,Q a→Q b→(κ a=κ b↔ρ a=ρ b)){row row':Nat→List Nat}(hr:∀s,Q s→row' (ρ s)=(row s).map ρ∧∀a∈row s,Q a):∀(f i:Nat) (st:List Nat),(∀a∈st,Q a) →
  bfsN id row' f i (st.map ρ)=(bfsN κ row f i st).map (fun x=>(ρ x.1,x.2))∧∀x∈bfsN κ row f i st,Q x.1
 |0,i,st,h=>⟨rfl,fun x hx=>by simp[bfsN] at hx⟩
 |f+1,i,st,h=>by
  rw[bfsN,bfsN,List.getElem?_map]
  cases hs:st[i]? with
  |none=>exact⟨rfl,fun x hx=>by simp at hx⟩
  |some s =>
   have hq:=h s (List.mem_of_getElem? hs)
   obtain⟨r1,r2⟩:=hr s hq
   obtain⟨e1,e2⟩:=numRow_rel hk (row s) st r2 h
   obtain⟨i1,i2⟩:=bfsN_rel hk hr f (i+1) _ e2
   simp only[Option.map_some,r1,e1,i1,List.map_cons]
   refine⟨by first|rfl|trivial,fun x hx=>?_⟩
   rcases List.mem_cons.1 hx with rfl|hx
   ·exact hq
   ·exact i2 x hx
theorem numRow_nd {κ:Nat→Nat}:∀(cs st:List Nat),(st.map κ).Nodup→((numRow κ cs st).1.map κ).Nodup∧st.length≤(numRow κ cs st).1.length∧(∀i,i<st.length→(numRow κ cs st).1[i]? = st[i]?)∧(numRow κ cs st).2.length=cs.length∧∀k∈(numRow κ cs st).2,k<(numRow κ cs st).1.length
 |[],st,h=>⟨h,Nat.le_refl _,fun _ _=>rfl,rfl,fun k hk=>by simp[numRow] at hk⟩
 |c::cs,st,h=>by
  rw[numRow]
  cases hd:decide (idxN (st.map κ) (κ c)<st.length) with
  |true =>
   obtain⟨h1,h2,h3,h4,h5⟩:=numRow_nd cs st h
   have hd:idxN (st.map κ) (κ c)<st.length:=by simpa using hd
   simp only[cond_true,List.length_cons,h4]
   refine⟨h1,h2,h3,by first|rfl|trivial,fun k hk=>?_⟩
   rcases List.mem_cons.1 hk with rfl|hk
   ·omega
   ·exact h5 k hk
  |false =>
   have hd:¬idxN (st.map κ) (κ c)<(st.map κ).length:=by rw[List.length_map];simpa using hd
   rw[idxN_lt] at hd
   obtain⟨h1,h2,h3,h4,h5⟩:=numRow_nd cs (st++[c]) (by
    rw[List.map_append,List.nodup_append]
    refine⟨h,by simp,fun a ha b hb=>?_⟩
    rw[List.map_cons,List.map_nil,List.mem_singleton] at hb
    rintro rfl
    rw[hb] at ha
    exact hd ha)
   rw[List.length_append,List.length_singleton] at h2
   simp only[cond_false,List.length_cons,h4]
   refine⟨h1,by omega,fun i hi=>?_,by first|rfl|trivial,fun k hk=>?_⟩
   ·rw[h3 i (by rw[List.length_append];omega),List.getElem?_append_left hi]
   ·rcases List.mem_cons.1 hk with rfl|hk
    ·omega
    ·exact h5 k hk
theorem nodup_few {κ:Nat→Nat}{n:Nat}{st:List Nat}(h:(st.map κ).Nodup)(hn:∀a∈st,a<n):st.length≤n:=by
 have hnd:st.Nodup:=by
  rw[List.Nodup,List.pairwise_map] at h
  exact h.imp fun hne e=>hne (by rw[e])
 refine pigeon n st.length (fun i=>gt st i) (fun i hi=>?_) fun i j hi hj e=>?_
 ·have:gt st i=st[i]:=by unfold gt;rw[List.getD_eq_getElem?_getD,List.getElem?_eq_getElem hi];rfl
  simp only[this]
  exact hn _ (List.getElem_mem hi)
 ·have e1:gt st i=st[i]:=by unfold gt;rw[List.getD_eq_getElem?_getD,List.getElem?_eq_getElem hi];rfl
  have e2:gt st j=st[j]:=by unfold gt;rw[List.getD_eq_getElem?_getD,List.getElem?_eq_getElem hj];rfl
  simp only[e1,e2] at e
  exact (List.getElem_inj hnd).1 e
def rowF (A:Fa)(s:Nat):List Nat:=(List.range A.m).map (A.nx s)
def minP (A:Fa)(cl:Nat→Nat):List (Nat×List Nat):=bfsN cl (rowF A) (A.n+1) 0 [0]
def minR (A:Fa):List (Nat×List Nat):=bfsN id (fun c=>(rowF A c).map (clsR A)) (A.n+1) 0 [clsR A 0]
theorem min_eq {A:Fa}(hA:A.ok){cl:Nat→Nat}(hc:∀u v,u<A.n→v<A.n→(cl u=cl v↔clsR A u=clsR A v)) :
  minR A=(minP A cl).map (fun x=>(clsR A x.1,x.2))∧∀x∈minP A cl,x.1<A.n:=by
 have hr:∀s,s<A.n→(fun c=>(rowF A c).map (clsR A)) (clsR A s)=(rowF A s).map (clsR A)∧∀a∈rowF A s,a<A.n:=fun s hs=>by
  refine⟨?_,fun a ha=>?_⟩
  ·have hlt:clsR A s<A.n:=Nat.lt_of_le_of_lt ((clsR_can A).le s) hs
   have he:=(clsR_iff hA hlt hs).1 ((clsR_can A).fix s)
   simp only[rowF,List.map_map]
   refine List.map_congr_left fun x hx=>?_
   exact (he x (List.mem_range.1 hx)).2
  ·obtain⟨x,hx,rfl⟩:=List.mem_map.1 ha
   exact hA.lt s x hs (List.mem_range.1 hx)
 have:=bfsN_rel (κ:=cl) (ρ:=clsR A) (Q:=fun a=>a<A.n) hc (row:=rowF A) (row':=fun c=>(rowF A c).map (clsR A)) hr (A.n+1) 0 [0] fun a ha=>by rw[List.mem_singleton.1 ha];exact hA.pos
 exact this
theorem min_fr {A:Fa}(hA:A.ok){s:Nat}(hs:s<A.n){x:Nat}(hx:x<A.m):A.fr (clsR A s) x=A.fr s x :=
 (((clsR_iff hA (Nat.lt_of_le_of_lt ((clsR_can A).le s) hs) hs).1 ((clsR_can A).fix s)) x hx).1
section
variable {α:Type} [DecidableEq α]
def ordK (κ:Nat→α):Nat→List α
 |0=>[]
 |i+1=>if κ i∈ordK κ i then ordK κ i else ordK κ i++[κ i]
theorem ordK_mem (κ:Nat→α)(k:α):∀n,k∈ordK κ n↔∃i,i<n∧κ i=k
 |0=>by simp[ordK]
 |n+1=>by
  have ih:=ordK_mem κ k n
  have ihn:=ordK_mem κ (κ n) n
  rw[ordK]
  constructor
  ·intro h
   by_cases e:κ n∈ordK κ n
   ·rw[if_pos e] at h
    obtain⟨i,h1,h2⟩:=ih.1 h
    exact⟨i,by omega,h2⟩
   ·rw[if_neg e,List.mem_append,List.mem_singleton] at h
    rcases h with h|h
    ·obtain⟨i,h1,h2⟩:=ih.1 h
     exact⟨i,by omega,h2⟩
    ·exact⟨n,by omega,h.symm⟩
  ·rintro⟨i,h1,h2⟩
   by_cases hi:i=n
   ·subst hi
    by_cases e:κ i∈ordK κ i
    ·rw[if_pos e,←h2];exact e
    ·rw[if_neg e,h2];simp
   ·have:=ih.2 ⟨i,by omega,h2⟩
    by_cases e:κ n∈ordK κ n
    ·rw[if_pos e];exact this
    ·rw[if_neg e];exact List.mem_append_left _ this
theorem ordK_nd (κ:Nat→α):∀n,(ordK κ n).Nodup
 |0=>by simp[ordK]
 |n+1=>by
  have ih:=ordK_nd κ n
  rw[ordK]
  by_cases e:κ n∈ordK κ n
  ·rw[if_pos e];exact ih
  ·rw[if_neg e,List.nodup_append]
   refine⟨ih,by simp,fun a ha b hb=>?_⟩
   rw[List.mem_singleton.1 hb]
   rintro rfl
   exact e ha
theorem ordK_len (κ:Nat→α):∀n,(ordK κ n).length≤n
 |0=>Nat.le_refl _
 |n+1=>by
  have:=ordK_len κ n
  rw[ordK]
  split
  ·omega
  ·simp;omega
def grp (κ:Nat→α)(k:α)(n:Nat):List Nat:=(List.range n).filter fun i=>decide (κ i=k)
theorem grp_mem (κ:Nat→α)(k:α)(n u:Nat):u∈grp κ k n↔u<n∧κ u=k:=by simp[grp]
theorem grp_nd (κ:Nat→α)(k:α)(n:Nat):(grp κ k n).Nodup:=List.Pairwise.filter _ List.nodup_range
theorem grp_succ (κ:Nat→α)(k:α)(n:Nat):grp κ k (n+1)=if κ n=k then grp κ k n++[n] else grp κ k n:=by
 unfold grp
 rw[List.range_succ,List.filter_append]
 by_cases e:κ n=k <;> simp[e]
def addSt (c:Nat):List Nat→Pt→Pt
 |[],p=>p
 |u::l,p=>addSt c l { p with place:=p.place.set u p.list.length,set:=p.set.set u c,list:=p.list++[u] }
structure AddSt (n c:Nat)(l:List Nat)(p q:Pt):Prop where
 list:q.list=p.list++l
 bg:q.bg=p.bg
 en:q.en=p.en
 mr:q.mr=p.mr
 lp:q.place.length=n
 ls:q.set.length=n
 out:∀v,v∉l→gt q.place v=gt p.place v∧gt q.set v=gt p.set v
 inn:∀j (h:j<l.length),gt q.place l[j]=p.list.length+j∧gt q.set l[j]=c
theorem addSt_spec (n c:Nat):∀(l:List Nat) (p:Pt),l.Nodup→(∀u∈l,u<n)→p.place.length=n→p.set.length=n→AddSt n c l p (addSt c l p)
 |[],p,_,_,h1,h2=>⟨by simp[addSt],rfl,rfl,rfl,h1,h2,fun _ _=>⟨rfl,rfl⟩,fun j h=>by simp at h⟩
 |u::l,p,hn,hu,h1,h2=>by
  rw[List.nodup_cons] at hn
  have hun:=hu u (List.mem_cons_self ..)
  have ih:=addSt_spec n c l { p with place:=p.place.set u p.list.length,set:=p.set.set u c,list:=p.list++[u] } hn.2 (fun x hx=>hu x (List.mem_cons_of_mem _ hx)) (by simp[h1]) (by simp[h2])
  rw[addSt]
  generalize addSt c l { p with place:=p.place.set u p.list.length,set:=p.set.set u c,list:=p.list++[u] }=q at *
  refine⟨by rw[ih.list];simp,ih.bg,ih.en,ih.mr,ih.lp,ih.ls,fun v hv=>?_,fun j hj=>?_⟩
  ·rw[List.mem_cons,not_or] at hv
   obtain⟨a,b⟩:=ih.out v hv.2
   rw[a,b]
   simp only[gt_set]
   rw[if_neg (by omega),if_neg (by omega)]
   exact⟨rfl,rfl⟩
  ·cases j with
   |zero =>
    obtain⟨a,b⟩:=ih.out u hn.1
    rw[List.getElem_cons_zero,a,b]
    rw[gt_set,gt_set,if_pos ⟨rfl,by omega⟩,if_pos ⟨rfl,by omega⟩]
    exact⟨rfl,rfl⟩
   |succ j =>
    obtain⟨a,b⟩:=ih.inn j (by simpa using hj)
    rw[List.getElem_cons_succ,a,b]
    refine⟨?_,rfl⟩
    simp only[List.length_append,List.length_singleton]
    omega
def fillP (κ:Nat→α)(n:Nat):List α→Pt→Pt
 |[],p=>p
 |k::ks,p=>fillP κ n ks { addSt p.bg.length (grp κ k n) p with bg:=p.bg++[p.list.length],mr:=p.mr++[0],en:=p.en++[(addSt p.bg.length (grp κ k n) p).list.length] }
def rowsP (κ:Nat→α)(n:Nat):Pt:=fillP κ n (ordK κ n) ⟨[],List.replicate n 0,List.replicate n 0,[],[],[]⟩
structure Fil (κ:Nat→α)(n:Nat)(done:List α)(p:Pt):Prop where
 lp:p.place.length=n
 ls:p.set.length=n
 lb:p.bg.length=done.length
 le:p.en.length=done.length
 lm:p.mr.length=done.length
 li:∀i,i<p.list.length→gt p.list i<n∧gt p.place (gt p.list i)=i∧κ (gt p.list i)∈done
 st:∀u,u<n→κ u∈done→gt p.place u<p.list.length∧gt p.list (gt p.place u)=u∧gt p.set u<done.length∧gt p.bg (gt p.set u)≤gt p.place u∧gt p.place u<gt p.en (gt p.set u)∧done[gt p.set u]? = some (κ u)
 sp:∀k,k<done.length→gt p.bg k<gt p.en k∧gt p.en k≤p.list.length∧∀i,gt p.bg k≤i→i<gt p.en k→gt p.set (gt p.list i)=k
 mr:∀k,k<done.length→gt p.mr k=0
theorem gt_left {a b:List Nat}{i:Nat}(h:i<a.length):gt (a++b) i=gt a i:=by
 unfold gt;rw[List.getD_eq_getElem?_getD,List.getD_eq_getElem?_getD,List.getElem?_append_left h]
theorem gt_right {a b:List Nat}{i:Nat}(h:a.length≤i):gt (a++b) i=gt b (i-a.length):=by
 unfold gt;rw[List.getD_eq_getElem?_getD,List.getD_eq_getElem?_getD,List.getElem?_append_right h]
theorem gt_get {l:List Nat}{i:Nat}(h:i<l.length):gt l i=l[i]:=by
 unfold gt;rw[List.getD_eq_getElem?_getD,List.getElem?_eq_getElem h];rfl
theorem fil_step {κ:Nat→α}{n:Nat}{done:List α}{p:Pt}(h:Fil κ n done p){k:α}(hk:k∉done)(hex:∃i,i<n∧κ i=k) :
  Fil κ n (done++[k]) { addSt p.bg.length (grp κ k n) p with bg:=p.bg++[p.list.length],mr:=p.mr++[0],en:=p.en++[(addSt p.bg.length (grp κ k n) p).list.length] }:=by
 have ha:=addSt_spec n p.bg.length (grp κ k n) p (grp_nd κ k n) (fun u hu=>((grp_mem κ k n u).1 hu).1) h.lp h.ls
 generalize addSt p.bg.length (grp κ k n) p=q at *
 have hne:0<(grp κ k n).length:=by
  obtain⟨i,h1,h2⟩:=hex
  exact List.length_pos_of_mem ((grp_mem κ k n i).2 ⟨h1,h2⟩)
 have hgm:=grp_mem κ k n
 have hgd:=grp_nd κ k n
 generalize grp κ k n=G at *
 have hql:q.list.length=p.list.length+G.length:=by rw[ha.list];simp
 have hdl:(done++[k]).length=done.length+1:=by simp
 have hB:∀i,gt (p.bg++[p.list.length]) i=if i=done.length then p.list.length else gt p.bg i:=fun i=>by rw[gt_app,h.lb]
 have hE:∀i,gt (p.en++[q.list.length]) i=if i=done.length then q.list.length else gt p.en i:=fun i=>by rw[gt_app,h.le]
 have hM:∀i,gt (p.mr++[0]) i=if i=done.length then 0 else gt p.mr i:=fun i=>by rw[gt_app,h.lm]
 have hold:∀i,i<p.list.length→gt q.list i=gt p.list i:=fun i hi=>by rw[ha.list,gt_left hi]
 have hnew:∀j (hj:j<G.length),gt q.list (p.list.length+j)=G[j]:=fun j hj=>by rw[ha.list,gt_right (by omega),Nat.add_sub_cancel_left,gt_get hj]
 have hout:∀i,i<p.list.length→gt p.list i∉G:=fun i hi hm=>by
  have:=(h.li i hi).2.2
  rw[((hgm _).1 hm).2] at this
  exact hk this
 refine⟨ha.lp,ha.ls,by simp[h.lb],by simp[h.le],by simp[h.lm],fun i hi=>?_,fun u hu hd=>?_,fun j hj=>?_,fun j hj=>?_⟩
 ·have hi:i<q.list.length:=hi
  by_cases hlt:i<p.list.length
  ·obtain⟨a,b,c⟩:=h.li i hlt
   obtain⟨o1,_⟩:=ha.out _ (hout i hlt)
   simp only[hold i hlt]
   exact⟨a,o1.trans b,List.mem_append_left _ c⟩
  ·obtain⟨j,rfl⟩:∃j,i=p.list.length+j:=⟨i-p.list.length,by omega⟩
   have hj:j<G.length:=by omega
   simp only[hnew j hj]
   obtain⟨g1,g2⟩:=(hgm _).1 (List.getElem_mem hj)
   exact⟨g1,(ha.inn j hj).1,by rw[g2];simp⟩
 ·show gt q.place u<q.list.length∧gt q.list (gt q.place u)=u∧gt q.set u<(done++[k]).length∧gt (p.bg++[p.list.length]) (gt q.set u)≤gt q.place u∧gt q.place u<gt (p.en++[q.list.length]) (gt q.set u)∧(done++[k])[gt q.set u]? = some (κ u)
  by_cases hg:u∈G
  ·obtain⟨j,hj,rfl⟩:=List.mem_iff_getElem.1 hg
   obtain⟨i1,i2⟩:=ha.inn j hj
   have hs:gt q.set G[j]=done.length:=by rw[i2,h.lb]
   rw[i1,hs,hnew j hj,hB,hE,if_pos rfl,if_pos rfl,hdl,((hgm _).1 hg).2]
   exact⟨by omega,rfl,by omega,by omega,by omega,by simp⟩
  ·have hd':κ u∈done:=by
    rcases List.mem_append.1 hd with h1|h1
    ·exact h1
    ·exact absurd ((hgm u).2 ⟨hu,List.mem_singleton.1 h1⟩) hg
   obtain⟨a,b,c,d,e,f⟩:=h.st u hu hd'
   obtain⟨o1,o2⟩:=ha.out u hg
   rw[o1,o2,hold _ a,hB,hE,if_neg (by omega),if_neg (by omega),hdl,List.getElem?_append_left c]
   exact⟨by omega,b,by omega,d,e,f⟩
 ·show gt (p.bg++[p.list.length]) j<gt (p.en++[q.list.length]) j∧gt (p.en++[q.list.length]) j≤q.list.length∧∀i,gt (p.bg++[p.list.length]) j≤i→i<gt (p.en++[q.list.length]) j→gt q.set (gt q.list i)=j
  rw[hB,hE]
  by_cases e:j=done.length
  ·rw[if_pos e,if_pos e]
   refine⟨by omega,Nat.le_refl _,fun i h1 h2=>?_⟩
   obtain⟨r,rfl⟩:∃r,i=p.list.length+r:=⟨i-p.list.length,by omega⟩
   have hr:r<G.length:=by omega
   rw[hnew r hr,(ha.inn r hr).2,h.lb,e]
  ·have hj':j<done.length:=by have:j<(done++[k]).length:=hj;omega
   rw[if_neg e,if_neg e]
   obtain⟨a,b,c⟩:=h.sp j hj'
   refine⟨a,by omega,fun i h1 h2=>?_⟩
   rw[hold i (by omega),(ha.out _ (hout i (by omega))).2]
   exact c i h1 h2
 ·show gt (p.mr++[0]) j=0
  rw[hM]
  by_cases e:j=done.length
  ·rw[if_pos e]
  ·rw[if_neg e]
   exact h.mr j (by have:j<(done++[k]).length:=hj;omega)
theorem fil_all {κ:Nat→α}{n:Nat}:∀(ks:List α) {done:List α} {p:Pt},Fil κ n done p→(done++ks).Nodup→(∀k∈ks,∃i,i<n∧κ i=k)→Fil κ n (done++ks) (fillP κ n ks p)
 |[],done,p,h,_,_=>by rw[List.append_nil];exact h
 |k::ks,done,p,h,hn,he=>by
  have hk:k∉done:=fun hm=>by
   rw[List.nodup_append] at hn
   exact hn.2.2 k hm k (List.mem_cons_self ..) rfl
  have h1:=fil_step h hk (he k (List.mem_cons_self ..))
  have e:done++k::ks=(done++[k])++ks:=by simp
  rw[e] at hn ⊢
  exact fil_all ks h1 hn fun x hx=>he x (List.mem_cons_of_mem _ hx)
theorem rows_fil (κ:Nat→α)(n:Nat):Fil κ n (ordK κ n) (rowsP κ n):=by
 have h0:Fil κ n [] ⟨[],List.replicate n 0,List.replicate n 0,[],[],[]⟩:=⟨by simp,by simp,rfl,rfl,rfl,fun i hi=>by simp at hi,fun u _ h=>by simp at h,fun k hk=>by simp at hk,fun k hk=>by simp at hk⟩
 have:=fil_all (ordK κ n) h0 (by simpa using ordK_nd κ n) fun k hk=>(ordK_mem κ k n).1 hk
 rw[List.nil_append] at this
 exact this
theorem rows_hop {A:Fa}{κ:Nat→α}(hk:∀u v,u<A.n→v<A.n→(κ u=κ v↔∀x,x<A.m→A.fr u x=A.fr v x)):Hop A (rowsP κ A.n) (List.range (rowsP κ A.n).bg.length):=by
 have h:=rows_fil κ A.n
 generalize rowsP κ A.n=p at *
 have hd:∀u,u<A.n→κ u∈ordK κ A.n:=fun u hu=>(ordK_mem κ _ _).2 ⟨u,hu,rfl⟩
 have hll:p.list.length=A.n:=by
  refine Nat.le_antisymm (pigeon A.n p.list.length (gt p.list) (fun i hi=>(h.li i hi).1) fun i j hi hj e=>?_) (pigeon p.list.length A.n (gt p.place) (fun u hu=>(h.st u hu (hd u hu)).1) fun u v hu hv e=>?_)
  ·have a:=(h.li i hi).2.1
   have b:=(h.li j hj).2.1
   rw[e] at a;exact a.symm.trans b
  ·have a:=(h.st u hu (hd u hu)).2.1
   have b:=(h.st v hv (hd v hv)).2.1
   rw[e] at a;exact a.symm.trans b
 have hset:∀u v,u<A.n→v<A.n→(gt p.set u=gt p.set v↔κ u=κ v):=fun u v hu hv=>by
  obtain⟨_,_,a,_,_,b⟩:=h.st u hu (hd u hu)
  obtain⟨_,_,c,_,_,d⟩:=h.st v hv (hd v hv)
  constructor
  ·intro e;rw[e,d] at b;exact (Option.some.inj b).symm
  ·intro e
   rw[List.getElem?_eq_getElem a] at b
   rw[List.getElem?_eq_getElem c] at d
   have:=(Option.some.inj b).trans (e.trans (Option.some.inj d).symm)
   exact (List.getElem_inj (ordK_nd κ A.n)).1 this
 refine⟨⟨hll,h.lp,h.ls,by rw[h.le,h.lb],by rw[h.lm,h.lb],fun u hu=>?_,fun i hi=>?_,fun u hu=>?_,fun k hk'=>?_,fun k hk'=>?_⟩,fun k hk'=>h.mr k (by rw[h.lb] at hk';exact hk'),fun k hk'=>List.mem_range.1 hk',fun u v hu hv e=>(hk u v hu hv).1 ((hset u v hu hv).1 e),fun B hB u v huv=>?_,fun _=>0,fun _ _ _ _ _=>rfl,fun _ _ _ _ _ _ _=>rfl,fun u v hu hv _=>?_⟩
 ·obtain⟨a,b,_⟩:=h.st u hu (hd u hu)
  exact⟨by omega,b⟩
 ·obtain⟨a,b,_⟩:=h.li i (by omega)
  exact⟨a,b⟩
 ·obtain⟨_,_,a,b,c,_⟩:=h.st u hu (hd u hu)
  exact⟨by rw[h.lb];exact a,b,c⟩
 ·obtain⟨a,b,c⟩:=h.sp k (by rw[h.lb] at hk';exact hk')
  exact⟨a,by omega,c⟩
 ·have a:=h.mr k (by rw[h.lb] at hk';exact hk')
  have b:=h.sp k (by rw[h.lb] at hk';exact hk')
  omega
 ·obtain⟨hu,hv⟩:=hB.lt u v huv
  exact (hset u v hu hv).2 ((hk u v hu hv).2 (hB.fr u v huv))
 ·obtain⟨_,_,a,_⟩:=h.st u hu (hd u hu)
  exact .inl (List.mem_range.2 (by rw[h.lb];exact a))
end
def clsP {α:Type} [DecidableEq α] (A:Fa)(κ:Nat→α)(bef:Nat→Nat→List Nat):Nat→Nat :=
 gt (hopP bef A.m (2*(A.n-(rowsP κ A.n).bg.length)+(rowsP κ A.n).bg.length) (rowsP κ A.n) (List.range (rowsP κ A.n).bg.length)).set
def befA (A:Fa)(x c:Nat):List Nat:=(List.range A.n).filter fun u=>A.nx u x==c
theorem befA_mem (A:Fa)(x c u:Nat):u∈befA A x c↔u<A.n∧A.nx u x=c:=by simp[befA]
theorem cls_eq {α:Type} [DecidableEq α] {A:Fa}(hA:A.ok){κ:Nat→α}(hk:∀u v,u<A.n→v<A.n→(κ u=κ v↔∀x,x<A.m→A.fr u x=A.fr v x)){u v:Nat}(hu:u<A.n)(hv:v<A.n) :
  clsP A κ (befA A) u=clsP A κ (befA A) v↔clsR A u=clsR A v:=by
 have h0:=rows_hop hk
 have h1:=hop_end hA (fun y _ c _ u=>befA_mem A y c u) _ h0 (Nat.le_refl _)
 rw[List.length_range] at h1
 exact hop_cls hA h1 hu hv
end Go.Am
namespace Go.Am
open Go
variable [MaxLen]
set_option maxRecDepth 100000
set_option maxHeartbeats 4000000
structure Auto.ok (a:Auto):Prop where
 lines:1≤a.lines∧a.lines≤4
 pos:0<a.next.length
 few:a.next.length≤256
 fl:a.fires.length=a.next.length
 row:∀i (h:i<a.next.length),a.next[i].2.length=2^a.lines.toNat∧∀x∈a.next[i].2,0≤x∧x<(a.next.length:Int)
 frow:∀i (h:i<a.fires.length),a.fires[i].2.length=2^a.lines.toNat
theorem mOf_nat (n:Int):mOf n=((2^n.toNat:Nat):Int):=by unfold mOf;simp
theorem ckRows_zero {m:Nat}{n:Int}:∀{l:List (Bool×List Int)} {f:List (Bool×List Bool)},l.length=f.length→ckRows m n l f=0 →
  (∀i (h:i<l.length),l[i].2.length=m∧∀x∈l[i].2,0≤x∧x<n)∧∀i (h:i<f.length),f[i].2.length=m
 |[],f,hl,_=>by
  have:f=[]:=List.length_eq_zero_iff.1 hl.symm
  subst this
  exact⟨fun i h=>by simp at h,fun i h=>by simp at h⟩
 |r::l,[],hl,_=>by simp at hl
 |r::l,g::f,hl,h=>by
  rw[ckRows] at h
  obtain⟨h1,h⟩:=br_zeroH h (by decide)
  obtain⟨h2,h⟩:=br_zeroH h (by decide)
  obtain⟨i1,i2⟩:=ckRows_zero (by simpa using hl) h
  rw[Bool.or_eq_false_iff] at h1
  have e1:r.2.length=m:=by have:=h1.1;simp at this;omega
  have e2:g.2.length=m:=by have:=h1.2;simp at this;omega
  have e3:∀x∈r.2,0≤x∧x<n:=fun x hx=>by
   have:=outside_ok (by simpa using List.any_eq_false.1 h2 x hx:outside x 0 (n-1)=false)
   omega
  refine⟨fun i hi=>?_,fun i hi=>?_⟩
  ·cases i with
   |zero=>exact⟨e1,e3⟩
   |succ i=>simpa using i1 i (by simpa using hi)
  ·cases i with
   |zero=>exact e2
   |succ i=>simpa using i2 i (by simpa using hi)
theorem Auto.ok_of {a:Auto}(h:ckA a=0):a.ok:=by
 rw[ckA] at h
 obtain⟨h1,h⟩:=br_zeroH h (by decide)
 obtain⟨h2,h⟩:=br_zeroH h (by decide)
 obtain⟨h3,h⟩:=br_zeroH h (by decide)
 obtain⟨h4,h⟩:=br_zeroH h (by decide)
 have hl:1≤a.lines∧a.lines≤4:=by
  simp only[outside,Bool.or_eq_false_iff,decide_eq_false_iff_not] at h1;omega
 have hf:a.fires.length=a.next.length:=by simp at h4;omega
 rw[mOf_nat] at h
 obtain⟨r1,r2⟩:=ckRows_zero hf.symm h
 exact⟨hl,Nat.pos_of_ne_zero fun e=>by rw[e] at h2;exact absurd h2 (by decide),by simp at h3;omega,hf,r1,r2⟩
def Auto.fa (a:Auto):Fa where
 n:=a.next.length
 m:=2^a.lines.toNat
 nx s x:=((a.next.getD s (true,[])).2.getD x 0).toNat
 fr s x:=(a.fires.getD s (true,[])).2.getD x false
theorem getD_at {A:Type}{l:List A}{i:Nat}{d:A}(h:i<l.length):l.getD i d=l[i]:=by
 rw[List.getD_eq_getElem?_getD,List.getElem?_eq_getElem h];rfl
theorem Auto.ok.faok {a:Auto}(h:a.ok):a.fa.ok:=by
 refine⟨h.pos,fun s x hs hx=>?_⟩
 have hs:s<a.next.length:=hs
 have hx:x<2^a.lines.toNat:=hx
 obtain⟨r1,r2⟩:=h.row s hs
 show ((a.next.getD s (true,[])).2.getD x 0).toNat<a.next.length
 rw[getD_at hs,getD_at (show x<a.next[s].2.length by omega)]
 have:=r2 _ (List.getElem_mem (show x<a.next[s].2.length by omega))
 omega
theorem Auto.ok.nxAt {a:Auto}(h:a.ok){s x:Nat}(hs:s<a.next.length)(hx:x<2^a.lines.toNat):ixRA 1 (encS a.next[s].1 (ints a.next[s].2)) (.int .i64 (x:Int))=some (.fp [.int .i64 ((a.fa.nx s x:Nat):Int)] 0):=by
 obtain⟨r1,r2⟩:=h.row s hs
 have hx':x<a.next[s].2.length:=by omega
 rw[ixa_intV hx']
 have e:a.fa.nx s x=(a.next[s].2[x]).toNat:=by
  show ((a.next.getD s (true,[])).2.getD x 0).toNat=_
  rw[getD_at hs,getD_at hx']
 have:=r2 _ (List.getElem_mem hx')
 rw[e,Int.toNat_of_nonneg this.1]
theorem Auto.ok.frAt {a:Auto}(h:a.ok){s x:Nat}(hs:s<a.next.length)(hx:x<2^a.lines.toNat):ixRA 1 (encS (a.fires[s]'(by rw[h.fl];exact hs)).1 (bools (a.fires[s]'(by rw[h.fl];exact hs)).2)) (.int .i64 (x:Int))=some (.fp [.bool (a.fa.fr s x)] 0):=by
 have hs':s<a.fires.length:=by rw[h.fl];exact hs
 have r1:=h.frow s hs'
 have hx':x<a.fires[s].2.length:=by omega
 rw[ixa_boolV hx']
 have e:a.fa.fr s x=a.fires[s].2[x]:=by
  show (a.fires.getD s (true,[])).2.getD x false=_
  rw[getD_at hs',getD_at hx']
 rw[e]
def sigOk (m:Nat)(l:List Int):Prop:=l.length≤4096∧∀x∈l,0≤x∧x<(m:Int)
theorem sigOk_of {lines:Int}{l:List Int}(h1:lines≤16)(h:ckSig lines l=0):sigOk (2^lines.toNat) l:=by
 unfold ckSig at h
 obtain⟨q1,h⟩:=br_zeroH h (by decide)
 have q2:anyOut lines l=false:=by
  cases hb:anyOut lines l with
  |false=>rfl
  |true=>rw[hb] at h;exact absurd h (by decide)
 refine⟨by simp at q1;omega,fun x hx=>?_⟩
 have:=outside_ok (by simpa using List.any_eq_false.1 q2 x hx:outside x 0 (2^lines.toNat-1)=false)
 have e:=mOf_nat lines
 unfold mOf at e
 omega
def symN (l:List Int)(t:Nat):Nat:=(l.getD t 0).toNat
theorem symN_at {m:Nat}{l:List Int}(h:sigOk m l){nl:Bool}{t:Nat}(ht:t<l.length):ixRA 1 (encS nl (ints l)) (.int .i64 (t:Int))=some (.fp [.int .i64 ((symN l t:Nat):Int)] 0)∧symN l t<m:=by
 rw[ixa_intV ht]
 have e:symN l t=(l[t]).toNat:=by unfold symN;rw[List.getD_eq_getElem?_getD,List.getElem?_eq_getElem ht];rfl
 have:=h.2 _ (List.getElem_mem ht)
 rw[e,Int.toNat_of_nonneg this.1]
 exact⟨rfl,by omega⟩
def runF (A:Fa)(l:List Int):Nat→Nat→Nat→List Int×Nat
 |0,_,s=>([],s)
 |r+1,t,s=>(bif A.fr s (symN l t) then (t:Int)::(runF A l r (t+1) (A.nx s (symN l t))).1 else (runF A l r (t+1) (A.nx s (symN l t))).1,(runF A l r (t+1) (A.nx s (symN l t))).2)
theorem c123 (a:Auto)(hn:a.next.length≤2^40)(hr:∀r∈a.next,r.2.length≤2^40)(nl:Bool)(l:List Int):calV U 123 [encA a,encS nl (ints l)]=some (.int .i64 (br (ckA a != 0) (ckA a) (ckSig a.lines l))):=by
 refine pure_go k123 (by kernel_rfl) (by simp[stills,still_encA,still_encS]) ?_
 have h58:=c58 a hn hr
 rw[encA_eq] at h58 ⊢
 unfold encN encFs at h58 ⊢
 have nn:=noAgg_encS a.nNl (a.next.map encRow)
 have nf:=noAgg_encS a.fNl (a.fires.map encFRow)
 have cn:=cells_encS a.nNl (a.next.map encRow)
 have cf:=cells_encS a.fNl (a.fires.map encFRow)
 cases h:ckA a != 0 with
 |true=>simp (maxSteps:=2000000) +contextual only[go_sem,↓reduceIte,r123,nn,nf,cn,cf,h58,h]
 |false =>
  have ok:=Auto.ok_of (by simpa using h:ckA a=0)
  have h91:=c91 nl l a.lines (by have:=ok.lines;omega) (by have:=ok.lines;omega)
  have h0:ckA a=0:=by simpa using h
  rw[h0] at h58
  simp (maxSteps:=2000000) +contextual only[go_sem,↓reduceIte,r123,nn,nf,cn,cf,h58,h91]
theorem Auto.ok.m16 {a:Auto}(ha:a.ok):2^a.lines.toNat≤65536:=by have:=pow_le16 a.lines (by have:=ha.lines;omega);have:=mOf_nat a.lines;unfold mOf at this;omega
def chkRun (a:Auto)(l:List Int):Int:=br (ckA a != 0) (ckA a) (ckSig a.lines l)
theorem chkRun_ok {a:Auto}{l:List Int}(h:chkRun a l=0):a.ok∧sigOk (2^a.lines.toNat) l:=by
 unfold chkRun at h
 cases h1:ckA a != 0 with
 |true=>rw[h1,br_true] at h;rw[h] at h1;cases h1
 |false =>
  rw[h1,br_false] at h
  have ok:=Auto.ok_of (by simpa using h1:ckA a=0)
  exact⟨ok,sigOk_of (by have:=ok.lines;omega) h⟩
def runP2 (a:Auto)(l:List Int):AV :=
 bif chkRun a l != 0 then .tup [.nils,.int .i64 (chkRun a l)] else .tup [encS true (ints (runF a.fa l l.length 0 0).1),.int .i64 0]
theorem c57 (a:Auto)(hn:a.next.length≤2^40)(hr:∀r∈a.next,r.2.length≤2^40)(nl:Bool)(l:List Int):calV U 57 [encA a,encS nl (ints l)]=some (runP2 a l):=by
 refine pure_go k57 (by kernel_rfl) (by simp[stills,still_encA,still_encS]) ?_
 have h123:=c123 a hn hr nl l
 rw[show br (ckA a != 0) (ckA a) (ckSig a.lines l)=chkRun a l from rfl] at h123
 rw[encA_eq] at h123 ⊢
 have nn:=noAgg_encS a.nNl (a.next.map encRow)
 have nf:=noAgg_encS a.fNl (a.fires.map encFRow)
 have cn:=cells_encS a.nNl (a.next.map encRow)
 have cf:=cells_encS a.fNl (a.fires.map encFRow)
 unfold encN encFs at h123 ⊢
 unfold runP2
 cases hc:chkRun a l != 0 with
 |true=>simp (maxSteps:=2000000) +contextual only[go_sem,↓reduceIte,r57,nn,nf,cn,cf,h123,hc]
 |false =>
 have hc0:chkRun a l=0:=by simpa using hc
 obtain⟨ha,hl⟩:=chkRun_ok hc0
 have hlen:=hl.1
 rw[hc0] at h123
 simp (maxSteps:=2000000) +contextual only[go_sem,↓reduceIte,r57,nn,nf,cn,cf,h123,lenL_encS,ints_len,cond_false]
 refine loop_to (σ:=Nat) (fun i=>l.length-i) (fun i=>some (.tup [encS true (ints (runF a.fa l l.length 0 0).1),.int .i64 0])) (fun i e s=>i≤l.length∧Env.get e 2=.ptr 8 0∧Env.get e 17=encS nl (ints l)∧Env.get e 18=.int .i64 l.length∧Env.get e 19=.int .i64 (i:Nat)∧8<s.next∧Fr s ∧
  s.get 8=some (.cells [.int .i64 a.lines,encS a.nNl (a.next.map encRow),encS a.fNl (a.fires.map encFRow)] 69 false 0 0) ∧
  ∃(st:Nat) (acc:List Int) (v:AV),Env.get e 8=v∧Env.get e 7=.int .i64 (st:Nat)∧st<a.next.length∧acc.length≤i∧RowI s 9 3 1 acc.length (ints acc) v ∧
   (acc++(runF a.fa l (l.length-i) i st).1,(runF a.fa l (l.length-i) i st).2)=runF a.fa l l.length 0 0) 0 ?_ rfl ?_
 ·rintro L i e s ⟨hi,g2,g17,g18,g19,nx,fr,gs,st,acc,v,g8,g7,hst,hacc,hv,hrun⟩ IH
  have hla:=hv.lenA
  have hna:=hv.noAgg
  by_cases hd:i<l.length
  ·have hw:=wrap_succ hd (by omega)
   obtain⟨hx,hxm⟩:=symN_at hl (nl:=nl) hd
   have r1:=ixa_rowI (nl:=a.nNl) hst
   have r2:=ixa_rowB (nl:=a.fNl) (show st<a.fires.length by rw[ha.fl];exact hst)
   have r3:=ha.nxAt hst hxm
   have r4:=ha.frAt hst hxm
   have hlt:=ha.faok.lt st (symN l i) hst hxm
   have hb1:(acc.length+1)*8≤1099511627776:=by omega
   have hb2:acc.length+1≤1099511627776:=by omega
   rw[show l.length-i=(l.length-(i+1))+1 by omega,runF] at hrun
   cases hf:a.fa.fr st (symN l i) with
   |false =>
    rw[hf] at hrun r4
    simp only[cond_false] at hrun
    simp (maxSteps:=2000000) +contextual only[go_sem,↓reduceIte,r57_l0,g2,g7,g8,g17,g18,g19,gs,nat_lt_dec,hd,hx,r1,r2,r3,r4,hw]
    refine IH (i+1) _ _ (by omega) ⟨by omega,?_,?_,?_,?_,nx,fr,gs,a.fa.nx st (symN l i),acc,v,?_,?_,hlt,by omega,hv,hrun⟩
    all_goals simp +contextual only[go_sem,↓reduceIte,g2,g8,g17,g18,hw]
   |true =>
    rw[hf] at hrun r4
    simp only[cond_true] at hrun
    simp (maxSteps:=2000000) +contextual only[go_sem,↓reduceIte,r57_l0,g2,g7,g8,g17,g18,g19,gs,nat_lt_dec,hd,hx,r1,r2,r3,r4,hw,appK_some,Nat.reducePow,Nat.one_mul,hla,hna,hb1,hb2]
    have hv1:RowI (s.new (.cells [.int .i64 (i:Int)] 3 false 0 0)) 9 3 1 acc.length (ints acc) v:=hv.mono (by rw[next_new];omega) fun j _ hj=>by rw[get_new,if_neg (by omega)]
    have hL1:acc.length+1=(acc++[(i:Int)]).length:=by simp
    have hI1:ints acc++[.int .i64 (i:Int)]=ints (acc++[(i:Int)]):=by rw[ints,ints,List.map_append];rfl
    obtain⟨s1,f1,f2,f3,f4,f5⟩:=hv1.app2 (by rw[next_new];omega) (m:=1) (new:=[.int .i64 (i:Int)]) (by omega) (by rfl) (by rfl)
    have gs1:s1.get 8=some (.cells [.int .i64 a.lines,encS a.nNl (a.next.map encRow),encS a.fNl (a.fires.map encFRow)] 69 false 0 0):=by
     rw[f4 8 (by rw[next_new];omega) (hv1.far (.inr (by omega))),get_new,if_neg (by omega),gs]
    have fr1:=f5 (fr.new _)
    rw[next_new] at f2
    rw[f1]
    rw[hI1,hL1] at f3
    simp (maxSteps:=2000000) +contextual only[go_sem,↓reduceIte,g2,g7,g19,gs1,hx,r1,r3,hw]
    rw[List.append_cons] at hrun
    refine IH (i+1) _ _ (by omega) ⟨by omega,?_,?_,?_,?_,by omega,fr1,gs1,a.fa.nx st (symN l i),acc++[(i:Int)],_,?_,?_,hlt,by rw[List.length_append];simp;omega,f3,hrun⟩
    all_goals simp +contextual only[go_sem,↓reduceIte,g2,g17,g18,hw,hL1]
  ·have:i=l.length:=by omega
   subst this
   rw[Nat.sub_self,runF,List.append_nil] at hrun
   rw[←hrun]
   have hfz:=hv.frz_ints 37
   simp +contextual only[go_sem,↓reduceIte,r57_l0,g7,g8,g18,g19,nat_lt_dec,Nat.lt_irrefl,hna,hfz]
 ·refine⟨Nat.zero_le _,?_,?_,?_,?_,?_,?_,?_,0,[],.nils,?_,?_,ha.pos,Nat.zero_le _,RowI.nil _ _ _ _,rfl⟩
  case refine_6 =>
   repeat first|exact Fr.own|apply Fr.new|apply Fr.put|apply Fr.upto
   all_goals simp +contextual only[go_sem,↓reduceIte]
  all_goals try simp +contextual only[go_sem,↓reduceIte]
  all_goals rfl
end Go.Am
namespace Go.Am
open Go
variable [MaxLen]
set_option maxRecDepth 100000
set_option maxHeartbeats 8000000
noncomputable def r61_l0:RC:=(.seq (.ops [o 10 (.bin .lss 3 false (.t 9) (.t 8))]) (.seq (.cond (.t 10) .skip (.exit 0)) (.seq (.block 1 (.seq (.ops [o 11 (.ixa 1 (.t 7) (.t 9)),o 12 (.ld1 (.t 11)),om 6 12]) (.seq (.ops [om 13 6,om 14 1,o 15 (.bin .eql 3 false (.t 13) (.t 14))]) (.cond (.t 15) (.seq (.ops [o 4 (.mov (.v (.bool true)))]) .ret) .skip)))) (.ops [o 16 (.bin .add 3 true (.t 9) (.v (.int .i64 1))),om 9 16]))))
noncomputable def r61:RC:=(.seq (.ops [o 4 (.mov (.v (.bool false)))]) (.seq (.seq (.ops [om 7 0,o 8 (.lenL (.t 7)),o 9 (.mov (.v (.int .i64 0)))]) (.block 0 (.loop r61_l0))) (.seq (.ops [o 4 (.mov (.v (.bool false)))]) .ret)))
theorem k61:fnRC 61=some ([.tmp 4],r61):=by kernel_rfl
noncomputable def q9_0:Code:=rawAt 9 0
theorem d9_0:rcDrc U q9_0=some (6,[(o 82 (.ldn 3 (.t 3)),none),
 (o 83 (.ldn 3 (.t 4)),some (0,1)),
 (⟨some 7,none,some 2,false,.al [(.int .i64 0),.nils,.nils] 69⟩,none),
 (⟨some 8,none,some 3,false,.al [(.int .i64 0),.nils,.nils] 69⟩,none),
 (⟨none,none,none,true,.st 3 (.t 7) (.t 82)⟩,none),
 (⟨none,none,none,true,.st 3 (.t 8) (.t 83)⟩,none)]):=by kernel_rfl
noncomputable def r9_l0:RC:=(.seq (.ops [o 170 (.bin .lss 3 false (.t 169) (.t 168))]) (.seq (.cond (.t 170) .skip (.exit 0)) (.seq (.block 1 (.seq (.ops [om 171 169,om 29 171]) (.seq (.ops [om 172 17,om 173 29,o 174 (.call 61 [(.t 172),(.t 173)]),om 175 19,om 176 29,o 177 (.call 61 [(.t 175),(.t 176)]),om 30 174,om 31 177]) (.seq (.seq (.ops [om 178 30,om 179 178,oF 180 179 (.mov (.t 31)),o 181 (.pick (.t 179) (.v (.bool true)) (.t 180))]) (.cond (.t 181) (.ops [om 182 28,om 183 29,o 184 (.bsl 3 1 1 [(.int .i64 0)] [(0,1,(.t 183))]),o 185 (.app 3 1 8 (.t 182) (.t 184)),om 28 185]) .skip)) (.seq (.ops [om 186 30,om 187 186,oT 188 187 (.mov (.t 31)),o 189 (.pick (.t 187) (.t 188) (.v (.bool false)))]) (.cond (.t 189) (.ops [om 190 27,om 191 29,o 192 (.bsl 3 1 1 [(.int .i64 0)] [(0,1,(.t 191))]),o 193 (.app 3 1 8 (.t 190) (.t 192)),om 27 193]) .skip)))))) (.ops [o 194 (.bin .add 3 true (.t 169) (.v (.int .i64 1))),om 169 194]))))
noncomputable def r9_l1:RC:=(.seq (.seq (.ops [om 229 34,om 230 17,o 231 (.lenL (.t 230)),o 232 (.bin .lss 3 false (.t 229) (.t 231))]) (.cond (.t 232) .skip (.exit 2))) (.seq (.block 3 (.seq (.drw 12 [om 235 17,om 236 34,o 237 (.ixa 1 (.t 235) (.t 236)),o 238 (.ld1 (.t 237)),om 239 17,om 240 34,o 241 (.bin .sub 3 true (.t 240) (.v (.int .i64 1))),o 242 (.ixa 1 (.t 239) (.t 241)),o 243 (.ld1 (.t 242)),o 244 (.bin .sub 3 false (.t 238) (.t 243)),om 245 32,o 246 (.bin .lss 3 false (.t 244) (.t 245))]) (.cond (.t 246) (.seq (.ops [o 6 (.mov (.v (.bool false)))]) .ret) .skip))) (.ops [om 233 34,o 234 (.bin .add 3 true (.t 233) (.v (.int .i64 1))),om 34 234])))
noncomputable def r9_d:RC:=(.seq (.ops [o 248 (.ldn 3 (.t 7)),o 249 (.call 47 [(.t 248)]),om 247 249,o 250 (.ext (.t 247) 0),o 251 (.ext (.t 247) 1),om 35 250,om 36 251]) (.seq (.seq (.ops [om 252 36,o 253 (.bin .neq 26 true (.t 252) (.v (.int .i64 0)))]) (.cond (.t 253) (.seq (.ops [om 254 36,o 255 (.bin .eql 26 true (.t 254) (.v (.int .i64 7))),om 256 255,oT 257 256 (.mov (.t 17)),oT 258 256 (.lenL (.t 257)),oT 259 256 (.bin .eql 3 true (.t 258) (.v (.int .i64 0))),o 260 (.pick (.t 256) (.t 259) (.v (.bool false))),om 6 260]) .ret) .skip)) (.seq (.seq (.ops [om 261 35,o 262 (.lenL (.t 261)),o 263 (.bin .eql 3 true (.t 262) (.v (.int .i64 0))),om 264 263,oF 265 264 (.mov (.t 35)),oF 266 264 (.lenL (.t 265)),oF 267 264 (.fa 1 (.t 3)),oF 268 264 (.ld1 (.t 267)),oF 269 264 (.lenL (.t 268)),oF 270 264 (.bin .gtr 3 false (.t 266) (.t 269)),o 271 (.pick (.t 264) (.v (.bool true)) (.t 270)),om 272 271,oF 273 272 (.fa 0 (.t 3)),oF 274 272 (.ld1 (.t 273)),oF 275 272 (.mov (.t 35)),oF 276 272 (.call 28 [(.t 274),(.t 275)]),oF 277 272 (.bin .neq 3 true (.t 276) (.v (.int .i64 0))),o 278 (.pick (.t 272) (.v (.bool true)) (.t 277)),om 279 278,oF 280 279 (.mov (.t 17)),oF 281 279 (.lenL (.t 280)),oF 282 279 (.bin .gtr 3 true (.t 281) (.v (.int .i64 0))),oF 283 279 (.mov (.t 282)),oT 284 283 (.mov (.t 17)),oT 285 283 (.ixa 1 (.t 284) (.v (.int .i64 0))),oT 286 283 (.ld1 (.t 285)),oT 287 283 (.mov (.t 35)),oT 288 283 (.lenL (.t 287)),oT 289 283 (.bin .sub 3 true (.t 288) (.v (.int .i64 1))),oT 290 283 (.bin .lss 3 false (.t 286) (.t 289)),oF 291 279 (.pick (.t 283) (.t 290) (.v (.bool false))),o 292 (.pick (.t 279) (.v (.bool true)) (.t 291))]) (.cond (.t 292) (.seq (.ops [o 6 (.mov (.v (.bool false)))]) .ret) .skip)) (.seq (.ops [o 294 (.ldn 3 (.t 7)),om 295 35,o 296 (.call 57 [(.t 294),(.t 295)]),om 293 296,o 297 (.ext (.t 293) 0),o 298 (.ext (.t 293) 1),om 37 297,om 38 298]) (.seq (.ops [om 299 38,o 300 (.bin .eql 26 true (.t 299) (.v (.int .i64 0))),om 301 300,oT 302 301 (.mov (.t 37)),oT 303 301 (.mov (.t 35)),oT 304 301 (.lenL (.t 303)),oT 305 301 (.bin .sub 3 true (.t 304) (.v (.int .i64 1))),oT 306 301 (.bsl 3 1 1 [(.int .i64 0)] [(0,1,(.t 305))]),oT 307 301 (.call 56 [(.t 302),(.t 306)]),o 308 (.pick (.t 301) (.t 307) (.v (.bool false))),om 6 308]) .ret)))))
noncomputable def r9_c:RC:=(.seq (.seq (.ops [om 195 21,om 196 28,o 197 (.call 56 [(.t 195),(.t 196)]),o 198 (.un .not (.t 197)),om 199 198,oF 200 199 (.mov (.t 23)),oF 201 199 (.mov (.t 27)),oF 202 199 (.call 56 [(.t 200),(.t 201)]),oF 203 199 (.un .not (.t 202)),o 204 (.pick (.t 199) (.v (.bool true)) (.t 203))]) (.cond (.t 204) (.seq (.ops [o 6 (.mov (.v (.bool false)))]) .ret) .skip)) (.seq (.ops [o 206 (.ldn 3 (.t 7)),o 207 (.call 48 [(.t 206)]),om 205 207,o 208 (.ext (.t 205) 0),o 209 (.ext (.t 205) 1),om 32 208,om 33 209]) (.seq (.seq (.ops [om 210 33,o 211 (.bin .neq 26 true (.t 210) (.v (.int .i64 0))),om 212 211,oT 213 212 (.mov (.t 33)),oT 214 212 (.bin .neq 26 true (.t 213) (.v (.int .i64 7))),oT 215 212 (.mov (.t 214)),oF 216 215 (.mov (.t 17)),oF 217 215 (.lenL (.t 216)),oF 218 215 (.bin .gtr 3 true (.t 217) (.v (.int .i64 1))),oT 219 212 (.pick (.t 215) (.v (.bool true)) (.t 218)),o 220 (.pick (.t 212) (.t 219) (.v (.bool false))),om 221 220,oF 222 221 (.mov (.t 33)),oF 223 221 (.bin .eql 26 true (.t 222) (.v (.int .i64 0))),oF 224 221 (.mov (.t 223)),oT 225 224 (.mov (.t 32)),oT 226 224 (.bin .lss 3 true (.t 225) (.v (.int .i64 1))),oF 227 221 (.pick (.t 224) (.t 226) (.v (.bool false))),o 228 (.pick (.t 221) (.v (.bool true)) (.t 227))]) (.cond (.t 228) (.seq (.ops [o 6 (.mov (.v (.bool false)))]) .ret) .skip)) (.seq (.seq (.ops [o 34 (.mov (.v (.int .i64 1)))]) (.block 2 (.loop r9_l1))) r9_d))))
noncomputable def r9:RC:=(.seq (.ops [o 3 (.box 72 (.t 0)),o 4 (.box 72 (.t 1)),o 6 (.mov (.v (.bool false)))]) (.seq (.seq (.ops [o 39 (.call 16 []),o 40 (.un .not (.t 39)),om 41 40,oF 42 41 (.ldn 3 (.t 3)),oF 43 41 (.call 44 [(.t 42),(.v (.int .i64 6))]),oF 44 41 (.un .not (.t 43)),o 45 (.pick (.t 41) (.v (.bool true)) (.t 44)),om 46 45,oF 47 46 (.ldn 3 (.t 4)),oF 48 46 (.call 44 [(.t 47),(.v (.int .i64 6))]),oF 49 46 (.un .not (.t 48)),o 50 (.pick (.t 46) (.v (.bool true)) (.t 49)),om 51 50,oF 52 51 (.ldn 3 (.t 3)),oF 53 51 (.ldn 3 (.t 4)),oF 54 51 (.call 49 [(.t 52),(.t 53)]),oF 55 51 (.bin .neq 3 true (.t 54) (.v (.int .i64 0))),o 56 (.pick (.t 51) (.v (.bool true)) (.t 55)),om 57 56,oF 58 57 (.fa 1 (.t 3)),oF 59 57 (.ld1 (.t 58)),oF 60 57 (.lenL (.t 59)),oF 61 57 (.bin .gtr 3 true (.t 60) (.v (.int .i64 6))),o 62 (.pick (.t 57) (.v (.bool true)) (.t 61)),om 63 62,oF 64 63 (.fa 1 (.t 4)),oF 65 63 (.ld1 (.t 64)),oF 66 63 (.lenL (.t 65)),oF 67 63 (.bin .gtr 3 true (.t 66) (.v (.int .i64 6))),o 68 (.pick (.t 63) (.v (.bool true)) (.t 67)),om 69 68,oF 70 69 (.mov (.t 2)),oF 71 69 (.lenL (.t 70)),oF 72 69 (.bin .gtr 3 true (.t 71) (.v (.int .i64 40))),o 73 (.pick (.t 69) (.v (.bool true)) (.t 72)),om 74 73,oF 75 74 (.fa 0 (.t 3)),oF 76 74 (.ld1 (.t 75)),oF 77 74 (.mov (.t 2)),oF 78 74 (.call 28 [(.t 76),(.t 77)]),oF 79 74 (.bin .neq 3 true (.t 78) (.v (.int .i64 0))),o 80 (.pick (.t 74) (.v (.bool true)) (.t 79))]) (.cond (.t 80) (.seq (.ops [o 81 (.call 16 []),om 6 81]) .ret) .skip)) (.seq (.raw q9_0) (.seq (.ops [o 85 (.ldn 3 (.t 7)),o 86 (.ldn 3 (.t 8)),o 87 (.call 45 [(.t 85),(.t 86)]),om 84 87,o 88 (.ext (.t 84) 0),o 89 (.ext (.t 84) 1),o 9 (.al [(.int .i64 0),.nils,.nils] 69),oS (.st 3 (.t 9) (.t 88)),om 10 89]) (.seq (.ops [o 91 (.ldn 3 (.t 7)),o 92 (.ldn 3 (.t 8)),o 93 (.call 46 [(.t 91),(.t 92)]),om 90 93,o 94 (.ext (.t 90) 0),o 95 (.ext (.t 90) 1),o 11 (.al [(.int .i64 0),.nils,.nils] 69),oS (.st 3 (.t 11) (.t 94)),om 12 95]) (.seq (.ops [o 97 (.ldn 3 (.t 7)),o 98 (.ldn 3 (.t 7)),o 99 (.call 46 [(.t 97),(.t 98)]),om 96 99,o 100 (.ext (.t 96) 0),o 101 (.ext (.t 96) 1),o 13 (.al [(.int .i64 0),.nils,.nils] 69),oS (.st 3 (.t 13) (.t 100)),om 14 101]) (.seq (.ops [o 103 (.ldn 3 (.t 7)),o 104 (.call 59 [(.t 103)]),om 102 104,o 105 (.ext (.t 102) 0),o 106 (.ext (.t 102) 1),o 15 (.al [(.int .i64 0),.nils,.nils] 69),oS (.st 3 (.t 15) (.t 105)),om 16 106]) (.seq (.seq (.ops [om 107 10,om 108 12,o 109 (.bin .add 26 false (.t 107) (.t 108)),om 110 14,o 111 (.bin .add 26 false (.t 109) (.t 110)),om 112 16,o 113 (.bin .add 26 false (.t 111) (.t 112)),o 114 (.bin .neq 26 true (.t 113) (.v (.int .i64 0))),om 115 114,oF 116 115 (.ldn 3 (.t 13)),oF 117 115 (.ldn 3 (.t 15)),oF 118 115 (.call 60 [(.t 116),(.t 117)]),oF 119 115 (.un .not (.t 118)),o 120 (.pick (.t 115) (.v (.bool true)) (.t 119))]) (.cond (.t 120) (.seq (.ops [o 6 (.mov (.v (.bool false)))]) .ret) .skip)) (.seq (.ops [o 122 (.ldn 3 (.t 7)),om 123 2,o 124 (.call 57 [(.t 122),(.t 123)]),om 121 124,o 125 (.ext (.t 121) 0),o 126 (.ext (.t 121) 1),om 17 125,om 18 126]) (.seq (.ops [o 128 (.ldn 3 (.t 8)),om 129 2,o 130 (.call 57 [(.t 128),(.t 129)]),om 127 130,o 131 (.ext (.t 127) 0),o 132 (.ext (.t 127) 1),om 19 131,om 20 132]) (.seq (.ops [o 134 (.ldn 3 (.t 9)),om 135 2,o 136 (.call 57 [(.t 134),(.t 135)]),om 133 136,o 137 (.ext (.t 133) 0),o 138 (.ext (.t 133) 1),om 21 137,om 22 138]) (.seq (.ops [o 140 (.ldn 3 (.t 11)),om 141 2,o 142 (.call 57 [(.t 140),(.t 141)]),om 139 142,o 143 (.ext (.t 139) 0),o 144 (.ext (.t 139) 1),om 23 143,om 24 144]) (.seq (.ops [o 146 (.ldn 3 (.t 15)),om 147 2,o 148 (.call 57 [(.t 146),(.t 147)]),om 145 148,o 149 (.ext (.t 145) 0),o 150 (.ext (.t 145) 1),om 25 149,om 26 150]) (.seq (.seq (.ops [om 151 18,om 152 20,o 153 (.bin .add 26 false (.t 151) (.t 152)),om 154 22,o 155 (.bin .add 26 false (.t 153) (.t 154)),om 156 24,o 157 (.bin .add 26 false (.t 155) (.t 156)),om 158 26,o 159 (.bin .add 26 false (.t 157) (.t 158)),o 160 (.bin .neq 26 true (.t 159) (.v (.int .i64 0))),om 161 160,oF 162 161 (.mov (.t 25)),oF 163 161 (.mov (.t 17)),oF 164 161 (.call 56 [(.t 162),(.t 163)]),oF 165 161 (.un .not (.t 164)),o 166 (.pick (.t 161) (.v (.bool true)) (.t 165))]) (.cond (.t 166) (.seq (.ops [o 6 (.mov (.v (.bool false)))]) .ret) .skip)) (.seq (.ops [o 27 (.mov (.v .nils)),o 28 (.mov (.v .nils))]) (.seq (.seq (.ops [om 167 2,o 168 (.lenL (.t 167)),o 169 (.mov (.v (.int .i64 0)))]) (.block 0 (.loop r9_l0))) r9_c))))))))))))))))
theorem k9:fnRC 9=some ([.tmp 6],r9):=by kernel_rfl
end Go.Am
namespace Go.Am
open Go
variable [MaxLen]
set_option maxRecDepth 100000
set_option maxHeartbeats 4000000
theorem bne_bool (x:Bool):binA U .neq 4 false (.bool x) (.bool x)=some (.bool false):=by cases x <;> kernel_rfl
theorem c60 (a b:Auto)(h1:a.lines=b.lines)(h2:a.next.length=b.next.length)(h3:∀i (h:i<a.next.length) (h':i<b.next.length),a.next[i].2=b.next[i].2)(h4:a.fires.length=b.fires.length)
  (h5:∀i (h:i<a.fires.length) (h':i<b.fires.length),a.fires[i].2=b.fires[i].2)(n1:a.next.length≤2^40)(n2:a.fires.length≤2^40)(n3:∀r∈a.next,r.2.length≤2^40)(n4:∀r∈a.fires,r.2.length≤2^40) :
  calV U 60 [encA a,encA b]=some (.bool true):=by
 refine pure_go k60 (by kernel_rfl) (by simp[stills,still_encA]) ?_
 rw[encA_eq,encA_eq]
 have nn:=noAgg_encS a.nNl (a.next.map encRow)
 have nf:=noAgg_encS a.fNl (a.fires.map encFRow)
 have cn:=cells_encS a.nNl (a.next.map encRow)
 have cf:=cells_encS a.fNl (a.fires.map encFRow)
 have ln:=lenL_encS a.nNl (a.next.map encRow)
 have lf:=lenL_encS a.fNl (a.fires.map encFRow)
 have nn':=noAgg_encS b.nNl (b.next.map encRow)
 have nf':=noAgg_encS b.fNl (b.fires.map encFRow)
 have cn':=cells_encS b.nNl (b.next.map encRow)
 have cf':=cells_encS b.fNl (b.fires.map encFRow)
 have ln':=lenL_encS b.nNl (b.next.map encRow)
 have lf':=lenL_encS b.fNl (b.fires.map encFRow)
 rw[List.length_map] at ln lf ln' lf'
 rw[←h2] at ln'
 rw[←h4] at lf'
 have b1:((b.lines:Int) != b.lines)=false:=by simp
 have b2:((a.next.length:Int) != a.next.length)=false:=by simp
 have b3:((a.fires.length:Int) != a.fires.length)=false:=by simp
 unfold encN encFs
 simp (maxSteps:=2000000) +contextual only[go_sem,↓reduceIte,r60,nn,nf,cn,cf,ln,lf,nn',nf',cn',cf',ln',lf',h1,b1,b2,b3]
 refine loop_to (σ:=Nat) (fun i=>a.next.length-i) (fun _=>some (.bool true)) (fun i e s=>i≤a.next.length∧Env.get e 2=.ptr 8 0∧Env.get e 3=.ptr 9 0∧Env.get e 5=.int .i64 (i:Nat)∧9<s.next ∧
  s.get 8=some (.cells [.int .i64 b.lines,encS a.nNl (a.next.map encRow),encS a.fNl (a.fires.map encFRow)] 72 false 0 0)∧s.get 9=some (.cells [.int .i64 b.lines,encS b.nNl (b.next.map encRow),encS b.fNl (b.fires.map encFRow)] 72 false 0 0)) 0 ?_ rfl ?_
 ·rintro L i e s ⟨hi,g2,g3,g5,nx,gs,gs'⟩ IH
  by_cases hd:i<a.next.length
  ·have hw:=wrap_succ hd (by omega)
   have hd':i<b.next.length:=by omega
   have r1:=ixa_rowI (nl:=a.nNl) hd
   have r2:=ixa_rowI (nl:=b.nNl) hd'
   have h109:=c109 a.next[i].1 b.next[i].1 a.next[i].2 b.next[i].2 (by have:=n3 _ (List.getElem_mem hd);omega)
   rw[h3 i hd hd',sameI_refl] at h109
   rw[h3 i hd hd'] at r1
   simp (maxSteps:=2000000) +contextual only[go_sem,↓reduceIte,r60_l0,g2,g3,g5,gs,gs',nat_lt_dec,hd,ln,r1,r2,h109,hw]
   refine IH (i+1) _ _ (by omega) ⟨by omega,?_,?_,?_,by rw[upto_next];omega,by rw[upto_get,gs],by rw[upto_get,gs']⟩
   all_goals simp +contextual only[go_sem,↓reduceIte,g2,g3,hw]
  ·have:i=a.next.length:=by omega
   subst this
   simp (maxSteps:=2000000) +contextual only[go_sem,↓reduceIte,r60_l0,g2,g5,gs,nat_lt_dec,Nat.lt_irrefl,ln]
   refine loop_to (σ:=Nat) (fun i=>a.fires.length-i) (fun _=>some (.bool true)) (fun i e s=>i≤a.fires.length∧Env.get e 2=.ptr 8 0∧Env.get e 3=.ptr 9 0∧Env.get e 6=.int .i64 (i:Nat)∧9<s.next ∧
    s.get 8=some (.cells [.int .i64 b.lines,encS a.nNl (a.next.map encRow),encS a.fNl (a.fires.map encFRow)] 72 false 0 0)∧s.get 9=some (.cells [.int .i64 b.lines,encS b.nNl (b.next.map encRow),encS b.fNl (b.fires.map encFRow)] 72 false 0 0)) 0 ?_ rfl ?_
   ·clear g2 g3 g5 nx gs gs' IH
    rintro L i e s ⟨hi,g2,g3,g6,nx,gs,gs'⟩ IH
    by_cases hd:i<a.fires.length
    ·have hw:=wrap_succ hd (by omega)
     have hd':i<b.fires.length:=by omega
     have r1:=ixa_rowB (nl:=a.fNl) hd
     have r2:=ixa_rowB (nl:=b.fNl) hd'
     have hrl:=n4 _ (List.getElem_mem hd)
     rw[h5 i hd hd'] at r1 hrl
     have l1:=lenL_encS a.fires[i].1 (bools b.fires[i].2)
     have l2:=lenL_encS b.fires[i].1 (bools b.fires[i].2)
     rw[bools_len] at l1 l2
     have b4:((b.fires[i].2.length:Int) != b.fires[i].2.length)=false:=by simp
     simp (maxSteps:=2000000) +contextual only[go_sem,↓reduceIte,r60_l2,g2,g3,g6,gs,gs',nat_lt_dec,hd,lf,r1,r2,l1,l2,b4]
     refine loop_to (σ:=Nat) (fun x=>b.fires[i].2.length-x) (fun _=>some (.bool true)) (fun x e s=>x≤b.fires[i].2.length∧Env.get e 2=.ptr 8 0∧Env.get e 3=.ptr 9 0∧Env.get e 6=.int .i64 (i:Nat)∧Env.get e 7=.int .i64 (x:Nat)∧9<s.next ∧
      s.get 8=some (.cells [.int .i64 b.lines,encS a.nNl (a.next.map encRow),encS a.fNl (a.fires.map encFRow)] 72 false 0 0)∧s.get 9=some (.cells [.int .i64 b.lines,encS b.nNl (b.next.map encRow),encS b.fNl (b.fires.map encFRow)] 72 false 0 0)) 0 ?_ rfl ?_
     ·clear g2 g3 g6 nx gs gs'
      rintro L' x e s ⟨hx,g2,g3,g6,g7,nx,gs,gs'⟩ IH'
      by_cases hd2:x<b.fires[i].2.length
      ·have hw2:=wrap_succ hd2 (by omega)
       have q1:=ixa_boolV (nl:=a.fires[i].1) hd2
       have q2:=ixa_boolV (nl:=b.fires[i].1) hd2
       have q3:=bne_bool b.fires[i].2[x]
       simp (maxSteps:=2000000) +contextual only[go_sem,↓reduceIte,r60_l1,g2,g3,g6,g7,gs,gs',nat_lt_dec,hd2,r1,r2,l1,q1,q2,q3,hw2]
       refine IH' (x+1) _ _ (by omega) ⟨by omega,?_,?_,?_,?_,by rw[upto_next];omega,by rw[upto_get,gs],by rw[upto_get,gs']⟩
       all_goals simp +contextual only[go_sem,↓reduceIte,g2,g3,g6,hw2]
      ·have:x=b.fires[i].2.length:=by omega
       subst this
       simp (maxSteps:=2000000) +contextual only[go_sem,↓reduceIte,r60_l1,g2,g3,g6,g7,gs,gs',nat_lt_dec,Nat.lt_irrefl,r1,l1,hw]
       refine IH (i+1) _ _ (by omega) ⟨by omega,?_,?_,?_,nx,gs,gs'⟩
       all_goals simp +contextual only[go_sem,↓reduceIte,g2,g3,hw]
     ·refine⟨Nat.zero_le _,?_,?_,?_,?_,by simp only[upto_next];omega,by simp only[upto_get,gs],by simp only[upto_get,gs']⟩
      all_goals simp +contextual only[go_sem,↓reduceIte,g2,g3,g6]
      all_goals rfl
    ·have:i=a.fires.length:=by omega
     subst this
     simp (maxSteps:=2000000) +contextual only[go_sem,↓reduceIte,r60_l2,g2,g6,gs,nat_lt_dec,Nat.lt_irrefl,lf]
   ·refine⟨Nat.zero_le _,?_,?_,?_,nx,gs,gs'⟩
    all_goals simp +contextual only[go_sem,↓reduceIte,g2,g3]
    all_goals rfl
 ·refine⟨Nat.zero_le _,?_,?_,?_,?_,?_,?_⟩
  all_goals try simp +contextual only[go_sem,↓reduceIte]
  all_goals rfl
def shortRows (n:Nat):List (Bool×List Int)→Bool
 |[]=>true
 |r::l=>bif decide ((r.2.length:Int)>n) then false else shortRows n l
def shortFs (n:Nat):List (Bool×List Bool)→Bool
 |[]=>true
 |r::l=>bif decide ((r.2.length:Int)>n) then false else shortFs n l
def shortA (a:Auto)(n:Int):Bool :=
 bif (decide ((a.next.length:Int)>n)&&decide ((a.next.length:Int)≤256))||(decide ((a.next.length:Int)>258)||decide ((a.fires.length:Int)>260)) then false else shortRows 18 a.next&&shortFs 18 a.fires
theorem shortRows_ok {n:Nat}:∀{l:List (Bool×List Int)},shortRows n l=true→∀r∈l,r.2.length≤n
 |[],_,r,h=>by simp at h
 |x::l,h,r,hr=>by
  rw[shortRows] at h
  cases hd:decide ((x.2.length:Int)>n) with
  |true=>rw[hd] at h;cases h
  |false =>
   rw[hd,cond_false] at h
   rcases List.mem_cons.1 hr with rfl|hr
   ·simp at hd;omega
   ·exact shortRows_ok h r hr
theorem l44 (a:Auto)(hN:a.next.length≤258)(hF:a.fires.length≤260){e:Env}{s:St}(g2:Env.get e 2=.ptr 8 0)(g5:Env.get e 5=.int .i64 (0:Nat))(gs:s.get 8=some (.cells [.int .i64 a.lines,encS a.nNl (a.next.map encRow),encS a.fNl (a.fires.map encFRow)] 72 false 0 0)) :
  goL U (finP U [.tmp 4]) [.bk 0,.sq (.seq (.seq (.ops [⟨some 6,none,none,false,.mov (.v (.int .i64 0))⟩]) (.block 2 (.loop r44_l1))) (.seq (.ops [⟨some 4,none,none,false,.mov (.v (.bool true))⟩]) .ret))] r44_l0 e s=some (.bool (shortRows 18 a.next&&shortFs 18 a.fires)):=by
 have ln:=lenL_encS a.nNl (a.next.map encRow)
 have lf:=lenL_encS a.fNl (a.fires.map encFRow)
 rw[List.length_map] at ln lf
 refine loop_to (σ:=Nat) (fun i=>a.next.length-i) (fun i=>some (.bool (shortRows 18 (a.next.drop i)&&shortFs 18 a.fires))) (fun i e s=>i≤a.next.length∧Env.get e 2=.ptr 8 0∧Env.get e 5=.int .i64 (i:Nat) ∧
  s.get 8=some (.cells [.int .i64 a.lines,encS a.nNl (a.next.map encRow),encS a.fNl (a.fires.map encFRow)] 72 false 0 0)) 0 ?_ rfl ⟨Nat.zero_le _,g2,g5,gs⟩
 clear g2 g5 gs
 rintro L i e s ⟨hi,g2,g5,gs⟩ IH
 by_cases hd:i<a.next.length
 ·have hw:=wrap_succ hd (by omega)
  have r1:=ixa_rowI (nl:=a.nNl) hd
  have l1:=lenL_encS a.next[i].1 (ints a.next[i].2)
  rw[ints_len] at l1
  rw[List.drop_eq_getElem_cons hd,shortRows]
  cases h:decide ((a.next[i].2.length:Int)>(18:Nat)) with
  |true =>
   have h:decide ((a.next[i].2.length:Int)>18)=true:=h
   simp (maxSteps:=2000000) +contextual only[go_sem,↓reduceIte,r44_l0,g2,g5,gs,nat_lt_dec,hd,ln,r1,l1,h,Bool.false_and,cond_true]
  |false =>
   have h:decide ((a.next[i].2.length:Int)>18)=false:=h
   simp (maxSteps:=2000000) +contextual only[go_sem,↓reduceIte,r44_l0,g2,g5,gs,nat_lt_dec,hd,ln,r1,l1,h,hw,cond_false]
   refine IH (i+1) _ _ (by omega) ⟨by omega,?_,?_,gs⟩
   all_goals simp +contextual only[go_sem,↓reduceIte,g2,hw]
 ·have:i=a.next.length:=by omega
  subst this
  rw[List.drop_length,shortRows,Bool.true_and]
  simp (maxSteps:=2000000) +contextual only[go_sem,↓reduceIte,r44_l0,g2,g5,gs,nat_lt_dec,Nat.lt_irrefl,ln]
  refine loop_to (σ:=Nat) (fun i=>a.fires.length-i) (fun i=>some (.bool (shortFs 18 (a.fires.drop i)))) (fun i e s=>i≤a.fires.length∧Env.get e 2=.ptr 8 0∧Env.get e 6=.int .i64 (i:Nat) ∧
   s.get 8=some (.cells [.int .i64 a.lines,encS a.nNl (a.next.map encRow),encS a.fNl (a.fires.map encFRow)] 72 false 0 0)) 0 ?_ rfl ?_
  ·clear g2 g5 gs IH
   rintro L i e s ⟨hi,g2,g6,gs⟩ IH
   by_cases hd:i<a.fires.length
   ·have hw:=wrap_succ hd (by omega)
    have r1:=ixa_rowB (nl:=a.fNl) hd
    have l1:=lenL_encS a.fires[i].1 (bools a.fires[i].2)
    rw[bools_len] at l1
    rw[List.drop_eq_getElem_cons hd,shortFs]
    cases h:decide ((a.fires[i].2.length:Int)>(18:Nat)) with
    |true =>
     have h:decide ((a.fires[i].2.length:Int)>18)=true:=h
     simp (maxSteps:=2000000) +contextual only[go_sem,↓reduceIte,r44_l1,g2,g6,gs,nat_lt_dec,hd,lf,r1,l1,h,cond_true]
    |false =>
     have h:decide ((a.fires[i].2.length:Int)>18)=false:=h
     simp (maxSteps:=2000000) +contextual only[go_sem,↓reduceIte,r44_l1,g2,g6,gs,nat_lt_dec,hd,lf,r1,l1,h,hw,cond_false]
     refine IH (i+1) _ _ (by omega) ⟨by omega,?_,?_,gs⟩
     all_goals simp +contextual only[go_sem,↓reduceIte,g2,hw]
   ·have:i=a.fires.length:=by omega
    subst this
    simp (maxSteps:=2000000) +contextual only[go_sem,↓reduceIte,r44_l1,g2,g6,gs,nat_lt_dec,Nat.lt_irrefl,lf]
    rw[List.drop_length,shortFs]
  ·refine⟨Nat.zero_le _,?_,?_,gs⟩
   all_goals simp +contextual only[go_sem,↓reduceIte,g2]
   all_goals rfl
theorem c44 (a:Auto)(n:Int):calV U 44 [encA a,.int .i64 n]=some (.bool (shortA a n)):=by
 refine pure_go k44 (by kernel_rfl) (by simp[stills,still_encA,still]) ?_
 rw[encA_eq]
 have nn:=noAgg_encS a.nNl (a.next.map encRow)
 have nf:=noAgg_encS a.fNl (a.fires.map encFRow)
 have cn:=cells_encS a.nNl (a.next.map encRow)
 have cf:=cells_encS a.fNl (a.fires.map encFRow)
 have ln:=lenL_encS a.nNl (a.next.map encRow)
 have lf:=lenL_encS a.fNl (a.fires.map encFRow)
 rw[List.length_map] at ln lf
 unfold encN encFs shortA
 cases h1:decide ((a.next.length:Int)>n) <;> cases h2:decide ((a.next.length:Int)≤256) <;> cases h3:decide ((a.next.length:Int)>258) <;> cases h4:decide ((a.fires.length:Int)>260)
 all_goals simp (maxSteps:=2000000) +contextual only[go_sem,↓reduceIte,r44,nn,nf,cn,cf,ln,lf,h1,h2,h3,h4]
 all_goals try rfl
 all_goals have hN:a.next.length≤258:=by simp at h3;omega
 all_goals have hF:a.fires.length≤260:=by simp at h4;omega
 all_goals clear h1 h2 h3 h4
 all_goals refine l44 a hN hF ?_ ?_ ?_
 all_goals try simp +contextual only[go_sem,↓reduceIte]
 all_goals rfl
theorem opA_mks43 {ex:Ex}{a:Nat}{e:Env}{s:St}{n:Nat}(h:Env.get e a=.int .i64 (n:Int))(hn:n≤2^20) :
  opA U ex e (.makeSlice 43 (.tmp a) (.tmp a)) s=some (.sl s.next 0 n (some n) 1,s.new (.cells (bools (List.replicate n false)) 4 false 0 0)):=by
 have h40:U.und 43=some (.slice 4):=by kernel_rfl
 have hz:zero U 4=some (.bool false):=by kernel_rfl
 have hi:(U.inf 4).map (fun i=>(i.bytes,i.size))=some (1,1):=by kernel_rfl
 have e1:bools (List.replicate n false)=List.replicate n (.bool false):=by simp[bools]
 cases hj:U.inf 4 with
 |none=>rw[hj] at hi;cases hi
 |some j =>
  rw[hj] at hi
  simp only[Option.map_some,Option.some.injEq,Prod.mk.injEq] at hi
  obtain⟨h1,h2⟩:=hi
  rw[e1,←repeatL_one]
  simp only[opA,eval,h,h40,hj,hz]
  rw[if_pos ⟨by omega,by omega,by rw[h1];omega,by omega,by rw[h2];rfl,by omega⟩,h2]
  rfl
def nIs (l:List Nat):List Int:=l.map fun k:Nat=>(k:Int)
def nats (l:List Nat):List AV:=ints (nIs l)
theorem nIs_len (l:List Nat):(nIs l).length=l.length:=by simp[nIs]
theorem nats_len (l:List Nat):(nats l).length=l.length:=by rw[nats,ints_len,nIs_len]
theorem nats_get {l:List Nat}{i:Nat}(h:i<l.length):(nats l)[i]? = some (.int .i64 ((gt l i:Nat):Int)):=by
 rw[nats,ints_get,nIs,List.getElem?_map,List.getElem?_eq_getElem h,gt_get h];rfl
theorem nats_lay {l:List Nat}{i:Nat}(k:Nat)(h:i<l.length):lay i [.int .i64 (k:Int)] (nats l)=some (nats (l.set i k)):=by
 rw[lay_set _ _ _ (by rw[nats_len];exact h)]
 simp[nats,ints,nIs,List.map_set]
theorem nats_app (l:List Nat)(k:Nat):nats l++[.int .i64 (k:Int)]=nats (l++[k]):=by simp[nats,ints,nIs]
theorem ieqN (a b:Nat):((a:Int)==(b:Int))=(a==b):=by rw[Bool.eq_iff_iff];simp;omega
theorem frz_slN {s:St}{b d n:Nat}{cap:Option Nat}{L:List Nat}(hL:L.length=n)(hg:s.get b=some (.cells (nats L) 3 false 0 0)):frz U s (d+2) (.sl b 0 n cap 1)=some (.fz (nats L)):=by
 have:=frz_slI (d:=d) (cap:=cap) hg
 rw[nIs_len,hL] at this
 exact this
theorem ixa_natsF {l:List Nat}{i:Nat}(h:i<l.length):ixRA 1 (.fz (nats l)) (.int .i64 (i:Int))=some (.fp [.int .i64 ((gt l i:Nat):Int)] 0):=by
 have:=ixa_intV (nl:=false) (l:=nIs l) (i:=i) (by rw[nIs_len];exact h)
 rw[encS_fz] at this
 rw[nats,this]
 simp[nIs,gt_get h]
theorem bools_lay {l:List Bool}{i:Nat}(k:Bool)(h:i<l.length):lay i [.bool k] (bools l)=some (bools (l.set i k)):=by
 rw[lay_set _ _ _ (by rw[bools_len];exact h)]
 simp[bools,List.map_set]
def frow (A:Fa)(q:Nat):List Bool:=(List.range A.m).map (A.fr q)
theorem frow_len (A:Fa)(q:Nat):(frow A q).length=A.m:=by simp[frow]
theorem frow_at (A:Fa)(q:Nat){x:Nat}(h:x<A.m):(frow A q)[x]'(by rw[frow_len];exact h)=A.fr q x:=by simp[frow]
theorem RowI.appT {s:St}{B:Nat}{t:TypeId}{i:Nat}{cs:List AV}{v:AV}(h:RowI s B t 1 i cs v)(hB:B≤s.next)(x:AV)(hx:Go.Am.noAgg x=true) :
  ∃s1,appD t 1 1 [x] v s=some (.sl s.next 0 (i+1) none 1,s1)∧s1.next=s.next+1∧RowI s1 B t 1 (i+1) (cs++[x]) (.sl s.next 0 (i+1) none 1) ∧
   (∀j c t' lo hi,s.get j=some (.cells c t' false lo hi)→j<s.next→t'≠t→s1.get j=some (.cells c t' false lo hi))∧(∀j,j<B→s1.get j=s.get j)∧(Fr s→Fr s1):=by
 obtain⟨s1,a1,a2,a3,a4,a5⟩:=h.app2 hB (m:=1) (new:=[x]) (by omega) rfl (by simp[hx])
 exact⟨s1,a1,a2,a3,fun j c t' lo hi hj hlt hne=>by rw[a4 j (by omega) (h.other hj hne),hj],fun j hj=>a4 j (by omega) (h.far (.inr hj)),a5⟩
theorem RowI.keepT {s s':St}{B:Nat}{t:TypeId}{i:Nat}{cs:List AV}{v:AV}(h:RowI s B t 1 i cs v)(hn:s.next≤s'.next)(hg:∀j c,s.get j=some (.cells c t false 0 0)→j<s.next→B≤j→s'.get j=some (.cells c t false 0 0)):RowI s' B t 1 i cs v:=by
 rcases h with⟨h0,h1,h2⟩|⟨h0,h1,b,h2,h3,h4,h5⟩
 ·exact .inl ⟨h0,h1,h2⟩
 ·exact .inr ⟨h0,h1,b,h2,by omega,h4,hg b _ h5 h3 h2⟩
def BlkI (s:St)(b:Nat)(t:TypeId)(c:AV)(l:List AV):Prop:=∃j,c=.sl j 0 l.length (some l.length) 1∧j<s.next∧j≠b∧12≤j∧s.get j=some (.cells l t false 0 0)
theorem BlkI.mono {s s':St}{b b':Nat}{t:TypeId}{c:AV}{l:List AV}(h:BlkI s b t c l)(hn:s.next≤s'.next)(hb:∀j,j<s.next→j≠b→j≠b')(hg:∀j,j<s.next→j≠b→12≤j→s.get j=some (.cells l t false 0 0)→s'.get j=some (.cells l t false 0 0)):BlkI s' b' t c l:=by
 obtain⟨j,h1,h2,h3,h4,h5⟩:=h
 exact⟨j,h1,by omega,hb j h2 h3,h4,hg j h2 h3 h4 h5⟩
theorem BlkI.frz {s:St}{b d:Nat}{c:AV}{l:List AV}{t:TypeId}(h:BlkI s b t c l)(hag:isAggT U t=some false)(hsz:size U t=some 1)(hna:l.all noAgg=true)(hf:mapO (Go.Am.frz U s d) l=some l):Go.Am.frz U s (d+1) c=some (.fz l):=by
 obtain⟨j,rfl,_,_,_,h5⟩:=h
 rw[frz_sl,h5,frzS_cells,Nat.mul_one,grab_all,hag,hsz,frzT_one,if_pos hna,chunks_all,hf,fzK_some]
theorem mapO_idx {A:Type}{f:AV→Option AV}{g:A→AV}:∀{cs:List AV} {rs:List A},cs.length=rs.length→(∀j (h:j<cs.length) (h':j<rs.length),f cs[j]=some (g rs[j]))→mapO f cs=some (rs.map g)
 |[],[],_,_=>rfl
 |c::cs,r::rs,hl,h=>by
  have h0:=h 0 (by simp) (by simp)
  simp only[List.getElem_cons_zero] at h0
  have ih:=mapO_idx (f:=f) (g:=g) (cs:=cs) (rs:=rs) (by simpa using hl) fun j h1 h2=>by
   have:=h (j+1) (by simpa using h1) (by simpa using h2)
   simpa using this
  rw[mapO_cons,h0,ih,List.map_cons]
  rfl
 |[],_::_,hl,_=>by simp at hl
 |_::_,[],hl,_=>by simp at hl
def minAutR (a:Auto):Auto:={ lines:=a.lines,nNl:=true,next:=(minR a.fa).map (fun x=>(false,nIs x.2)),fNl:=true,fires:=(minR a.fa).map (fun x=>(false,frow a.fa x.1)) }
end Go.Am
