/- A part of the proof of a statement of this seat: the machine on which the program is read, and what it computes; for every input. -/
import Derived.Test.YtikiipfbkfgmbaaGreatDoorG02
import Derived.Test.YtikiipfbkfgmbaaGreatDoorG03
import Derived.Test.YtikiipfbkfgmbaaGreatDoorG00
import Derived.Laws.BitsLemmas
set_option linter.all false
namespace Go.Am
open Go
abbrev Str:=List UInt8
inductive Cond where
 |mk (kind:Str) (a b mi ma:Int) (pat:Str) (nl:Bool) (kids:List Cond)
def encS (nl:Bool)(l:List AV):AV:=match nl,l with
 |true,[]=>.nils
 |_,l=>.fz l
def Cond.kind:Cond→Str|.mk k _ _ _ _ _ _ _=>k
def Cond.a:Cond→Int|.mk _ a _ _ _ _ _ _=>a
def Cond.b:Cond→Int|.mk _ _ b _ _ _ _ _=>b
def Cond.mi:Cond→Int|.mk _ _ _ m _ _ _ _=>m
def Cond.ma:Cond→Int|.mk _ _ _ _ m _ _ _=>m
def Cond.pat:Cond→Str|.mk _ _ _ _ _ p _ _=>p
def Cond.nl:Cond→Bool|.mk _ _ _ _ _ _ n _=>n
def Cond.kids:Cond→List Cond|.mk _ _ _ _ _ _ _ l=>l
structure Step where
 cond:Cond
 times:Int
 within:Int
structure Prog where
 lines:Int
 nl:Bool
 steps:List Step
def ints (l:List Int):List AV:=l.map (.int .i64 ·)
def bools (l:List Bool):List AV:=l.map .bool
structure Auto where
 lines:Int
 nNl:Bool
 next:List (Bool×List Int)
 fNl:Bool
 fires:List (Bool×List Bool)
def encRow (r:Bool×List Int):AV:=encS r.1 (ints r.2)
def encFRow (r:Bool×List Bool):AV:=encS r.1 (bools r.2)
def encA (a:Auto):AV:=.agg [.int .i64 a.lines,encS a.nNl (a.next.map encRow),encS a.fNl (a.fires.map encFRow)]
theorem encS_fz (l:List AV):encS false l=.fz l:=by cases l <;> rfl
theorem encS_cons (nl:Bool)(x:AV)(l:List AV):encS nl (x::l)=.fz (x::l):=by cases nl <;> rfl
theorem still_encS (nl:Bool)(l:List AV):still (encS nl l)=true:=by
 cases nl <;> cases l <;> simp[encS,still]
theorem noAgg_encS (nl:Bool)(l:List AV):noAgg (encS nl l)=true:=by
 cases nl <;> cases l <;> simp[encS,noAgg]
theorem cells_encS (nl:Bool)(l:List AV):(encS nl l).cells=[encS nl l]:=by
 cases nl <;> cases l <;> simp[encS,AV.cells]
theorem lenL_encS (nl:Bool)(l:List AV):lenRL (encS nl l)=some (.int .i64 l.length):=by
 cases nl <;> cases l <;> simp[encS,lenRL]
theorem frz_encS (X:Cx)(s:St)(d:Nat)(nl:Bool)(l:List AV):frz X s (d+1) (encS nl l)=some (encS nl l):=by
 cases nl <;> cases l <;> simp[encS,frz]
theorem ixa_encS (n:Nat)(nl:Bool)(l:List AV)(k:IntKind)(i:Int)(x:AV)(h0:0≤i)(hx:l[i.toNat]? = some x)(hc:x.cells.length=n)(hn:n≠0):ixRA n (encS nl l) (.int k i)=some (.fp x.cells 0):=by
 have hl:l≠[]:=by intro h;rw[h] at hx;simp at hx
 have:encS nl l=.fz l:=by cases l with
  |nil=>exact absurd rfl hl
  |cons y l=>exact encS_cons ..
 rw[this,ixa_fz]
 simp[h0,hx,ixF,hc,hn]
theorem wrap_i64 {n:Int}(h0 : -2^63≤n)(h1:n<2^63):IntKind.i64.wrap n=n:=by
 rw[IntKind.wrap_i64]
 omega
end Go.Am
namespace Go.Am
open Go Go.Proofs
variable [MaxLen]
set_option maxRecDepth 100000
instance seatStat:Stat:=⟨fun m c=>∃n,n≤m∧okC U n c=true∧noRF c=true,fun t=>Nat.beq t 207⟩
theorem U_und (t:TypeId):U.und t=Tryz.prog.underlying t:=by unfold U;rfl
theorem U_inf (t:TypeId):U.inf t=Tryz.prog.info? t:=by unfold U;rfl
theorem U_ext (f:FuncId):U.ext f=extU f:=by unfold U;rfl
theorem U_pure (f:FuncId):U.pure f=!keeps.contains f:=by unfold U;rfl
theorem U_gbase (g:Nat):U.gbase g=gbU g:=by unfold U;rfl
theorem U_glob:U.glob=8:=by unfold U;rfl
theorem U_fn (f:FuncId):U.fn f=bif Nat.beq f 75 then none else Tryz.prog.funcs[f]? := by unfold U;rfl
noncomputable def fnRC (f:FuncId):Option (List ResultVar×RC):=match U.fn f with
 |some fn=>match fn.body with
  |some c=>some (fn.results.toList,rc U c)
  |none=>none
 |none=>none
theorem fnRC_some {f:FuncId}{rs:List ResultVar}{r:RC}(h:fnRC f=some (rs,r)):∃fn c,U.fn f=some fn∧fn.body=some c∧fn.results.toList=rs∧rc U c=r:=by
 unfold fnRC at h
 split at h
 ·rename_i fn hf
  split at h
  ·rename_i c hb
   cases h
   exact⟨fn,c,hf,hb,rfl,rfl⟩
  ·cases h
 ·cases h
def isPure (f:FuncId):Bool:=!keeps.contains f&&(extU f).isNone
def isKept (f:FuncId):Bool:=keeps.contains f&&(extU f).isNone
theorem isPure_of {f:FuncId}(h:isPure f=true):U.pure f=true∧U.ext f=none:=by
 rw[isPure,Bool.and_eq_true,Option.isNone_iff_eq_none] at h
 rw[U_pure,U_ext];exact h
theorem isKept_of {f:FuncId}(h:isKept f=true):U.pure f=false∧U.ext f=none:=by
 rw[isKept,Bool.and_eq_true,Option.isNone_iff_eq_none] at h
 rw[U_pure,U_ext,h.1];exact⟨rfl,h.2⟩
theorem pure_go {f:FuncId}{rs:List ResultVar}{r:RC}(h:fnRC f=some (rs,r))(hp:isPure f=true){args:List AV}(hst:stills args=true){v:AV}
  (hg:go U (finP U rs) [] r (bindArgs 0 args .nil) (ownSt U)=some v):calV U f args=some v:=by
 obtain⟨fn,c,h1,h2,h3,h4⟩:=fnRC_some h
 obtain⟨p1,p2⟩:=isPure_of hp
 exact calV_pure U p2 p1 h1 h2 h3 h4 hst hg
theorem kept_go {f:FuncId}{rs:List ResultVar}{r:RC}(h:fnRC f=some (rs,r))(hp:isKept f=true){args:List AV}{s:St}{x:AV×St}
  (hg:go U (finB U rs) [] r (bindArgs 0 args .nil) s=some x):cal U f args s=some x:=by
 obtain⟨fn,c,h1,h2,h3,h4⟩:=fnRC_some h
 obtain⟨p1,p2⟩:=isKept_of hp
 unfold cal callF
 rw[p2,p1]
 exact callB_go U h1 h2 h3 h4 hg
theorem z_of {f:FuncId}(hp:isPure f=true){args:List AV}(s:St)(hst:stills args=false):callK U (calV U f args) f args s=calZ U f (mapO (frz U s 40) args) s :=
 cal_calZ U s (isPure_of hp).2 (isPure_of hp).1 hst
def gateZ (p:Bool)(x:Option (AV×St))(s:St):Option (AV×St):=bif p then x else some (undef,s)
theorem gateZ_true (x:Option (AV×St))(s:St):gateZ true x s=x:=(fun h=>h) rfl
theorem zg_of {f:FuncId}(hp:isPure f=true){p:Bool}{args:List AV}(s:St)(hst:stills args=false):gateC U p (calV U f args) f args s=gateZ p (calZ U f (mapO (frz U s 40) args) s) s:=by
 unfold gateC gateZ
 rw[z_of hp s hst]
theorem flat_frz (s:St):∀(d:Nat) (v v':AV),frz U s d v=some v'→flat v'=true→v=v':=by
 intro d
 induction d with
 |zero=>intro v v' h;simp[frz] at h
 |succ d ih =>
  intro v v' h hf
  have hl:∀(l l':List AV),mapO (frz U s d) l=some l'→flats l'=true→l=l':=by
   intro l
   induction l with
   |nil=>intro l' h _;simp only[mapO] at h;cases h;rfl
   |cons x l ihl =>
    intro l' h hf
    simp only[mapO] at h
    split at h
    ·rename_i y r h1 h2
     cases h
     simp only[flats,Bool.and_eq_true] at hf
     rw[ih _ _ h1 hf.1,ihl _ h2 hf.2]
    ·cases h
  cases v with
  |ptr b o =>
   rw[frz_ptr] at h
   unfold frzP at h
   split at h
   ·simp only[fpK,Option.map_eq_some_iff] at h
    obtain⟨_,_,rfl⟩:=h
    simp[flat] at hf
   ·cases h
  |sl b o len cap esz =>
   rw[frz_sl] at h
   unfold frzS frzT fzK at h
   split at h
   ·split at h
    ·split at h
     ·simp only[Option.map_eq_some_iff] at h
      obtain⟨_,_,rfl⟩:=h
      simp[flat] at hf
     ·cases h
    ·cases h
   ·cases h
  |map r =>
   simp only[frz] at h
   split at h
   ·split at h
    ·cases h;simp[flat] at hf
    ·cases h
   ·cases h
  |fn f x y =>
   simp only[frz] at h
   split at h
   ·split at h
    ·rename_i x' y' h1 h2
     cases h
     simp only[flat,Bool.and_eq_true] at hf
     rw[hl _ _ h1 hf.1.2,hl _ _ h2 hf.2]
    ·cases h
   ·cases h
  |iface t x =>
   simp only[frz] at h
   split at h
   ·rename_i x' h1
    cases h
    simp only[flat] at hf
    rw[ih _ _ h1 hf]
   ·cases h
  |agg cs =>
   simp only[frz] at h
   split at h
   ·rename_i x' h1
    cases h
    simp only[flat] at hf
    rw[hl _ _ h1 hf]
   ·cases h
  |tup cs =>
   simp only[frz] at h
   split at h
   ·rename_i x' h1
    cases h
    simp only[flat] at hf
    rw[hl _ _ h1 hf]
   ·cases h
  |_=>simp only[frz] at h;cases h;rfl
theorem q_of {f:FuncId}{rs:List ResultVar}{r:RC}(h:fnRC f=some (rs,r)){us:List AV}{v:AV}(hf:flat v=true)
  (hg:go U (finP U rs) [] r (bindArgs 0 us .nil) (ownSt U)=some v):callQ U (execL U) f us false=some v:=by
 obtain⟨fn,c,h1,h2,h3,h4⟩:=fnRC_some h
 have hg:frzB U (finB U rs (den U r (bindArgs 0 us .nil) (ownSt U)))=some v:=hg
 cases hd:finB U rs (den U r (bindArgs 0 us .nil) (ownSt U)) with
 |none=>rw[hd] at hg;simp[frzB] at hg
 |some x =>
  obtain⟨v0,s'⟩:=x
  rw[hd] at hg
  have hB:=callB_go U h1 h2 h3 h4 (args:=us) (s:=ownSt U) (x:=(v0,s')) hd
  simp only[frzB] at hg
  have:=flat_frz s' _ _ _ hg hf
  subst this
  unfold callQ
  rw[hB]
  simp[hf]
theorem v_of_q {f:FuncId}(hp:isPure f=true){args:List AV}(hst:stills args=true){v:AV}(h:callQ U (execL U) f args true=some v):calV U f args=some v:=by
 refine calV_of fun s=>?_
 obtain⟨p1,p2⟩:=isPure_of hp
 unfold cal callF
 rw[p2]
 simp only[p1,if_true,callP,frzArgs,hst,h]
theorem und_3:U.und 3=some (.int .i64):=by kernel_rfl
theorem und_272:U.und 272=some (.int .u64):=by kernel_rfl
theorem ag_3:isAggT U 3=some false:=by kernel_rfl
theorem sz_3:size U 3=some 1:=by kernel_rfl
theorem ag_4:isAggT U 4=some false:=by kernel_rfl
theorem sz_4:size U 4=some 1:=by kernel_rfl
theorem ag_26:isAggT U 26=some false:=by kernel_rfl
theorem sz_26:size U 26=some 1:=by kernel_rfl
theorem ag_40:isAggT U 40=some false:=by kernel_rfl
theorem sz_40:size U 40=some 1:=by kernel_rfl
theorem ag_43:isAggT U 43=some false:=by kernel_rfl
theorem sz_43:size U 43=some 1:=by kernel_rfl
theorem ag_116:isAggT U 116=some true:=by kernel_rfl
theorem sz_116:size U 116=some 2:=by kernel_rfl
attribute [go_sem ↓] gateZ_true
attribute [go_sem] Int.reduceBEq Int.reduceBNe Int.reduceAdd U_glob und_3 und_272 ag_3 sz_3 ag_4 sz_4 ag_26 sz_26 ag_40 sz_40 ag_43 sz_43 ag_116 sz_116
abbrev o (d:Nat)(r:ROp):RO:=⟨some d,none,none,false,r⟩
abbrev oS (r:ROp):RO:=⟨none,none,none,false,r⟩
abbrev om (d t:Nat):RO:=⟨some d,none,none,false,.mov (.t t)⟩
abbrev oF (d g:Nat)(r:ROp):RO:=⟨some d,some (g,false),none,false,r⟩
abbrev oT (d g:Nat)(r:ROp):RO:=⟨some d,some (g,true),none,false,r⟩
end Go.Am
namespace Go.Am
open Go
structure Pb where
 lo:Nat
 hi:Nat
 e:Env
 op:ROp
 v:AV
def pb1 (v:AV)(x:Option (AV×St)):Bool:=match x with
 |some (u,_)=>same u v
 |none=>false
section
variable (X:Cx)
noncomputable def pbL (base:Nat)(e:Env)(op:ROp)(v:AV):List St→Bool
 |[]=>true
 |s::l=>pb1 v (rop X base none e s op)&&pbL base e op v l
noncomputable def pbsOk (base:Nat)(H:List St):List Pb→Bool
 |[]=>true
 |p::P=>pbL X base p.e p.op p.v ((H.take (p.hi+1)).drop p.lo)&&pbsOk base H P
abbrev ROC:=RO×Option (Nat×Nat)
def noneC (base:Nat)(s:St)(l:List ROC):Bool:=noneR base s (l.map Prod.fst)
def addP (c:Option (Nat×Nat))(e:Env)(op:ROp)(v:AV)(P:List Pb):List Pb:=match c with
 |some (lo,hi)=>⟨lo,hi,e,op,v⟩::P
 |none=>P
noncomputable def ropsC (base:Nat):List ROC→Env→St→List St→List Pb→Option (Env×St)
 |[],e,s,H,P=>bif pbsOk X base H P then some (e,s) else none
 |(o,c)::l,e,s,H,P=>match (bif wantR e o.g then rop X base o.at_ e s o.op else some (undef,s)) with
  |some (v,s')=>bif !o.w||noneC base s' l then ropsC base l (setDst e o.d v) s' (bif o.w then H++[s'] else H) (addP c e o.op v P) else none
  |none=>none
def calmI (ops:Array Oper)(i:Nat):Bool :=
 (aIdx X 0 ops.toList).all (fun k=>!decide (k<i)||bef ops k i)&&(wIdx X ops 0 ops.toList).all (fun k=>bef ops k i||bef ops i k)
def opC (ops:Array Oper)(i:Nat):Option (Nat×Nat):=match ops[i]? with
 |some o=>if ((cls X o.op).isR||(match cls X o.op with|.q=>true|_=>false))&&!calmI X ops i then
   some (countL (fun j=>bef ops j i) (wIdx X ops 0 ops.toList),countL (fun j=>!bef ops i j) (wIdx X ops 0 ops.toList)) else none
 |none=>none
def csD (ops:Array Oper):List (Option (Nat×Nat)):=(List.range ops.size).map (opC X ops)
def openD (ops:Array Oper):Bool :=
 !lateReg X ops&&(List.range ops.size).all fun i=>match ops[i]? with
  |some o=>!((cls X o.op).isR||(match cls X o.op with|.q=>true|_=>false))||calmI X ops i ||
   ((cls X o.op).isR&&(o.guard.isNone&&(aIdx X 0 ops.toList).all fun k=>!bef ops k i))
  |none=>true
def rcDrc:Code→Option (Nat×List ROC)
 |.region _ ops d=>if d&&openD X ops&&okD X ops then match rcOps X ops true 0 ops.toList with
   |some l=>some (ops.size,l.zip (csD X ops))
   |none=>none
   else none
 |_=>none
end
section
variable [Stat]
variable {X:Cx}{ops:Array Oper}{base:Nat}
theorem rcOps_length {b:Bool}:∀(l:List Oper) (i:Nat) (r:List RO),rcOps X ops b i l=some r→r.length=l.length
 |[],i,r,h=>by simp only[rcOps] at h;cases h;rfl
 |o::l,i,r,h=>by
  simp only[rcOps] at h
  split at h
  ·rename_i g r' h1 h2
   cases h
   simp[rcOps_length l (i+1) r' h2]
  ·cases h
theorem ropsC_D {r:Env×St}:∀(l:List ROC) (e:Env) (s:St) (H:List St) (P:List Pb),ropsC X base l e s H P=some r→ropsD X base (l.map Prod.fst) e s=some r
 |[],e,s,H,P,h=>by
  simp only[ropsC] at h
  cases hb:pbsOk X base H P with
  |true=>rw[hb] at h;exact h
  |false=>rw[hb] at h;cases h
 |(o,c)::l,e,s,H,P,h=>by
  simp only[ropsC] at h
  simp only[List.map_cons,ropsD]
  split at h
  ·rename_i v s' hv
   rw[hv]
   simp only
   cases hb:(!o.w||noneC base s' l) with
   |false=>rw[hb] at h;cases h
   |true =>
    rw[hb] at h
    rw[if_pos (by exact hb)]
    exact ropsC_D l _ _ _ _ h
  ·cases h
theorem roStep {i:Nat}{o:Oper}{g:Option (Nat×Bool)}{e:Env}{s s1:St}{v:AV}(h1:rcG ops o.guard=some g)
  (hr:(bif wantR e g then rop X base (if true&&(cls X o.op).isA then some i else none) e s (rcOp X o.op) else some (undef,s))=some (v,s1)) :
  stepD X (execL X) ops base i o e s=some (setDst e o.dst v,s1):=by
 have hwant:=rcG_spec h1 e
 cases hw:wantR e g with
 |false =>
  rw[hw] at hr hwant
  simp only[cond_false] at hr
  cases hr
  simp only[stepD,←hwant,Bool.false_eq_true,if_false]
 |true =>
  rw[hw] at hr hwant
  simp only[cond_true,Bool.true_and] at hr
  simp only[stepD,←hwant,if_true]
  by_cases ha:(cls X o.op).isA=true
  ·rw[if_pos ha] at hr
   obtain⟨s2,e1,e2⟩:=rop_at (isA_iff.1 ha) hr
   rw[isA_iff.1 ha]
   simp only[e1,e2]
  ·rw[if_neg ha] at hr
   have:=rop_spec hr
   cases hk:cls X o.op <;> rw[hk] at ha <;> first|exact absurd rfl ha|simp only[this]
theorem addA_no {i m:Nat}{tr:List (Env×St)}{s:St}:∀(l:List Nat),(∀k∈l,bef ops k i=false)→addA ops base i m tr l s=s
 |[],_=>rfl
 |j::l,h=>by
  unfold addA
  rw[if_neg (by simp[h j (List.mem_cons_self ..)])]
  exact addA_no l fun k hk=>h k (List.mem_cons_of_mem _ hk)
theorem pbsOk_mem {H:List St}:∀(P:List Pb),pbsOk X base H P=true→∀p∈P,pbL X base p.e p.op p.v ((H.take (p.hi+1)).drop p.lo)=true
 |[],_,p,hp=>by simp at hp
 |q::P,h,p,hp=>by
  simp only[pbsOk,Bool.and_eq_true] at h
  rcases List.mem_cons.1 hp with rfl|hp
  ·exact h.1
  ·exact pbsOk_mem P h.2 p hp
theorem pbL_mem {e:Env}{op:ROp}{v:AV}:∀(l:List St),pbL X base e op v l=true→∀s∈l,pb1 v (rop X base none e s op)=true
 |[],_,s,hs=>by simp at hs
 |x::l,h,s,hs=>by
  simp only[pbL,Bool.and_eq_true] at h
  rcases List.mem_cons.1 hs with rfl|hs
  ·exact h.1
  ·exact pbL_mem l h.2 s hs
theorem probes (hlr:lateReg X ops=false):∀(l:List Oper) (i:Nat) (l':List ROC) (e:Env) (s:St) (H:List St) (P:List Pb) (r:Env×St) (tr:List (Env×St)),
  rcOps X ops true i l=some (l'.map Prod.fst)→ropsC X base l' e s H P=some r→goD X (execL X) ops base i l e s=some tr →
  ∃P',pbsOk X base (H++(wIdx X ops i l).map (fun j=>trS tr (j+1-i))) P'=true∧(∀p∈P,p∈P') ∧
   ∀(k:Nat) o q lo hi,l[k]? = some o→l'[k]? = some (q,some (lo,hi))→o.guard=none→cls X o.op=.r →
    ∃v,opA X (execL X) (trE tr k) o.op (trS tr k)=some (v,trS tr (k+1))∧(⟨lo,hi,trE tr k,rcOp X o.op,v⟩:Pb)∈P'
 |[],i,l',e,s,H,P,r,tr,h1,h2,h3=>by
  have hl':l'=[]:=by
   simp only[rcOps] at h1
   cases l' with
   |nil=>rfl
   |cons x y=>simp at h1
  subst hl'
  simp only[ropsC] at h2
  refine⟨P,?_,fun p hp=>hp,fun k o q lo hi hk=>by simp at hk⟩
  simp only[wIdx,List.map_nil,List.append_nil]
  cases hb:pbsOk X base H P with
  |true=>rfl
  |false=>rw[hb] at h2;cases h2
 |o::l,i,l',e,s,H,P,r,tr,h1,h2,h3=>by
  simp only[rcOps] at h1
  split at h1
  ·rename_i g r' e1 e2
   cases l' with
   |nil=>simp at h1
   |cons x l2 =>
    obtain⟨ro,c⟩:=x
    simp only[List.map_cons,Option.some.injEq,List.cons.injEq] at h1
    obtain⟨rfl,rfl⟩:=h1
    simp only[ropsC] at h2
    split at h2
    ·rename_i v s1 hv
     have hst:=roStep e1 hv
     simp only[goD,hst] at h3
     split at h3
     ·rename_i tr' g1
      cases h3
      cases hb:(!(true&&(cls X o.op).isW)||noneC base s1 l2) with
      |false=>rw[hb] at h2;cases h2
      |true =>
       rw[hb] at h2
       simp only[cond_true] at h2
       obtain⟨P',q1,q2,q3⟩:=probes hlr l (i+1) l2 _ s1 _ _ r tr' e2 h2 g1
       obtain⟨k1,k2,_⟩:=goD_spec _ _ _ _ _ g1
       have hts:∀n,trS ((e,s)::tr') (n+1)=trS tr' n:=fun n=>by simp[trS]
       have hte:∀n,trE ((e,s)::tr') (n+1)=trE tr' n:=fun n=>by simp[trE]
       have hs1:trS tr' 0=s1:=by simp[trS,k2]
       have hmap:(wIdx X ops (i+1) l).map (fun j=>trS ((e,s)::tr') (j+1-i))=(wIdx X ops (i+1) l).map (fun j=>trS tr' (j+1-(i+1))):=by
        refine List.map_congr_left fun j hj=>?_
        obtain⟨k,_,_,hjk,_⟩:=(wIdx_mem l (i+1) j).1 hj
        rw[show j+1-i=(j+1-(i+1))+1 by omega,hts]
       refine⟨P',?_,fun p hp=>q2 p (by unfold addP;split <;> simp[hp]),fun k o' q lo hi hk1 hk2 hg hc=>?_⟩
       ·have hlt:late X ops i=false:=by simp[late,hlr]
        simp only[wIdx,hlt,Bool.not_false,Bool.and_true]
        cases hw:(cls X o.op).isW with
        |true =>
         rw[hw] at q1
         simp only[if_true,List.map_cons]
         rw[hmap,show i+1-i=0+1 by omega,hts,hs1]
         simpa using q1
        |false =>
         rw[hw] at q1
         simp only[Bool.false_eq_true,if_false]
         rw[hmap]
         simpa using q1
       ·cases k with
        |zero =>
         simp at hk1 hk2
         obtain⟨_,rfl⟩:=hk2
         subst hk1
         have hgn:g=none:=by rw[hg] at e1;simp[rcG] at e1;exact e1.symm
         subst hgn
         simp only[wantR,cond_true,hc,Cls.isA,Bool.and_false,Bool.false_eq_true,if_false] at hv
         have:=rop_spec hv
         refine⟨v,?_,?_⟩
         ·rw[hts,hs1];exact this
         ·exact q2 _ (by simp[addP,trE])
        |succ k =>
         obtain⟨v',w1,w2⟩:=q3 k o' q lo hi (by simpa using hk1) (by simpa using hk2) hg hc
         refine⟨v',?_,?_⟩
         ·rw[hte,hts,hts];exact w1
         ·rw[hte];exact w2
     ·cases h3
    ·cases h2
  ·cases h1
theorem drc_spec {l:List RO}{e:Env}{s:St}{r:Env×St}(hrc:rcOps X ops true 0 ops.toList=some l)(hopen:openD X ops=true)(hokd:okD X ops=true)(hn:noneR s.next s l=true)
  (hrC:ropsC X s.next (l.zip (csD X ops)) e { s with next:=s.next+ops.size } [{ s with next:=s.next+ops.size }] []=some r):drawA X (execL X) ops e s=some r:=by
 have hok:=okD_ok hokd
 have hlen:l.length=ops.size:=by rw[rcOps_length _ _ _ hrc];simp
 have hz1:(l.zip (csD X ops)).map Prod.fst=l:=by rw[List.map_fst_zip];rw[hlen];simp[csD]
 have hr:ropsD X s.next l e { s with next:=s.next+ops.size }=some r:=by
  have:=ropsC_D _ _ _ _ _ hrC
  rw[hz1] at this;exact this
 unfold openD at hopen
 simp only[Bool.and_eq_true,Bool.not_eq_true',List.all_eq_true,List.mem_range] at hopen
 obtain⟨hlr,hall⟩:=hopen
 obtain⟨tr,g1,g2,g3⟩:=ropsD_go _ _ _ _ _ hrc hr
 obtain⟨P',hP1,_,hP2⟩:=probes hlr ops.toList 0 (l.zip (csD X ops)) e _ _ [] r tr (by rw[hz1];exact hrc) hrC g1
 obtain⟨k1,k2,k3⟩:=goD_spec _ _ _ _ _ g1
 have k1:tr.length=ops.size+1:=by simpa using k1
 have ht:Tr0 X (execL X) ops s.next (trE tr) (trS tr):=⟨fun i o ho=>by
  have:=k3 i o (by simpa using ho)
  simpa using this⟩
 have hS0:trS tr 0={ s with next:=s.next+ops.size }:=by simp[trS,k2]
 have hlate:∀i,late X ops i=false:=fun i=>by simp[late,hlr]
 have wmem:∀j,j∈wIdx X ops 0 ops.toList↔∃o,ops[j]? = some o∧cls X o.op=.w:=by
  intro j
  rw[wIdx_mem]
  constructor
  ·rintro⟨k,o,h1,rfl,h3⟩
   simp only[Bool.and_eq_true] at h3
   exact⟨o,by simpa using h1,isW_iff.1 h3.1⟩
  ·rintro⟨o,h1,h3⟩
   exact⟨j,o,by simpa using h1,by omega,by simp[isW_iff.2 h3,hlate]⟩
 have amem:∀j,kA X ops j→j∈aIdx X 0 ops.toList:=by
  have:∀(l:List Oper) (i k:Nat) o,l[k]? = some o→cls X o.op=.a→i+k∈aIdx X i l:=by
   intro l
   induction l with
   |nil=>intro i k o h;simp at h
   |cons x l ih =>
    intro i k o h hc
    unfold aIdx
    cases k with
    |zero=>simp at h;subst h;rw[if_pos (isA_iff.2 hc)];exact List.mem_cons_self ..
    |succ k =>
     have:=ih (i+1) k o (by simpa using h) hc
     rw[show i+(k+1)=i+1+k by omega]
     split
     ·exact List.mem_cons_of_mem _ this
     ·exact this
  rintro j ⟨o,ho,hc⟩
  have:=this ops.toList 0 j o (by simpa using ho) hc
  simpa using this
 have hsts:=statesD_ok (tr:=tr) (wIdx X ops 0 ops.toList) fun j hj=>by
  obtain⟨o,ho,_⟩:=(wmem j).1 hj
  have:=(Array.getElem?_eq_some_iff.1 ho).1
  omega
 unfold drawA
 rw[g1]
 simp only[hsts]
 have hnoneM:∀m,m=0∨(∃j,m=j+1∧j∈wIdx X ops 0 ops.toList)→∀i,m≤i→kA X ops i→(trS tr m).get (s.next+i)=none:=by
  rintro m (rfl|⟨j,rfl,hj⟩) i hi ⟨o,ho,hc⟩
  ·rw[hS0]
   have:=noneR_start _ _ _ hrc hn i o (by simpa using ho) (isA_iff.2 hc)
   rw[Nat.zero_add] at this
   exact this
  ·obtain⟨oj,hoj,hcj⟩:=(wmem j).1 hj
   have:=g3 j oj (by simpa using hoj) (isW_iff.2 hcj) i (by omega) o (by simpa using ho) (isA_iff.2 hc)
   simpa using this
 have hss:∀m s1,(m,s1)∈(0,({ s with next:=s.next+ops.size }:St))::((wIdx X ops 0 ops.toList).map fun j=>(j+1,trS tr (j+1)))→(m=0∨∃j,m=j+1∧j∈wIdx X ops 0 ops.toList)∧s1=trS tr m:=by
  intro m s1 hm
  rcases List.mem_cons.1 hm with e|hm
  ·cases e;exact⟨.inl rfl,hS0.symm⟩
  ·obtain⟨j,hj,e⟩:=List.mem_map.1 hm
   cases e
   exact⟨.inr ⟨j,rfl,hj⟩,rfl⟩
 have hnA:noneAll X ops s.next ((0,({ s with next:=s.next+ops.size }:St))::((wIdx X ops 0 ops.toList).map fun j=>(j+1,trS tr (j+1))))=true:=noneAll_of _ fun m s1 hm i hi hk=>by
  obtain⟨h1,rfl⟩:=hss m s1 hm
  exact hnoneM m h1 i hi hk
 have hchk:checkR X (execL X) ops s.next (wIdx X ops 0 ops.toList) (aIdx X 0 ops.toList) ((0,({ s with next:=s.next+ops.size }:St))::((wIdx X ops 0 ops.toList).map fun j=>(j+1,trS tr (j+1)))) tr 0 ops.toList tr=true:=by
  refine checkR_of _ _ _ fun i o es ho htr hw=>?_
  have ho':ops[i]? = some o:=by simpa using ho
  have hi:i<ops.size:=(Array.getElem?_eq_some_iff.1 ho').1
  have hes:es=(trE tr i,trS tr i):=by simp[trE,trS,htr]
  subst hes
  simp only at hw
  rw[Nat.zero_add]
  have hop:cls X o.op≠.a→∃v,opA X (execL X) (trE tr i) o.op (trS tr i)=some (v,trS tr (i+1)):=fun hne=>by
   rcases stepD_cases (ht.step i o ho') with⟨h1,_⟩|⟨_,v,_,⟨hc,_⟩|⟨_,h3⟩⟩
   ·rw[hw] at h1;cases h1
   ·exact absurd (isA_iff.1 hc) hne
   ·exact⟨v,h3⟩
  have hone:(cls X o.op=.r∨cls X o.op=.q)→calmI X ops i=true→∃m,rangeR ops (wIdx X ops 0 ops.toList) ((0,({ s with next:=s.next+ops.size }:St))::((wIdx X ops 0 ops.toList).map fun j=>(j+1,trS tr (j+1)))) i=[(m,trS tr m)] ∧
    addA ops s.next i m tr (aIdx X 0 ops.toList) (trS tr m)=trS tr i:=by
   intro hk hst'
   unfold calmI at hst'
   rw[Bool.and_eq_true] at hst'
   obtain⟨ha,hwb⟩:=hst'
   rw[List.all_eq_true] at ha hwb
   have hab:∀k,k<i→kA X ops k→bef ops k i=true:=fun k hki hka=>by
    have:=ha k (amem k hka)
    simpa[hki] using this
   have hbw:∀k∈wIdx X ops 0 ops.toList,(bef ops k i=true↔k<i)∧(bef ops i k=true↔i<k):=by
    intro k hkm
    have:=hwb k hkm
    simp only[Bool.or_eq_true] at this
    rcases this with h1|h1
    ·have:=hok.bef_lt i k h1
     refine⟨⟨fun _=>this,fun _=>h1⟩,⟨fun h2=>?_,fun h2=>by omega⟩⟩
     have:=hok.bef_lt k i h2;omega
    ·have:=hok.bef_lt k i h1
     refine⟨⟨fun h2=>?_,fun h2=>by omega⟩,⟨fun _=>this,fun _=>h1⟩⟩
     have:=hok.bef_lt i k h2;omega
   have hne:∀k∈wIdx X ops 0 ops.toList,k≠i:=fun k hkm e=>by
    obtain⟨o2,ho2,hc2⟩:=(wmem k).1 hkm
    rw[e,ho'] at ho2;cases ho2
    rcases hk with hk|hk <;> rw[hk] at hc2 <;> cases hc2
   have hcnt:countL (fun j=>!bef ops i j) (wIdx X ops 0 ops.toList)=countL (fun j=>bef ops j i) (wIdx X ops 0 ops.toList):=by
    refine Nat.le_antisymm (countL_mono _ fun x hx h=>?_) (countL_mono _ fun x hx h=>?_)
    ·have h1:bef ops i x=false:=by simpa using h
     refine ((hbw x hx).1).2 (Nat.lt_of_not_le fun hle=>?_)
     have:=((hbw x hx).2).2 (by have:=hne x hx;omega)
     rw[h1] at this;cases this
    ·have h1:=((hbw x hx).1).1 h
     simp only[Bool.not_eq_true']
     cases hb:bef ops i x with
     |false=>rfl
     |true=>have:=((hbw x hx).2).1 hb;omega
   unfold rangeR
   rw[hcnt]
   generalize hq:countL (fun j=>bef ops j i) (wIdx X ops 0 ops.toList)=q
   have hsort:=List.pairwise_iff_getElem.1 (wIdx_sorted (X:=X) (ops:=ops) ops.toList 0)
   have hql:q≤(wIdx X ops 0 ops.toList).length:=by
    rw[←hq]
    generalize wIdx X ops 0 ops.toList=L
    induction L with
    |nil=>exact Nat.le_refl _
    |cons x L ih=>simp only[countL,List.length_cons];split <;> omega
   have hfirst:∀n (hn:n<(wIdx X ops 0 ops.toList).length),(n<q↔(wIdx X ops 0 ops.toList)[n]<i):=by
    obtain⟨p,hp1,hp2,hp3⟩:∃p,p≤(wIdx X ops 0 ops.toList).length∧(∀n (hn:n<(wIdx X ops 0 ops.toList).length),n<p→(wIdx X ops 0 ops.toList)[n]<i)∧(∀n (hn:n<(wIdx X ops 0 ops.toList).length),p≤n→¬(wIdx X ops 0 ops.toList)[n]<i):=by
     rcases last_of (fun n=>∃hn:n<(wIdx X ops 0 ops.toList).length,(wIdx X ops 0 ops.toList)[n]<i) (wIdx X ops 0 ops.toList).length with h|⟨n0,h1,⟨h2,h3⟩,h4⟩
     ·exact⟨0,Nat.zero_le _,fun n _ hn=>by omega,fun n hn _ hlt=>h n hn ⟨hn,hlt⟩⟩
     ·refine⟨n0+1,h1,fun n hn hlt=>?_,fun n hn hle hlt=>h4 n (by omega) hn ⟨hn,hlt⟩⟩
      by_cases e:n=n0
      ·subst e;exact h3
      ·have:=hsort n n0 hn h2 (by omega);omega
    have hpq:p=q:=by
     rw[←hq]
     refine (countL_split _ p hp1 (fun x hx=>?_) (fun x hx=>?_)).symm
     ·obtain⟨n,hn,rfl⟩:=List.mem_iff_getElem.1 hx
      rw[List.getElem_take]
      have hn':n<p∧n<(wIdx X ops 0 ops.toList).length:=by rw[List.length_take] at hn;omega
      exact ((hbw _ (List.getElem_mem hn'.2)).1).2 (hp2 n hn'.2 hn'.1)
     ·obtain⟨n,hn,rfl⟩:=List.mem_iff_getElem.1 hx
      rw[List.getElem_drop]
      rw[List.length_drop] at hn
      have:=hp3 (p+n) (by omega) (by omega)
      cases hb:bef ops (wIdx X ops 0 ops.toList)[p+n] i with
      |false=>rfl
      |true=>exact absurd (((hbw _ (List.getElem_mem (by omega))).1).1 hb) this
    subst hpq
    exact fun n hn=>⟨hp2 n hn,fun hlt=>Nat.lt_of_not_le fun hle=>hp3 n hn hle hlt⟩
   have fin:∀m,(m=0∨∃j,m=j+1∧j∈wIdx X ops 0 ops.toList)→m≤i→(∀k∈wIdx X ops 0 ops.toList,k<i→k<m) →
     addA ops s.next i m tr (aIdx X 0 ops.toList) (trS tr m)=trS tr i:=fun m hm hmi hwm =>
    addA_here ht k1 hok hi hmi (fun k ok h1 h2 hok' hc=>by
     have:=hwm k ((wmem k).2 ⟨ok,hok',hc⟩) h2;omega) hab (fun k h1 h2=>hnoneM m hm k h1 h2)
   cases q with
   |zero =>
    refine⟨0,by simp[hS0],fin 0 (.inl rfl) (Nat.zero_le _) fun k hkm hki=>?_⟩
    obtain⟨n,hn,rfl⟩:=List.mem_iff_getElem.1 hkm
    have:=(hfirst n hn).2 hki;omega
   |succ q =>
    have hqn:q<(wIdx X ops 0 ops.toList).length:=by omega
    have hqi:=(hfirst q hqn).1 (by omega)
    refine⟨(wIdx X ops 0 ops.toList)[q]+1,?_,fin _ (.inr ⟨_,rfl,List.getElem_mem _⟩) (by omega) fun k hkm hki=>?_⟩
    ·rw[List.drop_take]
     rw[show q+1+1-(q+1)=1 by omega,List.drop_succ_cons,List.drop_eq_getElem_cons (by simpa using hqn)]
     simp
    ·obtain⟨n,hn,rfl⟩:=List.mem_iff_getElem.1 hkm
     have hnq:=(hfirst n hn).2 hki
     by_cases e:n=q
     ·subst e;omega
     ·have:=hsort n q hn hqn (by omega);omega
  have hcase:=hall i hi
  rw[ho'] at hcase
  simp only at hcase
  refine⟨fun hk=>?_,fun hk=>?_⟩
  ·cases hcm:calmI X ops i with
   |true =>
    obtain⟨v,hv⟩:=hop (by rw[hk];simp)
    obtain⟨m,hm1,hm2⟩:=hone (.inl hk) hcm
    refine⟨v,_,hv,?_⟩
    rw[hm1]
    simp only[readsSame,hm2,hv,same_refl,Bool.and_self]
   |false =>
    rw[hk,hcm] at hcase
    simp only[Cls.isR,Bool.true_or,Bool.not_true,Bool.false_or,Bool.true_and,Bool.and_eq_true,Option.isNone_iff_eq_none,List.all_eq_true,Bool.not_eq_true'] at hcase
    obtain⟨hgn,hno⟩:=hcase
    have hcs:(l.zip (csD X ops))[i]? = some ((l[i]'(by omega)),some (countL (fun j=>bef ops j i) (wIdx X ops 0 ops.toList),countL (fun j=>!bef ops i j) (wIdx X ops 0 ops.toList))):=by
     rw[List.getElem?_zip_eq_some]
     refine⟨by simp[List.getElem?_eq_getElem (show i<l.length by omega)],?_⟩
     simp only[csD,List.getElem?_map,List.getElem?_range hi,Option.map_some,opC,ho',hk,hcm,Cls.isR]
     rfl
    obtain⟨v,hv,hmem⟩:=hP2 i o _ _ _ (by simpa using ho') hcs hgn hk
    refine⟨v,_,hv,?_⟩
    have hpl:=pbsOk_mem _ hP1 _ hmem
    simp only at hpl
    have hrng:∀x∈rangeR ops (wIdx X ops 0 ops.toList) ((0,({ s with next:=s.next+ops.size }:St))::((wIdx X ops 0 ops.toList).map fun j=>(j+1,trS tr (j+1)))) i,pb1 v (rop X s.next none (trE tr i) x.2 (rcOp X o.op))=true:=by
     intro x hx
     refine pbL_mem _ hpl x.2 ?_
     have:(([{ s with next:=s.next+ops.size }]:List St)++(wIdx X ops 0 ops.toList).map (fun j=>trS tr (j+1-0)))=((0,({ s with next:=s.next+ops.size }:St))::((wIdx X ops 0 ops.toList).map fun j=>(j+1,trS tr (j+1)))).map Prod.snd:=by
      simp[Function.comp_def]
     rw[this,←List.map_take,←List.map_drop]
     exact List.mem_map_of_mem hx
    generalize rangeR ops (wIdx X ops 0 ops.toList) ((0,({ s with next:=s.next+ops.size }:St))::((wIdx X ops 0 ops.toList).map fun j=>(j+1,trS tr (j+1)))) i=L at hrng
    induction L with
    |nil=>rfl
    |cons x L ih =>
     obtain⟨m,s1⟩:=x
     have h0:=hrng (m,s1) (List.mem_cons_self ..)
     simp only[readsSame]
     rw[addA_no _ hno]
     unfold pb1 at h0
     split at h0
     ·rename_i u s2 hu
      simp only at hu
      simp only[rop_spec hu,h0,Bool.true_and]
      exact ih fun x hx=>hrng x (List.mem_cons_of_mem _ hx)
     ·cases h0
  ·cases hcm:calmI X ops i with
   |true =>
    obtain⟨v,hv⟩:=hop (by rw[hk];simp)
    obtain⟨m,hm1,hm2⟩:=hone (.inr hk) hcm
    obtain⟨_,c,vs,us,e1,e2,e3,_⟩:=cls_c hk hv
    refine⟨c,vs,us,e1,e2,e3,?_⟩
    rw[hm1]
    simp only[argsSame,hm2,e3,sames_refl,Bool.and_self]
   |false =>
    rw[hk,hcm] at hcase
    simp[Cls.isR] at hcase
 rw[lateIds_nil hlr]
 simp only[lateOk,hchk,hnA,Bool.and_self,if_true]
 exact g2
end
section
variable (X:Cx){β:Type}(back:β)(fin:Fl→β)(ks:List K)
noncomputable def goC (base:Nat)(l:List ROC)(e:Env)(s:St)(H:List St)(P:List Pb):β:=match ropsC X base l e s H P with
 |some (e,s)=>goN X fin ks e s
 |none=>back
noncomputable def bndC (base:Nat)(x:Option (AV×St))(d:Option Nat)(w:Bool)(c:Option (Nat×Nat))(op:ROp)(l:List ROC)(e:Env)(H:List St)(P:List Pb):β:=match x with
 |some (v,s)=>bif !w||noneC base s l then goC X back fin ks base l (setDst e d v) s (bif w then H++[s] else H) (addP c e op v P) else back
 |none=>back
noncomputable def backC (c:Code)(e:Env)(s:St):β:=pop X fin ks (execL X c e s)
variable (base:Nat)(e:Env)(s:St)(H:List St)(P:List Pb)(l:List ROC)
theorem goC_nil:goC X back fin ks base [] e s H P=bif pbsOk X base H P then goN X fin ks e s else back:=by
 simp only[goC,ropsC]
 cases pbsOk X base H P <;> rfl
theorem goC_cons (d:Option Nat)(a:Option Nat)(w:Bool)(op:ROp)(c:Option (Nat×Nat)) :
  goC X back fin ks base ((⟨d,none,a,w,op⟩,c)::l) e s H P=bndC X back fin ks base (rop X base a e s op) d w c op l e H P:=by
 simp only[goC,ropsC,bndC,wantR,cond_true]
 cases rop X base a e s op with
 |none=>rfl
 |some x =>
  simp only
  cases (!w||noneC base x.2 l) <;> rfl
theorem bndC_some0 (v:AV)(d:Option Nat)(op:ROp):bndC X back fin ks base (some (v,s)) d false none op l e H P=goC X back fin ks base l (setDst e d v) s H P:=(fun h=>h) rfl
theorem bndC_some0c (v:AV)(d:Option Nat)(lo hi:Nat)(op:ROp):bndC X back fin ks base (some (v,s)) d false (some (lo,hi)) op l e H P=goC X back fin ks base l (setDst e d v) s H (⟨lo,hi,e,op,v⟩::P):=(fun h=>h) rfl
theorem bndC_some1 (v:AV)(d:Option Nat)(op:ROp):bndC X back fin ks base (some (v,s)) d true none op l e H P=bif noneC base s l then goC X back fin ks base l (setDst e d v) s (H++[s]) P else back:=(fun h=>h) rfl
theorem noneC_nil:noneC base s []=true:=(fun h=>h) rfl
theorem noneC_cons0 (d:Option Nat)(g:Option (Nat×Bool))(w:Bool)(op:ROp)(c:Option (Nat×Nat)):noneC base s ((⟨d,g,none,w,op⟩,c)::l)=noneC base s l:=by
 simp[noneC,noneR]
theorem noneC_cons1 (i:Nat)(d:Option Nat)(g:Option (Nat×Bool))(w:Bool)(op:ROp)(c:Option (Nat×Nat)):noneC base s ((⟨d,g,some i,w,op⟩,c)::l)=((s.get (base+i)).isNone&&noneC base s l):=by
 simp[noneC,noneR]
theorem pbsOk_nil:pbsOk X base H []=true:=(fun h=>h) rfl
theorem pbsOk_cons (lo hi:Nat)(op:ROp)(v:AV):pbsOk X base H (⟨lo,hi,e,op,v⟩::P)=(pbL X base e op v ((H.take (hi+1)).drop lo)&&pbsOk X base H P):=(fun h=>h) rfl
theorem pbL_nil (op:ROp)(v:AV):pbL X base e op v []=true:=(fun h=>h) rfl
theorem pbL_cons (op:ROp)(v:AV)(L:List St):pbL X base e op v (s::L)=(pb1 v (rop X base none e s op)&&pbL X base e op v L):=(fun h=>h) rfl
def pbO (v:AV)(x:Option AV):Bool:=match x with
 |some u=>same u v
 |none=>false
theorem pb1_pure (v:AV)(x:Option AV):pb1 v (pureO x s)=pbO v x:=by cases x <;> rfl
theorem pbO_some (u v:AV):pbO v (some u)=same u v:=(fun h=>h) rfl
theorem pb_ldn (v:AV)(n:Nat)(x:Opd):pb1 v (rop X base none e s (.ldn n x))=pbO v (ldn n (evO e x) s):=pb1_pure s v _
theorem app_cons {α:Type}(x:α)(l m:List α):(x::l)++m=x::(l++m):=(fun h=>h) rfl
theorem app_nil {α:Type}(m:List α):([]:List α)++m=m:=(fun h=>h) rfl
theorem go_drc [Stat] {c:Code}{n:Nat}{l:List ROC}(h:rcDrc X c=some (n,l))(fin:Fl→β)(ks:List K)(e:Env)(s:St):go X fin ks (.raw c) e s =
  bif noneC s.next s l then goC X (backC X fin ks c e s) fin ks s.next l e { s with next:=s.next+n } [{ s with next:=s.next+n }] [] else backC X fin ks c e s:=by
 unfold rcDrc at h
 split at h
 ·rename_i id ops d
  split at h
  ·rename_i hc
   simp only[Bool.and_eq_true] at hc
   split at h
   ·rename_i l0 hl
    cases h
    have hz:noneC s.next s (l0.zip (csD X ops))=noneR s.next s l0:=by
     unfold noneC
     rw[List.map_fst_zip]
     rw[rcOps_length _ _ _ hl];simp[csD]
    rw[hz]
    cases hn:noneR s.next s l0 with
    |false=>rfl
    |true =>
     simp only[cond_true,goC]
     split
     ·rename_i e1 s1 h1
      have:=drc_spec hl hc.1.2 hc.2 hn h1
      simp only[go,den,goN]
      rw[execL_eq]
      simp only[stepA,hc.1.1,if_true,this]
     ·rfl
   ·cases h
  ·cases h
 ·cases h
end
@[congr] theorem bndC_congr {X:Cx} {β:Type} {back:β} {fin:Fl→β} {ks:List K} {base:Nat} {x x':Option (AV×St)} {d:Option Nat} {w:Bool} {c:Option (Nat×Nat)} {op:ROp} {l:List ROC} {e:Env} {H:List St} {P:List Pb} (h:x=x'):bndC X back fin ks base x d w c op l e H P=bndC X back fin ks base x' d w c op l e H P:=by rw[h]
attribute [go_sem ↓] goC_nil goC_cons bndC_some0 bndC_some0c bndC_some1 noneC_nil noneC_cons0 noneC_cons1 pbsOk_nil pbsOk_cons pbL_nil pbL_cons pb_ldn app_cons app_nil List.take_succ_cons List.take_zero List.drop_succ_cons List.drop_zero
attribute [go_sem] pbO_some same_refl
end Go.Am
namespace Go.Am
open Go
variable [MaxLen]
set_option maxRecDepth 100000
set_option maxHeartbeats 8000000
def raws:RC→List Code
 |.seq a b=>raws a++raws b
 |.cond _ a b=>raws a++raws b
 |.block _ b=>raws b
 |.loop b=>raws b
 |.raw c=>[c]
 |_=>[]
noncomputable def rawAt (f k:Nat):Code:=match U.fn f with
 |some fn=>match fn.body with
  |some c=>((raws (rc U c))[k]?).getD .skip
  |none=>.skip
 |none=>.skip
def r36:RC:=(.seq (.ops [o 8 (.mov (.v (.bool false)))]) (.seq (.seq (.ops [om 9 2,o 10 (.bin .neq 3 true (.t 9) (.v (.int .i64 0)))]) (.cond (.t 10) (.seq (.ops [om 11 0,o 12 (.lenL (.t 11)),o 13 (.bin .eql 3 true (.t 12) (.v (.int .i64 0))),om 14 13,oT 15 14 (.mov (.t 1)),oT 16 14 (.mov (.t 2)),oT 17 14 (.bin .eql 3 false (.t 15) (.t 16)),o 18 (.pick (.t 14) (.t 17) (.v (.bool false))),om 8 18]) .ret) .skip)) (.seq (.ops [om 19 1,o 20 (.bin .eql 26 true (.t 19) (.v (.int .i64 0))),om 21 20,oT 22 21 (.mov (.t 0)),oT 23 21 (.mov (.t 3)),oT 24 21 (.call 56 [(.t 22),(.t 23)]),o 25 (.pick (.t 21) (.t 24) (.v (.bool false))),om 8 25]) .ret)))
theorem k36:fnRC 36=some ([.tmp 8],r36):=by kernel_rfl
def r56:RC:=(.seq (.ops [o 4 (.mov (.v (.bool false)))]) (.seq (.ops [om 5 0,om 6 1,o 7 (.call 109 [(.t 5),(.t 6)]),om 4 7]) .ret))
theorem k56:fnRC 56=some ([.tmp 4],r56):=by kernel_rfl
def r109_l0:RC:=(.seq (.seq (.ops [om 11 5,om 12 0,o 13 (.lenL (.t 12)),o 14 (.bin .lss 3 false (.t 11) (.t 13))]) (.cond (.t 14) .skip (.exit 0))) (.seq (.block 1 (.seq (.drw 9 [om 17 0,om 18 5,o 19 (.ixa 1 (.t 17) (.t 18)),o 20 (.ld1 (.t 19)),om 21 1,om 22 5,o 23 (.ixa 1 (.t 21) (.t 22)),o 24 (.ld1 (.t 23)),o 25 (.bin .neq 3 false (.t 20) (.t 24))]) (.cond (.t 25) (.seq (.ops [o 4 (.mov (.v (.bool false)))]) .ret) .skip))) (.ops [om 15 5,o 16 (.bin .add 3 true (.t 15) (.v (.int .i64 1))),om 5 16])))
def r109:RC:=(.seq (.ops [o 4 (.mov (.v (.bool false)))]) (.seq (.seq (.ops [om 6 0,o 7 (.lenL (.t 6)),om 8 1,o 9 (.lenL (.t 8)),o 10 (.bin .neq 3 false (.t 7) (.t 9))]) (.cond (.t 10) (.seq (.ops [o 4 (.mov (.v (.bool false)))]) .ret) .skip)) (.seq (.seq (.ops [o 5 (.mov (.v (.int .i64 0)))]) (.block 0 (.loop r109_l0))) (.seq (.ops [o 4 (.mov (.v (.bool true)))]) .ret))))
theorem k109:fnRC 109=some ([.tmp 4],r109):=by kernel_rfl
def r125:RC:=(.seq (.ops [o 4 (.mov (.v (.bool false)))]) (.seq (.ops [om 5 0,om 6 1,o 7 (.call 179 [(.t 5),(.t 6)]),o 8 (.bin .geq 3 true (.t 7) (.v (.int .i64 0))),om 4 8]) .ret))
theorem k125:fnRC 125=some ([.tmp 4],r125):=by kernel_rfl
def r179_l0:RC:=(.seq (.ops [o 9 (.bin .lss 3 false (.t 8) (.t 7))]) (.seq (.cond (.t 9) .skip (.exit 0)) (.seq (.block 1 (.seq (.ops [om 10 8,om 5 10]) (.seq (.ops [om 11 1,om 12 0,om 13 5,o 14 (.ixa 1 (.t 12) (.t 13)),o 15 (.ld1 (.t 14)),o 16 (.callv (.t 11) [(.t 15)])]) (.cond (.t 16) (.seq (.ops [om 17 5,om 4 17]) .ret) .skip)))) (.ops [o 18 (.bin .add 3 true (.t 8) (.v (.int .i64 1))),om 8 18]))))
def r179:RC:=(.seq (.ops [o 4 (.mov (.v (.int .i64 0)))]) (.seq (.seq (.ops [om 6 0,o 7 (.lenL (.t 6)),o 8 (.mov (.v (.int .i64 0)))]) (.block 0 (.loop r179_l0))) (.seq (.ops [o 4 (.mov (.v (.int .i64 (-1))))]) .ret)))
theorem k179:fnRC 179=some ([.tmp 4],r179):=by kernel_rfl
end Go.Am
namespace Go.Am
open Go
variable [MaxLen]
set_option maxRecDepth 100000
def r94:RC:=(.seq (.ops [o 6 (.mov (.v (.bool false)))]) (.seq (.ops [om 7 0,om 8 1,o 9 (.bin .lss 3 false (.t 7) (.t 8)),om 10 9,oF 11 10 (.mov (.t 0)),oF 12 10 (.mov (.t 2)),oF 13 10 (.bin .gtr 3 false (.t 11) (.t 12)),o 14 (.pick (.t 10) (.v (.bool true)) (.t 13)),om 6 14]) .ret))
theorem k94:fnRC 94=some ([.tmp 6],r94):=by kernel_rfl
def r116:RC:=(.seq (.ops [o 4 (.mov (.v (.int .i64 0)))]) (.seq (.seq (.ops [om 5 0]) (.cond (.t 5) (.seq (.ops [om 6 1,om 4 6]) .ret) .skip)) (.seq (.ops [o 4 (.mov (.v (.int .i64 0)))]) .ret)))
theorem k116:fnRC 116=some ([.tmp 4],r116):=by kernel_rfl
def r124:RC:=(.seq (.ops [o 6 (.mov (.v (.int .i64 0)))]) (.seq (.ops [om 7 0,om 8 1,o 9 (.bin .lss 3 false (.t 7) (.t 8)),om 10 9,oF 11 10 (.mov (.t 0)),oF 12 10 (.mov (.t 2)),oF 13 10 (.bin .gtr 3 false (.t 11) (.t 12)),o 14 (.pick (.t 10) (.v (.bool true)) (.t 13)),o 15 (.call 116 [(.t 14),(.v (.int .i64 3))]),om 6 15]) .ret))
theorem k124:fnRC 124=some ([.tmp 6],r124):=by kernel_rfl
def r89_l0:RC:=(.seq (.ops [o 8 (.bin .lss 3 false (.t 7) (.t 6))]) (.seq (.cond (.t 8) .skip (.exit 0)) (.seq (.block 1 (.seq (.ops [o 9 (.ixa 1 (.t 5) (.t 7)),o 10 (.ld1 (.t 9)),om 4 10]) (.seq (.ops [om 11 4,o 12 (.bin .neq 26 true (.t 11) (.v (.int .i64 0)))]) (.cond (.t 12) (.seq (.ops [om 13 4,om 2 13]) .ret) .skip)))) (.ops [o 14 (.bin .add 3 true (.t 7) (.v (.int .i64 1))),om 7 14]))))
def r89:RC:=(.seq (.ops [o 2 (.mov (.v (.int .i64 0)))]) (.seq (.seq (.ops [om 5 0,o 6 (.lenL (.t 5)),o 7 (.mov (.v (.int .i64 0)))]) (.block 0 (.loop r89_l0))) (.seq (.ops [o 2 (.mov (.v (.int .i64 0)))]) .ret)))
theorem k89:fnRC 89=some ([.tmp 2],r89):=by kernel_rfl
end Go.Am
namespace Go.Am
open Go Go.Proofs
variable [MaxLen]
set_option maxRecDepth 100000
theorem ld_116 (a:AV)(s:St):loadA U 116 a s=ldn 2 a s:=loadA_n U ag_116 sz_116 a s
theorem gateV_false (x:Option AV)(s:St):gateV false x s=some (undef,s):=(fun h=>h) rfl
theorem gateC_false (X:Cx)(x:Option AV)(f:FuncId)(args:List AV)(s:St):gateC X false x f args s=some (undef,s):=(fun h=>h) rfl
def St.upto (s:St)(k:Nat):St:={ s with next:=k }
theorem upto_get (s:St)(k j:Nat):(s.upto k).get j=s.get j:=(fun h=>h) rfl
theorem upto_next (s:St)(k:Nat):(s.upto k).next=k:=(fun h=>h) rfl
theorem go_drw_upto {X:Cx}{β:Type}(fin:Fl→β)(ks:List K)(e:Env)(s:St)(n:Nat)(l:List RO):go X fin ks (.drw n l) e s=bif noneR s.next s l then goD' X fin ks s.next l e (s.upto (s.next+n)) else stuck X fin ks:=go_drw X fin ks e s n l
theorem gb_none {n:Nat}(h:4≤n):U.gbase n=none:=by
 rw[U_gbase];unfold gbU gcell
 match n,h with
 |n+4,_=>rfl
def Fr (s:St):Prop:=∀j,s.next≤j→s.get j=none
theorem Fr.at {s:St}(h:Fr s)(k:Nat):s.get (s.next+k)=none:=h _ (by omega)
theorem Fr.own:Fr (ownSt U):=fun j hj=>by
 rw[own_get];rw[own_next,U_glob] at hj;exact gb_none (by omega)
theorem Fr.new {s:St}(h:Fr s)(x:Blk):Fr (s.new x):=fun j hj=>by
 rw[next_new] at hj;rw[get_new,if_neg (by omega)];exact h j (by omega)
theorem Fr.put {s:St}(h:Fr s){k:Nat}(hk:k<s.next)(x:Blk):Fr (s.put k x):=fun j hj=>by
 rw[next_put] at hj;rw[get_put,if_neg (by omega)];exact h j (by omega)
theorem Fr.upto {s:St}(h:Fr s){k:Nat}(hk:s.next≤k):Fr (s.upto k):=fun j hj=>by
 rw[upto_next] at hj;rw[upto_get];exact h j (by omega)
attribute [go_sem ↓ high] go_drw_upto
attribute [go_sem ↓] upto_get upto_next
attribute [go_sem] gb_none Option.isNone_none
attribute [go_sem ↓] gateV_false gateC_false
attribute [go_sem] ld_116
end Go.Am
namespace Go.Am
open Go
inductive Kd where
 |high|low|rise|fall|pattern|enter|pulse|gap|idle|setup|runt|not_|all_|any_|other
 deriving DecidableEq
structure Uses where
 a:Bool
 b:Bool
 mi:Bool
 ma:Bool
 pat:Bool
 kids:Bool
def Kd.known:Kd→Bool
 |.other=>false
 |_=>true
def outside (n a b:Int):Bool:=decide (n<a)||decide (n>b)
def firstOf:List Int→Int
 |[]=>0
 |e::l=>br (e != 0) e (firstOf l)
def within (n a b:Int):Int:=br (decide (n<a)||decide (n>b)) 3 0
theorem br_r {β:Type}{p:Bool}{x y y':β}(h:p=false→y=y'):br p x y=br p x y':=by
 cases p
 ·rw[h rfl]
 ·rfl
end Go.Am
namespace Go.Am
open Go
variable [MaxLen]
set_option maxRecDepth 100000
set_option maxHeartbeats 4000000
theorem br_int (k:IntKind)(p:Bool)(x y:Int):br p (AV.int k x) (AV.int k y)=.int k (br p x y):=by cases p <;> rfl
attribute [go_sem] br_int
theorem c94 (n a b:Int):calV U 94 [.int .i64 n,.int .i64 a,.int .i64 b]=some (.bool (outside n a b)):=by
 refine pure_go k94 (by kernel_rfl) rfl ?_
 simp +contextual only[go_sem,↓reduceIte,r94]
 rfl
theorem c116 (p:Bool)(n:Int):calV U 116 [.bool p,.int .i64 n]=some (.int .i64 (br p n 0)):=by
 refine pure_go k116 (by kernel_rfl) rfl ?_
 simp +contextual only[go_sem,↓reduceIte,r116]
theorem c124 (n a b:Int):calV U 124 [.int .i64 n,.int .i64 a,.int .i64 b]=some (.int .i64 (within n a b)):=by
 refine pure_go k124 (by kernel_rfl) rfl ?_
 simp +contextual only[go_sem,↓reduceIte,r124,c116]
 rfl
theorem loop_to {X:Cx}{β:Type}{fin:Fl→β}{ks:List K} [Stat] {b:RC}{σ:Type}(m:σ→Nat)(R:σ→β)(I:σ→Env→St→Prop)(x:σ){r:β}{e:Env}{s:St}
  (h:∀(L:RC) (x:σ) (e:Env) (s:St),I x e s→(∀(y:σ) (e':Env) (s':St),m y<m x→I y e' s'→goL X fin ks L e' s'=R y)→go X fin (.lp L::ks) b e s=R x)
  (hr:R x=r)(hI:I x e s):goL X fin ks b e s=r:=by
 rw[←hr];exact loop_rule X fin ks m I R h x hI
theorem ints_len (l:List Int):(ints l).length=l.length:=by simp[ints]
theorem ints_get (l:List Int)(i:Nat):(ints l)[i]? = (l[i]?).map (.int .i64 ·):=by simp[ints]
theorem nat_lt_dec (a b:Nat):decide ((a:Int)<(b:Int))=decide (a<b):=by congr 1;apply propext;omega
theorem g89 (l:List Int)(hlen:l.length<2^62):go U (finP U [.tmp 2]) [] r89 (bindArgs 0 [.fz (ints l)] .nil) (ownSt U)=some (.int .i64 (firstOf l)):=by
 simp +contextual only[go_sem,↓reduceIte,r89]
 refine loop_to (σ:=Nat) (fun i=>l.length-i) (fun i=>some (AV.int .i64 (firstOf (l.drop i)))) (fun i e s=>i≤l.length∧Env.get e 5=.fz (ints l)∧Env.get e 6=.int .i64 l.length∧Env.get e 7=.int .i64 i) 0 ?_ rfl ?_
 ·rintro L i e s ⟨hi,h5,h6,h7⟩ ih
  by_cases hd:i<l.length
  ·have hx:(ints l)[i]? = some (.int .i64 l[i]):=by rw[ints_get,List.getElem?_eq_getElem hd];rfl
   have hw:IntKind.i64.wrap ((i:Int)+1)=((i+1:Nat):Int):=by rw[wrap_i64] <;> omega
   simp +contextual only[go_sem,↓reduceIte,r89_l0,h5,h6,h7,nat_lt_dec,hd,hx]
   rw[List.drop_eq_getElem_cons hd,firstOf]
   cases hb:l[i] != 0
   ·simp only[go_sem,hw]
    refine ih (i+1) _ _ (by omega) ⟨by omega,?_,?_,?_⟩ <;> simp +contextual only[go_sem,↓reduceIte,h5,h6,h7,hw]
   ·simp only[go_sem]
  ·have:i=l.length:=by omega
   subst this
   simp +contextual only[go_sem,↓reduceIte,r89_l0,h5,h6,h7,nat_lt_dec,Nat.lt_irrefl]
   rw[List.drop_length];rfl
 ·refine⟨Nat.zero_le _,?_,?_,?_⟩ <;> simp +contextual only[go_sem,↓reduceIte,ints_len] <;> rfl
theorem Cond.ind {P:Cond→Prop}(h:∀k a b mi ma p nl kids,(∀x∈kids,P x)→P (.mk k a b mi ma p nl kids)):∀c,P c:=by
 intro c
 exact Cond.rec (motive_1:=P) (motive_2:=fun l=>∀x∈l,P x) (fun k a b mi ma p nl kids ih=>h k a b mi ma p nl kids ih) (fun x hx=>by cases hx)
  (fun c l h1 h2 x hx=>by
   rcases List.mem_cons.1 hx with rfl|hx
   ·exact h1
   ·exact h2 x hx) c
theorem wrap_succ {i n:Nat}(h:i<n)(hn:n<2^62):IntKind.i64.wrap ((i:Int)+1)=((i+1:Nat):Int):=by rw[wrap_i64] <;> omega
end Go.Am
namespace Go.Am
open Go
variable [MaxLen]
set_option maxRecDepth 100000
set_option maxHeartbeats 8000000
theorem brI_some (k:IntKind)(p:Bool)(x y:Int):some (AV.int k (br p x y))=br p (some (.int k x)) (some (.int k y)):=by cases p <;> rfl
end Go.Am
namespace Go.Am
open Go
variable [MaxLen]
set_option maxRecDepth 100000
end Go.Am
namespace Go.Am
open Go
variable [MaxLen]
set_option maxRecDepth 100000
set_option maxHeartbeats 8000000
def lookK (X:Cx)(t:TypeId)(ok:Bool)(m k:Option AV)(s:St):Option (AV×St):=match m,k with
 |some m,some k=>pureO (lookupA X t m k ok s) s
 |_,_=>none
theorem opA_lookup (X:Cx)(ex:Ex)(e:Env)(s:St)(t:TypeId)(m k:Operand)(ok:Bool):opA X ex e (.lookup t m k ok) s=lookK X t ok (eval X e m) (eval X e k) s:=by
 unfold lookK
 simp only[opA]
 rfl
theorem lookK_some (X:Cx)(t:TypeId)(ok:Bool)(m k:AV)(s:St):lookK X t ok (some m) (some k) s=pureO (lookupA X t m k ok s) s:=(fun h=>h) rfl
attribute [go_sem] opA_lookup lookK_some
theorem cz_of {f:FuncId}{us:List AV}{v:AV}(h:calV U f us=some v)(hp:isPure f=true)(hst:stills us=true)(hf:flat v=true)(s:St):calZ U f (some us) s=some (v,s):=by
 have h:=calV_eq h (ownSt U)
 obtain⟨p1,p2⟩:=isPure_of hp
 unfold cal callF at h
 rw[p2] at h
 simp only[p1,if_true,callP,frzArgs,hst] at h
 split at h
 ·rename_i w hq
  cases h
  refine calZ_some U s ?_
  unfold callQ at hq ⊢
  split at hq
  ·rename_i v0 s' hB
   simp only[if_true] at hq
   have:=flat_frz s' _ _ _ hq hf
   subst this
   simp[hf]
  ·cases hq
 ·cases h
theorem cz89 (l:List Int)(hl:l.length<2^62)(s:St):calZ U 89 (some [.fz (ints l)]) s=some (.int .i64 (firstOf l),s) :=
 cz_of (pure_go k89 (by kernel_rfl) (by simp[stills,still]) (g89 l hl)) (by kernel_rfl) (by simp[stills,still]) rfl s
theorem cz89_2 (a b:Int)(s:St):calZ U 89 (some [.fz [.int .i64 a,.int .i64 b]]) s=some (.int .i64 (firstOf [a,b]),s):=cz89 [a,b] (by simp) s
theorem cz89_3 (a b c:Int)(s:St):calZ U 89 (some [.fz [.int .i64 a,.int .i64 b,.int .i64 c]]) s=some (.int .i64 (firstOf [a,b,c]),s):=cz89 [a,b,c] (by simp) s
theorem cz89_4 (a b c d:Int)(s:St):calZ U 89 (some [.fz [.int .i64 a,.int .i64 b,.int .i64 c,.int .i64 d]]) s=some (.int .i64 (firstOf [a,b,c,d]),s):=cz89 [a,b,c,d] (by simp) s
theorem z89 {args:List AV}{s:St}(h:stills args=false):callK U (calV U 89 args) 89 args s=calZ U 89 (mapO (frz U s 40) args) s:=z_of (by kernel_rfl) s h
def r25_l0:RC:=(.seq (.seq (.ops [om 4 3,om 5 0,o 6 (.lenL (.t 5)),o 7 (.bin .lss 3 false (.t 4) (.t 6))]) (.cond (.t 7) .skip (.exit 0))) (.seq (.block 1 (.seq (.ops [om 10 0,om 11 3,o 12 (.ixa 1 (.t 10) (.t 11)),o 13 (.ld1 (.t 12)),o 14 (.bin .neq 3 true (.t 13) (.v (.int .i64 0)))]) (.cond (.t 14) (.seq (.ops [om 15 0,om 16 3,o 17 (.ixa 1 (.t 15) (.t 16)),o 18 (.ld1 (.t 17)),om 2 18]) .ret) .skip))) (.ops [om 8 3,o 9 (.bin .add 3 true (.t 8) (.v (.int .i64 1))),om 3 9])))
def r25:RC:=(.seq (.ops [o 2 (.mov (.v (.int .i64 0)))]) (.seq (.seq (.ops [o 3 (.mov (.v (.int .i64 0)))]) (.block 0 (.loop r25_l0))) (.seq (.ops [o 2 (.mov (.v (.int .i64 0)))]) .ret)))
theorem k25:fnRC 25=some ([.tmp 2],r25):=by kernel_rfl
def r37:RC:=(.seq (.ops [o 4 (.mov (.v (.int .i64 0)))]) (.seq (.seq (.ops [om 5 0]) (.cond (.t 5) (.seq (.ops [om 6 1,om 4 6]) .ret) .skip)) (.seq (.ops [o 4 (.mov (.v (.int .i64 0)))]) .ret)))
theorem k37:fnRC 37=some ([.tmp 4],r37):=by kernel_rfl
def r49:RC:=(.seq (.ops [o 2 (.box 72 (.t 0)),o 3 (.box 72 (.t 1)),o 4 (.mov (.v (.int .i64 0)))]) (.seq (.drw 13 [o 5 (.ldn 3 (.t 2)),o 6 (.call 50 [(.t 5)]),o 7 (.ldn 3 (.t 3)),o 8 (.call 50 [(.t 7)]),o 9 (.fa 0 (.t 2)),o 10 (.ld1 (.t 9)),o 11 (.fa 0 (.t 3)),o 12 (.ld1 (.t 11)),o 13 (.bin .neq 3 false (.t 10) (.t 12)),o 14 (.call 37 [(.t 13),(.v (.int .i64 2))]),
 ⟨some 15,none,some 10,false,.bsl 3 1 3 [(.int .i64 0),(.int .i64 0),(.int .i64 0)] [(0,1,(.t 6)),(1,1,(.t 8)),(2,1,(.t 14))]⟩,o 16 (.call 25 [(.t 15)]),om 4 16]) .ret))
theorem k49:fnRC 49=some ([.tmp 4],r49):=by kernel_rfl
def r114_l0:RC:=(.seq (.ops [o 38 (.bin .lss 3 false (.t 37) (.t 36))]) (.seq (.cond (.t 38) .skip (.exit 2)) (.seq (.block 3 (.seq (.ops [om 39 37,om 15 39]) (.seq (.seq (.ops [om 40 2,o 41 (.ldn 2 (.t 14)),om 42 15,o 43 (.callv (.t 40) [(.t 41),(.t 42)]),o 44 (.un .not (.t 43))]) (.cond (.t 44) (.seq (.ops [om 45 13,om 46 15,o 47 (.bsl 3 1 1 [(.int .i64 0)] [(0,1,(.t 46))]),om 11 45,om 12 47]) (.exit 0)) .skip)) (.seq (.drw 21 [o 48 (.fa 1 (.t 3)),o 49 (.ld1 (.t 48)),o 50 (.ixp 2 1 (.t 14) (.v (.int .i64 0))),o 51 (.ld1 (.t 50)),o 52 (.ixa 1 (.t 49) (.t 51)),o 53 (.ld1 (.t 52)),om 54 15,o 55 (.ixa 1 (.t 53) (.t 54)),o 56 (.ld1 (.t 55)),o 57 (.fa 1 (.t 4)),o 58 (.ld1 (.t 57)),o 59 (.ixp 2 1 (.t 14) (.v (.int .i64 1))),o 60 (.ld1 (.t 59)),o 61 (.ixa 1 (.t 58) (.t 60)),o 62 (.ld1 (.t 61)),om 63 15,o 64 (.ixa 1 (.t 62) (.t 63)),o 65 (.ld1 (.t 64)),o 66 (.bld [(.int .i64 0),(.int .i64 0)] [(0,1,(.t 56)),(1,1,(.t 65))]),
 ⟨some 16,none,some 19,false,.al [(.int .i64 0),(.int .i64 0)] 186⟩,
 ⟨none,none,none,true,.st 2 (.t 16) (.t 66)⟩]) (.seq (.ops [om 67 8,o 68 (.ldn 2 (.t 16)),o 69 (.raw (.lookup 260 (.tmp 67) (.tmp 68) false)),o 70 (.un .not (.t 69))]) (.cond (.t 70) (.seq (.ops [om 71 8,o 72 (.ldn 2 (.t 16)),oS (.raw (.mapUpdate 260 (.tmp 71) (.tmp 72) (.const (.bool true))))]) (.ops [om 73 9,o 74 (.ldn 2 (.t 16)),o 75 (.bsl 186 2 1 [(.int .i64 0),(.int .i64 0)] [(0,2,(.t 74))]),o 76 (.app 186 2 16 (.t 73) (.t 75)),om 77 10,om 78 13,om 79 15,o 80 (.bld [(.int .i64 0),(.int .i64 0)] [(0,1,(.t 78)),(1,1,(.t 79))]),o 81 (.bsl 262 2 1 [(.int .i64 0),(.int .i64 0)] [(0,2,(.t 80))]),o 82 (.app 262 2 16 (.t 77) (.t 81)),om 9 76,om 10 82])) .skip)))))) (.ops [o 83 (.bin .add 3 true (.t 37) (.v (.int .i64 1))),om 37 83]))))
def r114_l1:RC:=(.seq (.seq (.ops [om 24 13,om 25 9,o 26 (.lenL (.t 25)),o 27 (.bin .lss 3 false (.t 24) (.t 26))]) (.cond (.t 27) .skip (.exit 0))) (.seq (.block 1 (.seq (.ops [om 30 9,om 31 13,o 32 (.ixa 2 (.t 30) (.t 31)),o 33 (.ldn 2 (.t 32)),o 14 (.al [(.int .i64 0),(.int .i64 0)] 186),oS (.st 2 (.t 14) (.t 33))]) (.seq (.ops [o 34 (.fa 0 (.t 3)),o 35 (.ld1 (.t 34)),o 36 (.bin .shl 3 true (.v (.int .i64 1)) (.t 35)),o 37 (.mov (.v (.int .i64 0)))]) (.block 2 (.loop r114_l0))))) (.ops [om 28 13,o 29 (.bin .add 3 true (.t 28) (.v (.int .i64 1))),om 13 29])))
def r114_l2:RC:=(.seq (.seq (.ops [om 84 11,o 85 (.bin .gtr 3 true (.t 84) (.v (.int .i64 0)))]) (.cond (.t 85) .skip (.exit 4))) (.seq (.block 5 (.ops [om 91 12,om 92 10,om 93 11,o 94 (.ixa 2 (.t 92) (.t 93)),o 95 (.fa 1 (.t 94)),o 96 (.ld1 (.t 95)),o 97 (.bsl 3 1 1 [(.int .i64 0)] [(0,1,(.t 96))]),o 98 (.app 3 1 8 (.t 91) (.t 97)),om 12 98])) (.ops [om 86 10,om 87 11,o 88 (.ixa 2 (.t 86) (.t 87)),o 89 (.fa 0 (.t 88)),o 90 (.ld1 (.t 89)),om 11 90])))
def r114:RC:=(.seq (.ops [o 3 (.box 69 (.t 0)),o 4 (.box 69 (.t 1)),o 6 (.mov (.v .nils)),o 7 (.mov (.v .nils))]) (.seq (.ops [o 17 (.raw (.makeMap 260 none)),o 18 (.bld [(.int .i64 0),(.int .i64 0)] []),oS (.raw (.insert 260 (.tmp 17) (.tmp 18) (.const (.bool true)))),om 19 17,om 8 19]) (.seq (.ops [o 20 (.bld [(.int .i64 0),(.int .i64 0)] []),o 21 (.bsl 186 2 1 [(.int .i64 0),(.int .i64 0)] [(0,2,(.t 20))]),o 22 (.bld [(.int .i64 0),(.int .i64 0)] [(0,1,(.v (.int .i64 (-1)))),(1,1,(.v (.int .i64 0)))]),o 23 (.bsl 262 2 1 [(.int .i64 0),(.int .i64 0)] [(0,2,(.t 22))]),om 9 21,om 10 23]) (.seq (.ops [o 11 (.mov (.v (.int .i64 (-1))))]) (.seq (.ops [o 12 (.mov (.v .nils))]) (.seq .skip (.seq (.seq (.ops [o 13 (.mov (.v (.int .i64 0)))]) (.block 0 (.loop r114_l1))) (.seq (.block 4 (.loop r114_l2)) (.seq (.ops [om 99 12,o 100 (.call 178 [(.t 99)])]) (.seq (.ops [om 101 9,om 102 12,om 6 101,om 7 102]) .ret))))))))))
theorem k114:fnRC 114=some ([.tmp 6,.tmp 7],r114):=by kernel_rfl
def r136:RC:=(.seq (.ops [o 2 (.box 69 (.t 0)),o 3 (.box 69 (.t 1)),o 4 (.mov (.v (.int .i64 0)))]) (.seq (.drw 13 [o 5 (.ldn 3 (.t 2)),o 6 (.call 58 [(.t 5)]),o 7 (.ldn 3 (.t 3)),o 8 (.call 58 [(.t 7)]),o 9 (.fa 0 (.t 2)),o 10 (.ld1 (.t 9)),o 11 (.fa 0 (.t 3)),o 12 (.ld1 (.t 11)),o 13 (.bin .neq 3 false (.t 10) (.t 12)),o 14 (.call 116 [(.t 13),(.v (.int .i64 2))]),
 ⟨some 15,none,some 10,false,.bsl 26 1 3 [(.int .i64 0),(.int .i64 0),(.int .i64 0)] [(0,1,(.t 6)),(1,1,(.t 8)),(2,1,(.t 14))]⟩,o 16 (.call 89 [(.t 15)]),om 4 16]) .ret))
theorem k136:fnRC 136=some ([.tmp 4],r136):=by kernel_rfl
def r178_l0:RC:=(.seq (.seq (.ops [om 7 2,om 8 3,o 9 (.bin .lss 3 false (.t 7) (.t 8))]) (.cond (.t 9) .skip (.exit 0))) (.seq (.block 1 (.drw 16 [om 14 0,om 15 2,om 16 0,om 17 3,om 18 0,om 19 3,o 20 (.ixa 1 (.t 18) (.t 19)),o 21 (.ld1 (.t 20)),om 22 0,om 23 2,o 24 (.ixa 1 (.t 22) (.t 23)),o 25 (.ld1 (.t 24)),o 26 (.ixa 1 (.t 14) (.t 15)),
 ⟨none,none,none,true,.st 1 (.t 26) (.t 21)⟩,o 27 (.ixa 1 (.t 16) (.t 17)),
 ⟨none,none,none,true,.st 1 (.t 27) (.t 25)⟩])) (.ops [om 10 2,o 11 (.bin .add 3 true (.t 10) (.v (.int .i64 1))),om 12 3,o 13 (.bin .sub 3 true (.t 12) (.v (.int .i64 1))),om 2 11,om 3 13])))
def r178:RC:=(.seq (.ops [om 4 0,o 5 (.lenL (.t 4)),o 6 (.bin .sub 3 true (.t 5) (.v (.int .i64 1))),o 2 (.mov (.v (.int .i64 0))),om 3 6]) (.block 0 (.loop r178_l0)))
theorem k178:fnRC 178=some ([],r178):=by kernel_rfl
def r71:RC:=(.seq (.ops [o 2 (.box 72 (.t 0)),o 3 (.box 72 (.t 1)),o 4 (.mov (.v .nils)),o 5 (.mov (.v (.bool false)))]) (.seq (.ops [o 10 (.ldn 3 (.t 2)),o 11 (.ldn 3 (.t 3)),o 12 (.call 120 [(.t 10),(.t 11)]),om 9 12,o 13 (.ext (.t 9) 0),o 14 (.ext (.t 9) 1),o 15 (.ext (.t 9) 2),om 6 13,om 7 14,om 8 15]) (.seq (.ops [om 16 7,om 17 8,om 4 16,om 5 17]) .ret)))
theorem k71:fnRC 71=some ([.tmp 4,.tmp 5],r71):=by kernel_rfl
def r120_l0:RC:=(.seq (.seq (.ops [om 82 14,om 83 7,o 84 (.lenL (.t 83)),o 85 (.bin .lss 3 false (.t 82) (.t 84))]) (.cond (.t 85) .skip (.exit 4))) (.seq (.block 5 (.drw 22 [om 88 13,om 89 88,oF 90 89 (.mov (.t 7)),oF 91 89 (.mov (.t 14)),oF 92 89 (.ixa 3 (.t 90) (.t 91)),oF 93 89 (.fa 0 (.t 92)),oF 94 89 (.ld1 (.t 93)),oF 95 89 (.fa 0 (.t 12)),oF 96 89 (.ld1 (.t 95)),oF 97 89 (.bin .eql 3 false (.t 94) (.t 96)),oF 98 89 (.mov (.t 97)),oT 99 98 (.mov (.t 7)),oT 100 98 (.mov (.t 14)),oT 101 98 (.ixa 3 (.t 99) (.t 100)),oT 102 98 (.fa 1 (.t 101)),oT 103 98 (.ld1 (.t 102)),oT 104 98 (.fa 1 (.t 12)),oT 105 98 (.ld1 (.t 104)),oT 106 98 (.bin .eql 3 false (.t 103) (.t 105)),oF 107 89 (.pick (.t 98) (.t 106) (.v (.bool false))),o 108 (.pick (.t 89) (.v (.bool true)) (.t 107)),om 13 108])) (.ops [om 86 14,o 87 (.bin .add 3 true (.t 86) (.v (.int .i64 1))),om 14 87])))
def r120_s:RC:=(.ops [o 34 (.bsl 3 1 0 [] []),o 35 (.fa 2 (.t 10)),o 36 (.ld1 (.t 35)),o 37 (.app 3 1 8 (.t 34) (.t 36)),om 38 9,o 39 (.bsl 3 1 1 [(.int .i64 0)] [(0,1,(.t 38))]),o 40 (.app 3 1 8 (.t 37) (.t 39)),om 11 40])
def r120_l1:RC:=(.seq (.seq (.ops [om 23 9,o 24 (.fa 0 (.t 2)),o 25 (.ld1 (.t 24)),o 26 (.bin .shl 3 true (.v (.int .i64 1)) (.t 25)),o 27 (.bin .lss 3 false (.t 23) (.t 26))]) (.cond (.t 27) .skip (.exit 2))) (.seq (.block 3 (.seq (.ops [om 30 7,om 31 8,o 32 (.ixa 3 (.t 30) (.t 31)),o 33 (.ldn 3 (.t 32)),o 10 (.al [(.int .i64 0),(.int .i64 0),.nils] 195),oS (.st 3 (.t 10) (.t 33))]) (.seq r120_s (.seq (.seq (.drw 19 [o 41 (.fa 2 (.t 2)),o 42 (.ld1 (.t 41)),o 43 (.fa 0 (.t 10)),o 44 (.ld1 (.t 43)),o 45 (.ixa 1 (.t 42) (.t 44)),o 46 (.ld1 (.t 45)),om 47 9,o 48 (.ixa 1 (.t 46) (.t 47)),o 49 (.ld1 (.t 48)),o 50 (.fa 2 (.t 3)),o 51 (.ld1 (.t 50)),o 52 (.fa 1 (.t 10)),o 53 (.ld1 (.t 52)),o 54 (.ixa 1 (.t 51) (.t 53)),o 55 (.ld1 (.t 54)),om 56 9,o 57 (.ixa 1 (.t 55) (.t 56)),o 58 (.ld1 (.t 57)),o 59 (.bin .neq 4 false (.t 49) (.t 58))]) (.cond (.t 59) (.seq (.ops [om 60 7,om 61 11,om 4 60,om 5 61,o 6 (.mov (.v (.bool true)))]) .ret) .skip)) (.seq (.drw 22 [o 62 (.fa 1 (.t 2)),o 63 (.ld1 (.t 62)),o 64 (.fa 0 (.t 10)),o 65 (.ld1 (.t 64)),o 66 (.ixa 1 (.t 63) (.t 65)),o 67 (.ld1 (.t 66)),om 68 9,o 69 (.ixa 1 (.t 67) (.t 68)),o 70 (.ld1 (.t 69)),o 71 (.fa 1 (.t 3)),o 72 (.ld1 (.t 71)),o 73 (.fa 1 (.t 10)),o 74 (.ld1 (.t 73)),o 75 (.ixa 1 (.t 72) (.t 74)),o 76 (.ld1 (.t 75)),om 77 9,o 78 (.ixa 1 (.t 76) (.t 77)),o 79 (.ld1 (.t 78)),om 80 11,o 81 (.bld [(.int .i64 0),(.int .i64 0),.nils] [(0,1,(.t 70)),(1,1,(.t 79)),(2,1,(.t 80))]),
 ⟨some 12,none,some 20,false,.al [(.int .i64 0),(.int .i64 0),.nils] 195⟩,
 ⟨none,none,none,true,.st 3 (.t 12) (.t 81)⟩]) (.seq (.ops [o 13 (.mov (.v (.bool false)))]) (.seq (.seq (.ops [o 14 (.mov (.v (.int .i64 0)))]) (.block 4 (.loop r120_l0))) (.seq (.ops [om 109 13,o 110 (.un .not (.t 109))]) (.cond (.t 110) (.ops [om 111 7,o 112 (.ldn 3 (.t 12)),o 113 (.bsl 195 3 1 [(.int .i64 0),(.int .i64 0),.nils] [(0,3,(.t 112))]),o 114 (.app 195 3 40 (.t 111) (.t 113)),om 7 114]) .skip))))))))) (.ops [om 28 9,o 29 (.bin .add 3 true (.t 28) (.v (.int .i64 1))),om 9 29])))
def r120_l2:RC:=(.seq (.seq (.ops [om 17 8,om 18 7,o 19 (.lenL (.t 18)),o 20 (.bin .lss 3 false (.t 17) (.t 19))]) (.cond (.t 20) .skip (.exit 0))) (.seq (.block 1 (.seq (.ops [o 9 (.mov (.v (.int .i64 0)))]) (.block 2 (.loop r120_l1)))) (.ops [om 21 8,o 22 (.bin .add 3 true (.t 21) (.v (.int .i64 1))),om 8 22])))
def r120:RC:=(.seq (.ops [o 2 (.box 72 (.t 0)),o 3 (.box 72 (.t 1)),o 4 (.mov (.v .nils)),o 5 (.mov (.v .nils)),o 6 (.mov (.v (.bool false)))]) (.seq (.ops [o 15 (.bld [(.int .i64 0),(.int .i64 0),.nils] [(0,1,(.v (.int .i64 0))),(1,1,(.v (.int .i64 0))),(2,1,(.v .nils))]),o 16 (.bsl 195 3 1 [(.int .i64 0),(.int .i64 0),.nils] [(0,3,(.t 15))]),om 7 16]) (.seq (.seq (.ops [o 8 (.mov (.v (.int .i64 0)))]) (.block 0 (.loop r120_l2))) (.seq (.ops [om 115 7,om 4 115,o 5 (.mov (.v .nils)),o 6 (.mov (.v (.bool false)))]) .ret))))
theorem k120:fnRC 120=some ([.tmp 4,.tmp 5,.tmp 6],r120):=by kernel_rfl
noncomputable def r69:RC:=(.seq (.ops [o 2 (.box 69 (.t 0)),o 3 (.box 69 (.t 1)),o 4 (.mov (.v .nils)),o 5 (.mov (.v (.int .i64 0)))]) (.seq (.seq (.ops [o 10 (.ldn 3 (.t 2)),o 11 (.ldn 3 (.t 3)),o 12 (.call 136 [(.t 10),(.t 11)]),om 6 12]) (.seq (.ops [om 13 6,o 14 (.bin .neq 26 true (.t 13) (.v (.int .i64 0)))]) (.cond (.t 14) (.seq (.ops [om 15 6,o 4 (.mov (.v .nils)),om 5 15]) .ret) .skip))) (.seq (.seq (.ops [o 16 (.ldn 3 (.t 2)),o 17 (.ldn 3 (.t 3)),o 18 (.call 137 [(.t 16),(.t 17)]),o 19 (.lenL (.t 18)),o 20 (.bin .gtr 3 true (.t 19) (.v (.int .i64 0)))]) (.cond (.t 20) (.seq (.ops [o 4 (.mov (.v .nils)),o 5 (.mov (.v (.int .i64 29)))]) .ret) .skip)) (.seq (.ops [o 22 (.ldn 3 (.t 2)),o 23 (.ldn 3 (.t 3)),o 24 (.call 114 [(.t 22),(.t 23),(.v (.fn (.func 138) [] []))]),om 21 24,o 25 (.ext (.t 21) 0),o 26 (.ext (.t 21) 1),om 7 25,om 8 26]) (.seq (.ops [om 27 7,o 28 (.call 139 [(.t 27),(.v (.fn (.func 140) [] []))]),om 9 28]) (.seq (.ops [om 29 9,o 30 (.call 141 [(.t 29),(.v (.fn (.func 142) [] []))])]) (.seq (.ops [om 31 9,om 4 31,o 5 (.mov (.v (.int .i64 0)))]) .ret)))))))
theorem k69:fnRC 69=some ([.tmp 4,.tmp 5],r69):=by kernel_rfl
noncomputable def r137:RC:=(.seq (.ops [o 2 (.box 69 (.t 0)),o 3 (.box 69 (.t 1)),o 4 (.mov (.v .nils))]) (.seq (.ops [o 8 (.ldn 3 (.t 2)),o 9 (.ldn 3 (.t 3)),o 10 (.mkf 183 [] [(.t 2),(.t 3)]),o 11 (.call 114 [(.t 8),(.t 9),(.t 10)]),om 7 11,o 12 (.ext (.t 7) 0),o 13 (.ext (.t 7) 1),om 5 12,om 6 13]) (.seq (.ops [om 14 6,om 4 14]) .ret)))
theorem k137:fnRC 137=some ([.tmp 4],r137):=by kernel_rfl
noncomputable def r138:RC:=(.seq (.ops [o 2 (.box 186 (.t 0)),o 4 (.mov (.v (.bool false)))]) (.seq (.ops [o 4 (.mov (.v (.bool true)))]) .ret))
theorem k138:fnRC 138=some ([.tmp 4],r138):=by kernel_rfl
noncomputable def r139_l0:RC:=(.seq (.ops [o 11 (.bin .lss 3 false (.t 10) (.t 9))]) (.seq (.cond (.t 11) .skip (.exit 0)) (.seq (.block 1 (.seq (.ops [o 12 (.ixa 2 (.t 8) (.t 10)),o 13 (.ldn 2 (.t 12)),o 7 (.al [(.int .i64 0),(.int .i64 0)] 186),oS (.st 2 (.t 7) (.t 13))]) (.ops [om 14 5,om 15 1,o 16 (.ldn 2 (.t 7)),o 17 (.callv (.t 15) [(.t 16)]),o 18 (.bsl 116 2 1 [(.int .i64 0),(.int .i64 0)] [(0,2,(.t 17))]),o 19 (.app 116 2 16 (.t 14) (.t 18)),om 5 19]))) (.ops [o 20 (.bin .add 3 true (.t 10) (.v (.int .i64 1))),om 10 20]))))
noncomputable def r139:RC:=(.seq (.ops [o 4 (.mov (.v .nils))]) (.seq (.ops [o 5 (.mov (.v .nils))]) (.seq (.seq (.ops [om 8 0,o 9 (.lenL (.t 8)),o 10 (.mov (.v (.int .i64 0)))]) (.block 0 (.loop r139_l0))) (.seq (.ops [om 21 5,om 4 21]) .ret))))
theorem k139:fnRC 139=some ([.tmp 4],r139):=by kernel_rfl
noncomputable def r140:RC:=(.seq (.ops [o 1 (.box 186 (.t 0)),o 2 (.al [(.int .i64 0),(.int .i64 0)] 116)]) (.seq (.ops [o 3 (.ldn 2 (.t 1)),oS (.st 2 (.t 2) (.t 3))]) .ret))
theorem k140:fnRC 140=some ([.cell 2 116],r140):=by kernel_rfl
noncomputable def r141:RC:=(.seq (.ops [om 5 0,o 6 (.lenL (.t 5)),om 4 6]) (.ops [om 7 0,om 8 4,om 9 4,o 10 (.raw (.convert 3 272 (.tmp 9))),o 11 (.call 185 [(.t 10)]),om 12 1,o 13 (.call 184 [(.t 7),(.v (.int .i64 0)),(.t 8),(.t 11),(.t 12)])]))
theorem k141:fnRC 141=some ([],r141):=by kernel_rfl
noncomputable def r142:RC:=(.seq (.ops [o 2 (.box 116 (.t 0)),o 3 (.box 116 (.t 1)),o 4 (.mov (.v (.int .i64 0)))]) (.seq (.drw 13 [o 5 (.ixp 2 1 (.t 2) (.v (.int .i64 0))),o 6 (.ld1 (.t 5)),o 7 (.ixp 2 1 (.t 3) (.v (.int .i64 0))),o 8 (.ld1 (.t 7)),o 9 (.call 187 [(.t 6),(.t 8)]),o 10 (.ixp 2 1 (.t 2) (.v (.int .i64 1))),o 11 (.ld1 (.t 10)),o 12 (.ixp 2 1 (.t 3) (.v (.int .i64 1))),o 13 (.ld1 (.t 12)),o 14 (.call 187 [(.t 11),(.t 13)]),
 ⟨some 15,none,some 10,false,.bsl 3 1 2 [(.int .i64 0),(.int .i64 0)] [(0,1,(.t 9)),(1,1,(.t 14))]⟩,o 16 (.call 186 [(.t 15)]),om 4 16]) .ret))
theorem k142:fnRC 142=some ([.tmp 4],r142):=by kernel_rfl
noncomputable def r187:RC:=(.seq (.ops [o 4 (.mov (.v (.int .i64 0)))]) (.seq (.ops [om 7 0,o 8 (.call 232 [(.t 7)]),om 5 8]) (.seq (.ops [om 9 1,o 10 (.call 232 [(.t 9)]),om 6 10]) (.seq (.seq (.ops [om 11 5]) (.cond (.t 11) (.seq (.seq (.ops [om 12 6]) (.cond (.t 12) (.seq (.ops [o 4 (.mov (.v (.int .i64 0)))]) .ret) .skip)) (.seq (.ops [o 4 (.mov (.v (.int .i64 (-1))))]) .ret)) .skip)) (.seq (.seq (.ops [om 13 6]) (.cond (.t 13) (.seq (.ops [o 4 (.mov (.v (.int .i64 1)))]) .ret) .skip)) (.seq (.seq (.ops [om 14 0,om 15 1,o 16 (.bin .lss 3 false (.t 14) (.t 15))]) (.cond (.t 16) (.seq (.ops [o 4 (.mov (.v (.int .i64 (-1))))]) .ret) .skip)) (.seq (.seq (.ops [om 17 0,om 18 1,o 19 (.bin .gtr 3 false (.t 17) (.t 18))]) (.cond (.t 19) (.seq (.ops [o 4 (.mov (.v (.int .i64 1)))]) .ret) .skip)) (.seq (.ops [o 4 (.mov (.v (.int .i64 0)))]) .ret))))))))
theorem k187:fnRC 187=some ([.tmp 4],r187):=by kernel_rfl
noncomputable def r186_l0:RC:=(.seq (.ops [o 9 (.bin .lss 3 false (.t 8) (.t 7))]) (.seq (.cond (.t 9) .skip (.exit 0)) (.seq (.block 1 (.seq (.ops [o 10 (.ixa 1 (.t 6) (.t 8)),o 11 (.ld1 (.t 10)),om 5 11]) (.seq (.ops [om 12 5,om 13 3,o 14 (.bin .neq 3 false (.t 12) (.t 13))]) (.cond (.t 14) (.seq (.ops [om 15 5,om 2 15]) .ret) .skip)))) (.ops [o 16 (.bin .add 3 true (.t 8) (.v (.int .i64 1))),om 8 16]))))
noncomputable def r186:RC:=(.seq (.ops [o 2 (.mov (.v (.int .i64 0)))]) (.seq (.ops [o 3 (.mov (.v (.int .i64 0)))]) (.seq (.seq (.ops [om 6 0,o 7 (.lenL (.t 6)),o 8 (.mov (.v (.int .i64 0)))]) (.block 0 (.loop r186_l0))) (.seq (.ops [om 17 3,om 2 17]) .ret))))
theorem k186:fnRC 186=some ([.tmp 2],r186):=by kernel_rfl
noncomputable def r232:RC:=(.seq (.ops [o 2 (.mov (.v (.bool false)))]) (.seq (.ops [om 3 0,om 4 0,o 5 (.bin .neq 3 false (.t 3) (.t 4)),om 2 5]) .ret))
theorem k232:fnRC 232=some ([.tmp 2],r232):=by kernel_rfl
noncomputable def r68:RC:=(.seq (.ops [o 2 (.box 69 (.t 0)),o 3 (.box 69 (.t 1)),o 4 (.mov (.v .nils)),o 5 (.mov (.v (.int .i64 0)))]) (.seq (.seq (.ops [o 8 (.ldn 3 (.t 2)),o 9 (.ldn 3 (.t 3)),o 10 (.call 136 [(.t 8),(.t 9)]),om 6 10]) (.seq (.ops [om 11 6,o 12 (.bin .neq 26 true (.t 11) (.v (.int .i64 0)))]) (.cond (.t 12) (.seq (.ops [om 13 6,o 4 (.mov (.v .nils)),om 5 13]) .ret) .skip))) (.seq (.ops [o 14 (.ldn 3 (.t 2)),o 15 (.ldn 3 (.t 3)),o 16 (.call 137 [(.t 14),(.t 15)]),om 7 16]) (.seq (.ops [om 17 7,om 18 7,o 19 (.lenL (.t 18)),o 20 (.bin .eql 3 true (.t 19) (.v (.int .i64 0))),o 21 (.call 116 [(.t 20),(.v (.int .i64 7))]),om 4 17,om 5 21]) .ret))))
theorem k68:fnRC 68=some ([.tmp 4,.tmp 5],r68):=by kernel_rfl
noncomputable def r70_l0:RC:=(.seq (.ops [o 33 (.bin .lss 3 false (.t 32) (.t 31))]) (.seq (.cond (.t 33) .skip (.exit 0)) (.seq (.block 1 (.seq (.ops [om 34 32,o 35 (.ixa 2 (.t 30) (.t 32)),o 36 (.ldn 2 (.t 35)),o 10 (.al [(.int .i64 0),(.int .i64 0)] 116),om 9 34,oS (.st 2 (.t 10) (.t 36))]) (.seq (.ops [o 37 (.ixp 2 1 (.t 10) (.v (.int .i64 0))),o 38 (.ld1 (.t 37)),o 39 (.bin .lss 3 true (.t 38) (.v (.int .i64 0))),om 40 39,oF 41 40 (.ixp 2 1 (.t 10) (.v (.int .i64 0))),oF 42 40 (.ld1 (.t 41)),oF 43 40 (.fa 1 (.t 3)),oF 44 40 (.ld1 (.t 43)),oF 45 40 (.lenL (.t 44)),oF 46 40 (.bin .geq 3 false (.t 42) (.t 45)),o 47 (.pick (.t 40) (.v (.bool true)) (.t 46)),om 48 47,oF 49 48 (.ixp 2 1 (.t 10) (.v (.int .i64 1))),oF 50 48 (.ld1 (.t 49)),oF 51 48 (.bin .lss 3 true (.t 50) (.v (.int .i64 0))),o 52 (.pick (.t 48) (.v (.bool true)) (.t 51)),om 53 52,oF 54 53 (.ixp 2 1 (.t 10) (.v (.int .i64 1))),oF 55 53 (.ld1 (.t 54)),oF 56 53 (.fa 1 (.t 4)),oF 57 53 (.ld1 (.t 56)),oF 58 53 (.lenL (.t 57)),oF 59 53 (.bin .geq 3 false (.t 55) (.t 58)),o 60 (.pick (.t 53) (.v (.bool true)) (.t 59)),om 11 60]) (.seq (.seq (.drw 19 [om 61 11,o 62 (.call 116 [(.t 61),(.v (.int .i64 10))]),om 63 9,o 64 (.bin .gtr 3 true (.t 63) (.v (.int .i64 0))),om 65 64,oT 66 65 (.mov (.t 2)),oT 67 65 (.mov (.t 9)),oT 68 65 (.bin .sub 3 true (.t 67) (.v (.int .i64 1))),oT 69 65 (.raw (.call { callee:=.builtin .max,args:=#[(.const (.int .i64 0)),(.tmp 68)],argTypes:=#[3,3] })),oT 70 65 (.ixa 2 (.t 66) (.t 69)),oT 71 65 (.ldn 2 (.t 70)),oT 72 65 (.ldn 2 (.t 10)),oT 73 65 (.call 142 [(.t 71),(.t 72)]),oT 74 65 (.bin .geq 3 true (.t 73) (.v (.int .i64 0))),o 75 (.pick (.t 65) (.t 74) (.v (.bool false))),o 76 (.call 116 [(.t 75),(.v (.int .i64 11))]),
 ⟨some 77,none,some 16,false,.bsl 26 1 2 [(.int .i64 0),(.int .i64 0)] [(0,1,(.t 62)),(1,1,(.t 76))]⟩,o 78 (.call 89 [(.t 77)]),om 12 78]) (.seq (.ops [om 79 12,o 80 (.bin .neq 26 true (.t 79) (.v (.int .i64 0)))]) (.cond (.t 80) (.seq (.ops [om 81 12,om 6 81]) .ret) .skip))) (.ops [om 82 8,o 83 (.ldn 2 (.t 10)),oS (.raw (.mapUpdate 222 (.tmp 82) (.tmp 83) (.const (.bool true))))]))))) (.ops [o 84 (.bin .add 3 true (.t 32) (.v (.int .i64 1))),om 32 84]))))
noncomputable def r70_l1:RC:=(.seq (.ops [o 105 (.bin .lss 3 false (.t 104) (.t 103))]) (.seq (.cond (.t 105) .skip (.exit 4)) (.seq (.block 5 (.seq (.ops [om 106 104,om 16 106]) (.drw 46 [om 107 13,om 108 107,oT 109 108 (.fa 2 (.t 3)),oT 110 108 (.ld1 (.t 109)),oT 111 108 (.ixp 2 1 (.t 15) (.v (.int .i64 0))),oT 112 108 (.ld1 (.t 111)),oT 113 108 (.ixa 1 (.t 110) (.t 112)),oT 114 108 (.ld1 (.t 113)),oT 115 108 (.mov (.t 16)),oT 116 108 (.ixa 1 (.t 114) (.t 115)),oT 117 108 (.ld1 (.t 116)),oT 118 108 (.fa 2 (.t 4)),oT 119 108 (.ld1 (.t 118)),oT 120 108 (.ixp 2 1 (.t 15) (.v (.int .i64 1))),oT 121 108 (.ld1 (.t 120)),oT 122 108 (.ixa 1 (.t 119) (.t 121)),oT 123 108 (.ld1 (.t 122)),oT 124 108 (.mov (.t 16)),oT 125 108 (.ixa 1 (.t 123) (.t 124)),oT 126 108 (.ld1 (.t 125)),oT 127 108 (.bin .eql 4 false (.t 117) (.t 126)),o 128 (.pick (.t 108) (.t 127) (.v (.bool false))),om 129 128,oT 130 129 (.mov (.t 8)),oT 131 129 (.fa 1 (.t 3)),oT 132 129 (.ld1 (.t 131)),oT 133 129 (.ixp 2 1 (.t 15) (.v (.int .i64 0))),oT 134 129 (.ld1 (.t 133)),oT 135 129 (.ixa 1 (.t 132) (.t 134)),oT 136 129 (.ld1 (.t 135)),oT 137 129 (.mov (.t 16)),oT 138 129 (.ixa 1 (.t 136) (.t 137)),oT 139 129 (.ld1 (.t 138)),oT 140 129 (.fa 1 (.t 4)),oT 141 129 (.ld1 (.t 140)),oT 142 129 (.ixp 2 1 (.t 15) (.v (.int .i64 1))),oT 143 129 (.ld1 (.t 142)),oT 144 129 (.ixa 1 (.t 141) (.t 143)),oT 145 129 (.ld1 (.t 144)),oT 146 129 (.mov (.t 16)),oT 147 129 (.ixa 1 (.t 145) (.t 146)),oT 148 129 (.ld1 (.t 147)),oT 149 129 (.bld [(.int .i64 0),(.int .i64 0)] [(0,1,(.t 139)),(1,1,(.t 148))]),oT 150 129 (.raw (.lookup 222 (.tmp 130) (.tmp 149) false)),o 151 (.pick (.t 129) (.t 150) (.v (.bool false))),om 13 151]))) (.ops [o 152 (.bin .add 3 true (.t 104) (.v (.int .i64 1))),om 104 152]))))
noncomputable def r70_l2:RC:=(.seq (.ops [o 98 (.bin .lss 3 false (.t 97) (.t 96))]) (.seq (.cond (.t 98) .skip (.exit 2)) (.seq (.block 3 (.seq (.ops [o 99 (.ixa 2 (.t 95) (.t 97)),o 100 (.ldn 2 (.t 99)),o 15 (.al [(.int .i64 0),(.int .i64 0)] 116),oS (.st 2 (.t 15) (.t 100))]) (.seq (.ops [o 101 (.fa 0 (.t 3)),o 102 (.ld1 (.t 101)),o 103 (.bin .shl 3 true (.v (.int .i64 1)) (.t 102)),o 104 (.mov (.v (.int .i64 0)))]) (.block 4 (.loop r70_l1))))) (.ops [o 153 (.bin .add 3 true (.t 97) (.v (.int .i64 1))),om 97 153]))))
noncomputable def r70:RC:=(.seq (.ops [o 3 (.box 69 (.t 0)),o 4 (.box 69 (.t 1)),o 6 (.mov (.v (.int .i64 0)))]) (.seq (.seq (.ops [o 17 (.ldn 3 (.t 3)),o 18 (.ldn 3 (.t 4)),o 19 (.call 136 [(.t 17),(.t 18)]),om 20 2,o 21 (.lenL (.t 20)),o 22 (.bin .gtr 3 true (.t 21) (.v (.int .i64 65536))),o 23 (.call 116 [(.t 22),(.v (.int .i64 5))]),o 24 (.bsl 26 1 2 [(.int .i64 0),(.int .i64 0)] [(0,1,(.t 19)),(1,1,(.t 23))]),o 25 (.call 89 [(.t 24)]),om 7 25]) (.seq (.ops [om 26 7,o 27 (.bin .neq 26 true (.t 26) (.v (.int .i64 0)))]) (.cond (.t 27) (.seq (.ops [om 28 7,om 6 28]) .ret) .skip))) (.seq (.ops [o 29 (.raw (.makeMap 222 none)),om 8 29]) (.seq (.seq (.ops [om 30 2,o 31 (.lenL (.t 30)),o 32 (.mov (.v (.int .i64 0)))]) (.block 0 (.loop r70_l0))) (.seq (.ops [om 85 2,o 86 (.lenL (.t 85)),o 87 (.bin .gtr 3 true (.t 86) (.v (.int .i64 0))),om 88 87,oT 89 88 (.mov (.t 2)),oT 90 88 (.ixa 2 (.t 89) (.v (.int .i64 0))),oT 91 88 (.ldn 2 (.t 90)),oT 92 88 (.bld [(.int .i64 0),(.int .i64 0)] []),oT 93 88 (.bin .eql 116 false (.t 91) (.t 92)),o 94 (.pick (.t 88) (.t 93) (.v (.bool false))),om 13 94]) (.seq (.seq (.ops [om 95 2,o 96 (.lenL (.t 95)),o 97 (.mov (.v (.int .i64 0)))]) (.block 2 (.loop r70_l2))) (.seq (.ops [om 154 13,o 155 (.un .not (.t 154)),o 156 (.call 116 [(.t 155),(.v (.int .i64 21))]),om 6 156]) .ret)))))))
theorem k70:fnRC 70=some ([.tmp 6],r70):=by kernel_rfl
noncomputable def r184_e:RC:=(.seq (.ops [om 115 16,om 116 1,o 117 (.bin .sub 3 false (.t 115) (.t 116)),om 118 2,om 119 16,o 120 (.bin .sub 3 false (.t 118) (.t 119)),om 18 117,om 19 120]) (.seq (.ops [om 121 12,o 122 (.bin .quo 3 true (.t 121) (.v (.int .i64 8))),om 20 122]) (.seq (.ops [om 123 18,om 124 19,o 125 (.bin .lss 3 false (.t 123) (.t 124))]) (.cond (.t 125) (.seq (.ops [om 126 18,om 127 20,o 128 (.bin .geq 3 false (.t 126) (.t 127)),om 10 128]) (.seq (.ops [om 129 0,om 130 1,om 131 16,om 132 3,om 133 4,o 134 (.call 184 [(.t 129),(.t 130),(.t 131),(.t 132),(.t 133)])]) (.ops [om 135 16,o 136 (.bin .add 3 true (.t 135) (.v (.int .i64 1))),om 1 136]))) (.seq (.ops [om 137 19,om 138 20,o 139 (.bin .geq 3 false (.t 137) (.t 138)),om 10 139]) (.seq (.ops [om 140 0,om 141 16,o 142 (.bin .add 3 true (.t 141) (.v (.int .i64 1))),om 143 2,om 144 3,om 145 4,o 146 (.call 184 [(.t 140),(.t 142),(.t 143),(.t 144),(.t 145)])]) (.ops [om 147 16,om 2 147])))))))
noncomputable def r184_d:RC:=(.seq (.seq (.drw 17 [om 81 1,o 82 (.bin .gtr 3 true (.t 81) (.v (.int .i64 0))),om 83 82,oT 84 83 (.mov (.t 4)),oT 85 83 (.mov (.t 0)),oT 86 83 (.mov (.t 1)),oT 87 83 (.bin .sub 3 true (.t 86) (.v (.int .i64 1))),oT 88 83 (.ixa 2 (.t 85) (.t 87)),oT 89 83 (.ldn 2 (.t 88)),oT 90 83 (.mov (.t 0)),oT 91 83 (.mov (.t 13)),oT 92 83 (.ixa 2 (.t 90) (.t 91)),oT 93 83 (.ldn 2 (.t 92)),
 ⟨some 94,some (83,true),none,true,.callv (.t 84) [(.t 89),(.t 93)]⟩,oT 95 83 (.bin .lss 3 true (.t 94) (.v (.int .i64 0))),oT 96 83 (.un .not (.t 95)),o 97 (.pick (.t 83) (.t 96) (.v (.bool false)))]) (.cond (.t 97) (.seq (.ops [om 98 0,om 99 1,om 100 2,om 101 13,om 102 4,o 103 (.call 228 [(.t 98),(.t 99),(.t 100),(.t 101),(.t 102)]),om 15 103]) (.seq (.ops [om 104 15,om 1 104]) (.exit 1))) .skip)) (.seq (.ops [om 106 0,om 107 1,om 108 2,om 109 13,om 110 4,o 111 (.call 229 [(.t 106),(.t 107),(.t 108),(.t 109),(.t 110)]),om 105 111,o 112 (.ext (.t 105) 0),o 113 (.ext (.t 105) 1),om 16 112,om 17 113]) (.seq (.ops [om 114 17,om 11 114]) r184_e)))
noncomputable def r184_c:RC:=(.seq (.seq (.ops [om 68 10,om 69 68,oT 70 69 (.mov (.t 11)),o 71 (.pick (.t 69) (.t 70) (.v (.bool false))),om 72 71,oT 73 72 (.mov (.t 14)),oT 74 72 (.bin .eql 292 true (.t 73) (.v (.int .i64 1))),o 75 (.pick (.t 72) (.t 74) (.v (.bool false)))]) (.cond (.t 75) (.seq (.ops [om 76 0,om 77 1,om 78 2,om 79 4,o 80 (.call 227 [(.t 76),(.t 77),(.t 78),(.t 79)])]) (.cond (.t 80) .ret .skip)) .skip)) r184_d)
noncomputable def r184_b:RC:=(.seq (.ops [om 48 0,om 49 1,om 50 2,om 51 4,o 52 (.call 225 [(.t 48),(.t 49),(.t 50),(.t 51)]),om 47 52,o 53 (.ext (.t 47) 0),o 54 (.ext (.t 47) 1),om 13 53,om 14 54]) (.seq (.seq (.ops [om 55 14,o 56 (.bin .eql 292 true (.t 55) (.v (.int .i64 2)))]) (.cond (.t 56) (.seq (.ops [om 57 0,om 58 1,om 59 2,om 60 4,o 61 (.call 226 [(.t 57),(.t 58),(.t 59),(.t 60)])]) (.seq (.ops [om 62 2,o 63 (.bin .sub 3 true (.t 62) (.v (.int .i64 1))),om 64 13,om 65 1,o 66 (.bin .sub 3 false (.t 64) (.t 65)),o 67 (.bin .sub 3 false (.t 63) (.t 66)),om 13 67]) (.ops [o 14 (.mov (.v (.int .i64 1)))]))) .skip)) r184_c))
noncomputable def r184_l0:RC:=(.block 1 (.seq (.ops [om 21 2,om 22 1,o 23 (.bin .sub 3 false (.t 21) (.t 22)),om 12 23]) (.seq (.seq (.ops [om 24 12,o 25 (.bin .leq 3 true (.t 24) (.v (.int .i64 12)))]) (.cond (.t 25) (.seq (.ops [om 26 0,om 27 1,om 28 2,om 29 4,o 30 (.call 222 [(.t 26),(.t 27),(.t 28),(.t 29)])]) .ret) .skip)) (.seq (.seq (.ops [om 31 3,o 32 (.bin .eql 3 true (.t 31) (.v (.int .i64 0)))]) (.cond (.t 32) (.seq (.ops [om 33 0,om 34 1,om 35 2,om 36 4,o 37 (.call 223 [(.t 33),(.t 34),(.t 35),(.t 36)])]) .ret) .skip)) (.seq (.seq (.ops [om 38 10,o 39 (.un .not (.t 38))]) (.cond (.t 39) (.seq (.ops [om 40 0,om 41 1,om 42 2,om 43 4,o 44 (.call 224 [(.t 40),(.t 41),(.t 42),(.t 43)])]) (.ops [om 45 3,o 46 (.bin .sub 3 true (.t 45) (.v (.int .i64 1))),om 3 46])) .skip)) r184_b)))))
noncomputable def r184:RC:=(.seq (.ops [o 10 (.mov (.v (.bool true)))]) (.seq (.ops [o 11 (.mov (.v (.bool true)))]) (.block 0 (.loop r184_l0))))
theorem k184:fnRC 184=some ([],r184):=by kernel_rfl
noncomputable def r222_l0:RC:=(.seq (.seq (.drw 17 [om 18 9,om 19 1,o 20 (.bin .gtr 3 false (.t 18) (.t 19)),om 21 20,oT 22 21 (.mov (.t 3)),oT 23 21 (.mov (.t 0)),oT 24 21 (.mov (.t 9)),oT 25 21 (.ixa 2 (.t 23) (.t 24)),oT 26 21 (.ldn 2 (.t 25)),oT 27 21 (.mov (.t 0)),oT 28 21 (.mov (.t 9)),oT 29 21 (.bin .sub 3 true (.t 28) (.v (.int .i64 1))),oT 30 21 (.ixa 2 (.t 27) (.t 29)),oT 31 21 (.ldn 2 (.t 30)),
 ⟨some 32,some (21,true),none,true,.callv (.t 22) [(.t 26),(.t 31)]⟩,oT 33 21 (.bin .lss 3 true (.t 32) (.v (.int .i64 0))),o 34 (.pick (.t 21) (.t 33) (.v (.bool false)))]) (.cond (.t 34) .skip (.exit 2))) (.seq (.block 3 (.drw 18 [om 37 0,om 38 9,om 39 0,om 40 9,o 41 (.bin .sub 3 true (.t 40) (.v (.int .i64 1))),om 42 0,om 43 9,o 44 (.bin .sub 3 true (.t 43) (.v (.int .i64 1))),o 45 (.ixa 2 (.t 42) (.t 44)),o 46 (.ldn 2 (.t 45)),om 47 0,om 48 9,o 49 (.ixa 2 (.t 47) (.t 48)),o 50 (.ldn 2 (.t 49)),o 51 (.ixa 2 (.t 37) (.t 38)),
 ⟨none,none,none,true,.st 2 (.t 51) (.t 46)⟩,o 52 (.ixa 2 (.t 39) (.t 41)),
 ⟨none,none,none,true,.st 2 (.t 52) (.t 50)⟩])) (.ops [om 35 9,o 36 (.bin .sub 3 true (.t 35) (.v (.int .i64 1))),om 9 36])))
noncomputable def r222_l1:RC:=(.seq (.seq (.ops [om 12 8,om 13 2,o 14 (.bin .lss 3 false (.t 12) (.t 13))]) (.cond (.t 14) .skip (.exit 0))) (.seq (.block 1 (.seq (.ops [om 17 8,om 9 17]) (.block 2 (.loop r222_l0)))) (.ops [om 15 8,o 16 (.bin .add 3 true (.t 15) (.v (.int .i64 1))),om 8 16])))
noncomputable def r222:RC:=(.seq (.ops [om 10 1,o 11 (.bin .add 3 true (.t 10) (.v (.int .i64 1))),om 8 11]) (.block 0 (.loop r222_l1)))
theorem k222:fnRC 222=some ([],r222):=by kernel_rfl
noncomputable def r253_b:RC:=(.seq (.seq (.drw 16 [om 43 4,om 44 0,om 45 3,om 46 10,o 47 (.bin .add 3 false (.t 45) (.t 46)),o 48 (.ixa 2 (.t 44) (.t 47)),o 49 (.ldn 2 (.t 48)),om 50 0,om 51 3,om 52 11,o 53 (.bin .add 3 false (.t 51) (.t 52)),o 54 (.ixa 2 (.t 50) (.t 53)),o 55 (.ldn 2 (.t 54)),
 ⟨some 56,none,none,true,.callv (.t 43) [(.t 49),(.t 55)]⟩,o 57 (.bin .lss 3 true (.t 56) (.v (.int .i64 0))),o 58 (.un .not (.t 57))]) (.cond (.t 58) .ret .skip)) (.seq (.drw 24 [om 59 0,om 60 3,om 61 10,o 62 (.bin .add 3 false (.t 60) (.t 61)),om 63 0,om 64 3,om 65 11,o 66 (.bin .add 3 false (.t 64) (.t 65)),om 67 0,om 68 3,om 69 11,o 70 (.bin .add 3 false (.t 68) (.t 69)),o 71 (.ixa 2 (.t 67) (.t 70)),o 72 (.ldn 2 (.t 71)),om 73 0,om 74 3,om 75 10,o 76 (.bin .add 3 false (.t 74) (.t 75)),o 77 (.ixa 2 (.t 73) (.t 76)),o 78 (.ldn 2 (.t 77)),o 79 (.ixa 2 (.t 59) (.t 62)),
 ⟨none,none,none,true,.st 2 (.t 79) (.t 72)⟩,o 80 (.ixa 2 (.t 63) (.t 66)),
 ⟨none,none,none,true,.st 2 (.t 80) (.t 78)⟩]) (.ops [om 81 11,om 10 81])))
noncomputable def r253_l0:RC:=(.block 1 (.seq (.ops [om 13 10,o 14 (.bin .mul 3 true (.v (.int .i64 2)) (.t 13)),o 15 (.bin .add 3 true (.t 14) (.v (.int .i64 1))),om 11 15]) (.seq (.seq (.ops [om 16 11,om 17 2,o 18 (.bin .geq 3 false (.t 16) (.t 17))]) (.cond (.t 18) (.exit 0) .skip)) (.seq (.seq (.drw 22 [om 19 11,o 20 (.bin .add 3 true (.t 19) (.v (.int .i64 1))),om 21 2,o 22 (.bin .lss 3 false (.t 20) (.t 21)),om 23 22,oT 24 23 (.mov (.t 4)),oT 25 23 (.mov (.t 0)),oT 26 23 (.mov (.t 3)),oT 27 23 (.mov (.t 11)),oT 28 23 (.bin .add 3 false (.t 26) (.t 27)),oT 29 23 (.ixa 2 (.t 25) (.t 28)),oT 30 23 (.ldn 2 (.t 29)),oT 31 23 (.mov (.t 0)),oT 32 23 (.mov (.t 3)),oT 33 23 (.mov (.t 11)),oT 34 23 (.bin .add 3 false (.t 32) (.t 33)),oT 35 23 (.bin .add 3 true (.t 34) (.v (.int .i64 1))),oT 36 23 (.ixa 2 (.t 31) (.t 35)),oT 37 23 (.ldn 2 (.t 36)),
 ⟨some 38,some (23,true),none,true,.callv (.t 24) [(.t 30),(.t 37)]⟩,oT 39 23 (.bin .lss 3 true (.t 38) (.v (.int .i64 0))),o 40 (.pick (.t 23) (.t 39) (.v (.bool false)))]) (.cond (.t 40) (.ops [om 41 11,o 42 (.bin .add 3 true (.t 41) (.v (.int .i64 1))),om 11 42]) .skip)) r253_b))))
noncomputable def r253:RC:=(.seq (.ops [om 12 1,om 10 12]) (.block 0 (.loop r253_l0)))
theorem k253:fnRC 253=some ([],r253):=by kernel_rfl
noncomputable def r223_l0:RC:=(.seq (.seq (.ops [om 20 11,o 21 (.bin .geq 3 true (.t 20) (.v (.int .i64 0)))]) (.cond (.t 21) .skip (.exit 0))) (.seq (.block 1 (.ops [om 24 0,om 25 11,om 26 10,om 27 8,om 28 3,o 29 (.call 253 [(.t 24),(.t 25),(.t 26),(.t 27),(.t 28)])])) (.ops [om 22 11,o 23 (.bin .sub 3 true (.t 22) (.v (.int .i64 1))),om 11 23])))
noncomputable def r223_l1:RC:=(.seq (.seq (.ops [om 32 12,o 33 (.bin .geq 3 true (.t 32) (.v (.int .i64 0)))]) (.cond (.t 33) .skip (.exit 2))) (.seq (.block 3 (.seq (.drw 20 [om 36 0,om 37 8,om 38 0,om 39 8,om 40 12,o 41 (.bin .add 3 false (.t 39) (.t 40)),om 42 0,om 43 8,om 44 12,o 45 (.bin .add 3 false (.t 43) (.t 44)),o 46 (.ixa 2 (.t 42) (.t 45)),o 47 (.ldn 2 (.t 46)),om 48 0,om 49 8,o 50 (.ixa 2 (.t 48) (.t 49)),o 51 (.ldn 2 (.t 50)),o 52 (.ixa 2 (.t 36) (.t 37)),
 ⟨none,none,none,true,.st 2 (.t 52) (.t 47)⟩,o 53 (.ixa 2 (.t 38) (.t 41)),
 ⟨none,none,none,true,.st 2 (.t 53) (.t 51)⟩]) (.ops [om 54 0,om 55 9,om 56 12,om 57 8,om 58 3,o 59 (.call 253 [(.t 54),(.t 55),(.t 56),(.t 57),(.t 58)])]))) (.ops [om 34 12,o 35 (.bin .sub 3 true (.t 34) (.v (.int .i64 1))),om 12 35])))
noncomputable def r223:RC:=(.seq (.ops [om 13 1,om 8 13]) (.seq (.ops [o 9 (.mov (.v (.int .i64 0)))]) (.seq (.ops [om 14 2,om 15 1,o 16 (.bin .sub 3 false (.t 14) (.t 15)),om 10 16]) (.seq (.seq (.ops [om 17 10,o 18 (.bin .sub 3 true (.t 17) (.v (.int .i64 1))),o 19 (.bin .quo 3 true (.t 18) (.v (.int .i64 2))),om 11 19]) (.block 0 (.loop r223_l0))) (.seq (.ops [om 30 10,o 31 (.bin .sub 3 true (.t 30) (.v (.int .i64 1))),om 12 31]) (.block 2 (.loop r223_l1)))))))
theorem k223:fnRC 223=some ([],r223):=by kernel_rfl
noncomputable def r226_l0:RC:=(.seq (.seq (.ops [om 13 8,om 14 9,o 15 (.bin .lss 3 false (.t 13) (.t 14))]) (.cond (.t 15) .skip (.exit 0))) (.block 1 (.seq (.drw 16 [om 16 0,om 17 8,om 18 0,om 19 9,om 20 0,om 21 9,o 22 (.ixa 2 (.t 20) (.t 21)),o 23 (.ldn 2 (.t 22)),om 24 0,om 25 8,o 26 (.ixa 2 (.t 24) (.t 25)),o 27 (.ldn 2 (.t 26)),o 28 (.ixa 2 (.t 16) (.t 17)),
 ⟨none,none,none,true,.st 2 (.t 28) (.t 23)⟩,o 29 (.ixa 2 (.t 18) (.t 19)),
 ⟨none,none,none,true,.st 2 (.t 29) (.t 27)⟩]) (.seq (.ops [om 30 8,o 31 (.bin .add 3 true (.t 30) (.v (.int .i64 1))),om 8 31]) (.ops [om 32 9,o 33 (.bin .sub 3 true (.t 32) (.v (.int .i64 1))),om 9 33])))))
noncomputable def r226:RC:=(.seq (.ops [om 10 1,om 8 10]) (.seq (.ops [om 11 2,o 12 (.bin .sub 3 true (.t 11) (.v (.int .i64 1))),om 9 12]) (.block 0 (.loop r226_l0))))
theorem k226:fnRC 226=some ([],r226):=by kernel_rfl
noncomputable def r229_l0:RC:=(.seq (.seq (.drw 16 [om 32 12,om 33 13,o 34 (.bin .leq 3 false (.t 32) (.t 33)),om 35 34,oT 36 35 (.mov (.t 4)),oT 37 35 (.mov (.t 0)),oT 38 35 (.mov (.t 12)),oT 39 35 (.ixa 2 (.t 37) (.t 38)),oT 40 35 (.ldn 2 (.t 39)),oT 41 35 (.mov (.t 0)),oT 42 35 (.mov (.t 1)),oT 43 35 (.ixa 2 (.t 41) (.t 42)),oT 44 35 (.ldn 2 (.t 43)),
 ⟨some 45,some (35,true),none,true,.callv (.t 36) [(.t 40),(.t 44)]⟩,oT 46 35 (.bin .lss 3 true (.t 45) (.v (.int .i64 0))),o 47 (.pick (.t 35) (.t 46) (.v (.bool false)))]) (.cond (.t 47) .skip (.exit 0))) (.block 1 (.ops [om 48 12,o 49 (.bin .add 3 true (.t 48) (.v (.int .i64 1))),om 12 49])))
noncomputable def r229_l1:RC:=(.seq (.seq (.drw 17 [om 50 12,om 51 13,o 52 (.bin .leq 3 false (.t 50) (.t 51)),om 53 52,oT 54 53 (.mov (.t 4)),oT 55 53 (.mov (.t 0)),oT 56 53 (.mov (.t 13)),oT 57 53 (.ixa 2 (.t 55) (.t 56)),oT 58 53 (.ldn 2 (.t 57)),oT 59 53 (.mov (.t 0)),oT 60 53 (.mov (.t 1)),oT 61 53 (.ixa 2 (.t 59) (.t 60)),oT 62 53 (.ldn 2 (.t 61)),
 ⟨some 63,some (53,true),none,true,.callv (.t 54) [(.t 58),(.t 62)]⟩,oT 64 53 (.bin .lss 3 true (.t 63) (.v (.int .i64 0))),oT 65 53 (.un .not (.t 64)),o 66 (.pick (.t 53) (.t 65) (.v (.bool false)))]) (.cond (.t 66) .skip (.exit 2))) (.block 3 (.ops [om 67 13,o 68 (.bin .sub 3 true (.t 67) (.v (.int .i64 1))),om 13 68])))
noncomputable def r229_l2:RC:=(.seq (.seq (.drw 16 [om 105 12,om 106 13,o 107 (.bin .leq 3 false (.t 105) (.t 106)),om 108 107,oT 109 108 (.mov (.t 4)),oT 110 108 (.mov (.t 0)),oT 111 108 (.mov (.t 12)),oT 112 108 (.ixa 2 (.t 110) (.t 111)),oT 113 108 (.ldn 2 (.t 112)),oT 114 108 (.mov (.t 0)),oT 115 108 (.mov (.t 1)),oT 116 108 (.ixa 2 (.t 114) (.t 115)),oT 117 108 (.ldn 2 (.t 116)),
 ⟨some 118,some (108,true),none,true,.callv (.t 109) [(.t 113),(.t 117)]⟩,oT 119 108 (.bin .lss 3 true (.t 118) (.v (.int .i64 0))),o 120 (.pick (.t 108) (.t 119) (.v (.bool false)))]) (.cond (.t 120) .skip (.exit 6))) (.block 7 (.ops [om 121 12,o 122 (.bin .add 3 true (.t 121) (.v (.int .i64 1))),om 12 122])))
noncomputable def r229_l3:RC:=(.seq (.seq (.drw 17 [om 123 12,om 124 13,o 125 (.bin .leq 3 false (.t 123) (.t 124)),om 126 125,oT 127 126 (.mov (.t 4)),oT 128 126 (.mov (.t 0)),oT 129 126 (.mov (.t 13)),oT 130 126 (.ixa 2 (.t 128) (.t 129)),oT 131 126 (.ldn 2 (.t 130)),oT 132 126 (.mov (.t 0)),oT 133 126 (.mov (.t 1)),oT 134 126 (.ixa 2 (.t 132) (.t 133)),oT 135 126 (.ldn 2 (.t 134)),
 ⟨some 136,some (126,true),none,true,.callv (.t 127) [(.t 131),(.t 135)]⟩,oT 137 126 (.bin .lss 3 true (.t 136) (.v (.int .i64 0))),oT 138 126 (.un .not (.t 137)),o 139 (.pick (.t 126) (.t 138) (.v (.bool false)))]) (.cond (.t 139) .skip (.exit 8))) (.block 9 (.ops [om 140 13,o 141 (.bin .sub 3 true (.t 140) (.v (.int .i64 1))),om 13 141])))
noncomputable def r229_l4:RC:=(.block 5 (.seq (.block 6 (.loop r229_l2)) (.seq (.block 8 (.loop r229_l3)) (.seq (.seq (.ops [om 142 12,om 143 13,o 144 (.bin .gtr 3 false (.t 142) (.t 143))]) (.cond (.t 144) (.exit 4) .skip)) (.seq (.drw 16 [om 145 0,om 146 12,om 147 0,om 148 13,om 149 0,om 150 13,o 151 (.ixa 2 (.t 149) (.t 150)),o 152 (.ldn 2 (.t 151)),om 153 0,om 154 12,o 155 (.ixa 2 (.t 153) (.t 154)),o 156 (.ldn 2 (.t 155)),o 157 (.ixa 2 (.t 145) (.t 146)),
 ⟨none,none,none,true,.st 2 (.t 157) (.t 152)⟩,o 158 (.ixa 2 (.t 147) (.t 148)),
 ⟨none,none,none,true,.st 2 (.t 158) (.t 156)⟩]) (.seq (.ops [om 159 12,o 160 (.bin .add 3 true (.t 159) (.v (.int .i64 1))),om 12 160]) (.ops [om 161 13,o 162 (.bin .sub 3 true (.t 161) (.v (.int .i64 1))),om 13 162])))))))
noncomputable def r229:RC:=(.seq (.ops [o 10 (.mov (.v (.int .i64 0))),o 11 (.mov (.v (.bool false)))]) (.seq (.drw 16 [om 14 0,om 15 1,om 16 0,om 17 3,om 18 0,om 19 3,o 20 (.ixa 2 (.t 18) (.t 19)),o 21 (.ldn 2 (.t 20)),om 22 0,om 23 1,o 24 (.ixa 2 (.t 22) (.t 23)),o 25 (.ldn 2 (.t 24)),o 26 (.ixa 2 (.t 14) (.t 15)),
 ⟨none,none,none,true,.st 2 (.t 26) (.t 21)⟩,o 27 (.ixa 2 (.t 16) (.t 17)),
 ⟨none,none,none,true,.st 2 (.t 27) (.t 25)⟩]) (.seq (.ops [om 28 1,o 29 (.bin .add 3 true (.t 28) (.v (.int .i64 1))),om 30 2,o 31 (.bin .sub 3 true (.t 30) (.v (.int .i64 1))),om 12 29,om 13 31]) (.seq (.block 0 (.loop r229_l0)) (.seq (.block 2 (.loop r229_l1)) (.seq (.seq (.ops [om 69 12,om 70 13,o 71 (.bin .gtr 3 false (.t 69) (.t 70))]) (.cond (.t 71) (.seq (.drw 16 [om 72 0,om 73 13,om 74 0,om 75 1,om 76 0,om 77 1,o 78 (.ixa 2 (.t 76) (.t 77)),o 79 (.ldn 2 (.t 78)),om 80 0,om 81 13,o 82 (.ixa 2 (.t 80) (.t 81)),o 83 (.ldn 2 (.t 82)),o 84 (.ixa 2 (.t 72) (.t 73)),
 ⟨none,none,none,true,.st 2 (.t 84) (.t 79)⟩,o 85 (.ixa 2 (.t 74) (.t 75)),
 ⟨none,none,none,true,.st 2 (.t 85) (.t 83)⟩]) (.seq (.ops [om 86 13,om 10 86,o 11 (.mov (.v (.bool true)))]) .ret)) .skip)) (.seq (.drw 16 [om 87 0,om 88 12,om 89 0,om 90 13,om 91 0,om 92 13,o 93 (.ixa 2 (.t 91) (.t 92)),o 94 (.ldn 2 (.t 93)),om 95 0,om 96 12,o 97 (.ixa 2 (.t 95) (.t 96)),o 98 (.ldn 2 (.t 97)),o 99 (.ixa 2 (.t 87) (.t 88)),
 ⟨none,none,none,true,.st 2 (.t 99) (.t 94)⟩,o 100 (.ixa 2 (.t 89) (.t 90)),
 ⟨none,none,none,true,.st 2 (.t 100) (.t 98)⟩]) (.seq (.ops [om 101 12,o 102 (.bin .add 3 true (.t 101) (.v (.int .i64 1))),om 12 102]) (.seq (.ops [om 103 13,o 104 (.bin .sub 3 true (.t 103) (.v (.int .i64 1))),om 13 104]) (.seq (.block 4 (.loop r229_l4)) (.seq (.drw 16 [om 163 0,om 164 13,om 165 0,om 166 1,om 167 0,om 168 1,o 169 (.ixa 2 (.t 167) (.t 168)),o 170 (.ldn 2 (.t 169)),om 171 0,om 172 13,o 173 (.ixa 2 (.t 171) (.t 172)),o 174 (.ldn 2 (.t 173)),o 175 (.ixa 2 (.t 163) (.t 164)),
 ⟨none,none,none,true,.st 2 (.t 175) (.t 170)⟩,o 176 (.ixa 2 (.t 165) (.t 166)),
 ⟨none,none,none,true,.st 2 (.t 176) (.t 174)⟩]) (.seq (.ops [om 177 13,om 10 177,o 11 (.mov (.v (.bool false)))]) .ret))))))))))))
theorem k229:fnRC 229=some ([.tmp 10,.tmp 11],r229):=by kernel_rfl
noncomputable def r227_l0:RC:=(.seq (.seq (.drw 18 [om 19 9,om 20 2,o 21 (.bin .lss 3 false (.t 19) (.t 20)),om 22 21,oT 23 22 (.mov (.t 3)),oT 24 22 (.mov (.t 0)),oT 25 22 (.mov (.t 9)),oT 26 22 (.ixa 2 (.t 24) (.t 25)),oT 27 22 (.ldn 2 (.t 26)),oT 28 22 (.mov (.t 0)),oT 29 22 (.mov (.t 9)),oT 30 22 (.bin .sub 3 true (.t 29) (.v (.int .i64 1))),oT 31 22 (.ixa 2 (.t 28) (.t 30)),oT 32 22 (.ldn 2 (.t 31)),
 ⟨some 33,some (22,true),none,true,.callv (.t 23) [(.t 27),(.t 32)]⟩,oT 34 22 (.bin .lss 3 true (.t 33) (.v (.int .i64 0))),oT 35 22 (.un .not (.t 34)),o 36 (.pick (.t 22) (.t 35) (.v (.bool false)))]) (.cond (.t 36) .skip (.exit 2))) (.block 3 (.ops [om 37 9,o 38 (.bin .add 3 true (.t 37) (.v (.int .i64 1))),om 9 38])))
noncomputable def r227_l1:RC:=(.seq (.seq (.ops [om 68 11,o 69 (.bin .geq 3 true (.t 68) (.v (.int .i64 1)))]) (.cond (.t 69) .skip (.exit 4))) (.seq (.block 5 (.seq (.seq (.drw 13 [om 72 3,om 73 0,om 74 11,o 75 (.ixa 2 (.t 73) (.t 74)),o 76 (.ldn 2 (.t 75)),om 77 0,om 78 11,o 79 (.bin .sub 3 true (.t 78) (.v (.int .i64 1))),o 80 (.ixa 2 (.t 77) (.t 79)),o 81 (.ldn 2 (.t 80)),
 ⟨some 82,none,none,true,.callv (.t 72) [(.t 76),(.t 81)]⟩,o 83 (.bin .lss 3 true (.t 82) (.v (.int .i64 0))),o 84 (.un .not (.t 83))]) (.cond (.t 84) (.exit 4) .skip)) (.drw 18 [om 85 0,om 86 11,om 87 0,om 88 11,o 89 (.bin .sub 3 true (.t 88) (.v (.int .i64 1))),om 90 0,om 91 11,o 92 (.bin .sub 3 true (.t 91) (.v (.int .i64 1))),o 93 (.ixa 2 (.t 90) (.t 92)),o 94 (.ldn 2 (.t 93)),om 95 0,om 96 11,o 97 (.ixa 2 (.t 95) (.t 96)),o 98 (.ldn 2 (.t 97)),o 99 (.ixa 2 (.t 85) (.t 86)),
 ⟨none,none,none,true,.st 2 (.t 99) (.t 94)⟩,o 100 (.ixa 2 (.t 87) (.t 89)),
 ⟨none,none,none,true,.st 2 (.t 100) (.t 98)⟩]))) (.ops [om 70 11,o 71 (.bin .sub 3 true (.t 70) (.v (.int .i64 1))),om 11 71])))
noncomputable def r227_l2:RC:=(.seq (.seq (.ops [om 107 12,om 108 2,o 109 (.bin .lss 3 false (.t 107) (.t 108))]) (.cond (.t 109) .skip (.exit 6))) (.seq (.block 7 (.seq (.seq (.drw 13 [om 112 3,om 113 0,om 114 12,o 115 (.ixa 2 (.t 113) (.t 114)),o 116 (.ldn 2 (.t 115)),om 117 0,om 118 12,o 119 (.bin .sub 3 true (.t 118) (.v (.int .i64 1))),o 120 (.ixa 2 (.t 117) (.t 119)),o 121 (.ldn 2 (.t 120)),
 ⟨some 122,none,none,true,.callv (.t 112) [(.t 116),(.t 121)]⟩,o 123 (.bin .lss 3 true (.t 122) (.v (.int .i64 0))),o 124 (.un .not (.t 123))]) (.cond (.t 124) (.exit 6) .skip)) (.drw 18 [om 125 0,om 126 12,om 127 0,om 128 12,o 129 (.bin .sub 3 true (.t 128) (.v (.int .i64 1))),om 130 0,om 131 12,o 132 (.bin .sub 3 true (.t 131) (.v (.int .i64 1))),o 133 (.ixa 2 (.t 130) (.t 132)),o 134 (.ldn 2 (.t 133)),om 135 0,om 136 12,o 137 (.ixa 2 (.t 135) (.t 136)),o 138 (.ldn 2 (.t 137)),o 139 (.ixa 2 (.t 125) (.t 126)),
 ⟨none,none,none,true,.st 2 (.t 139) (.t 134)⟩,o 140 (.ixa 2 (.t 127) (.t 129)),
 ⟨none,none,none,true,.st 2 (.t 140) (.t 138)⟩]))) (.ops [om 110 12,o 111 (.bin .add 3 true (.t 110) (.v (.int .i64 1))),om 12 111])))
noncomputable def r227_c:RC:=(.seq (.ops [om 101 2,om 102 9,o 103 (.bin .sub 3 false (.t 101) (.t 102)),o 104 (.bin .geq 3 true (.t 103) (.v (.int .i64 2)))]) (.cond (.t 104) (.seq (.ops [om 105 9,o 106 (.bin .add 3 true (.t 105) (.v (.int .i64 1))),om 12 106]) (.block 6 (.loop r227_l2))) .skip))
noncomputable def r227_l3:RC:=(.seq (.seq (.ops [om 15 10,o 16 (.bin .lss 3 true (.t 15) (.v (.int .i64 5)))]) (.cond (.t 16) .skip (.exit 0))) (.seq (.block 1 (.seq (.block 2 (.loop r227_l0)) (.seq (.seq (.ops [om 39 9,om 40 2,o 41 (.bin .eql 3 false (.t 39) (.t 40))]) (.cond (.t 41) (.seq (.ops [o 8 (.mov (.v (.bool true)))]) .ret) .skip)) (.seq (.seq (.ops [om 42 2,om 43 1,o 44 (.bin .sub 3 false (.t 42) (.t 43)),o 45 (.bin .lss 3 true (.t 44) (.v (.int .i64 50)))]) (.cond (.t 45) (.seq (.ops [o 8 (.mov (.v (.bool false)))]) .ret) .skip)) (.seq (.drw 18 [om 46 0,om 47 9,om 48 0,om 49 9,o 50 (.bin .sub 3 true (.t 49) (.v (.int .i64 1))),om 51 0,om 52 9,o 53 (.bin .sub 3 true (.t 52) (.v (.int .i64 1))),o 54 (.ixa 2 (.t 51) (.t 53)),o 55 (.ldn 2 (.t 54)),om 56 0,om 57 9,o 58 (.ixa 2 (.t 56) (.t 57)),o 59 (.ldn 2 (.t 58)),o 60 (.ixa 2 (.t 46) (.t 47)),
 ⟨none,none,none,true,.st 2 (.t 60) (.t 55)⟩,o 61 (.ixa 2 (.t 48) (.t 50)),
 ⟨none,none,none,true,.st 2 (.t 61) (.t 59)⟩]) (.seq (.seq (.ops [om 62 9,om 63 1,o 64 (.bin .sub 3 false (.t 62) (.t 63)),o 65 (.bin .geq 3 true (.t 64) (.v (.int .i64 2)))]) (.cond (.t 65) (.seq (.ops [om 66 9,o 67 (.bin .sub 3 true (.t 66) (.v (.int .i64 1))),om 11 67]) (.block 4 (.loop r227_l1))) .skip)) r227_c)))))) (.ops [om 17 10,o 18 (.bin .add 3 true (.t 17) (.v (.int .i64 1))),om 10 18])))
noncomputable def r227:RC:=(.seq (.ops [o 8 (.mov (.v (.bool false)))]) (.seq (.ops [om 13 1,o 14 (.bin .add 3 true (.t 13) (.v (.int .i64 1))),om 9 14]) (.seq (.seq (.ops [o 10 (.mov (.v (.int .i64 0)))]) (.block 0 (.loop r227_l3))) (.seq (.ops [o 8 (.mov (.v (.bool false)))]) .ret))))
theorem k227:fnRC 227=some ([.tmp 8],r227):=by kernel_rfl
noncomputable def r225:RC:=(.seq (.ops [o 8 (.mov (.v (.int .i64 0))),o 9 (.mov (.v (.int .i64 0)))]) (.seq (.ops [om 15 2,om 16 1,o 17 (.bin .sub 3 false (.t 15) (.t 16)),om 10 17]) (.seq (.ops [o 11 (.al [(.int .i64 0)] 3)]) (.seq (.ops [om 18 1,om 19 10,o 20 (.bin .quo 3 true (.t 19) (.v (.int .i64 4))),o 21 (.bin .mul 3 true (.t 20) (.v (.int .i64 1))),o 22 (.bin .add 3 false (.t 18) (.t 21)),om 12 22]) (.seq (.ops [om 23 1,om 24 10,o 25 (.bin .quo 3 true (.t 24) (.v (.int .i64 4))),o 26 (.bin .mul 3 true (.t 25) (.v (.int .i64 2))),o 27 (.bin .add 3 false (.t 23) (.t 26)),om 13 27]) (.seq (.ops [om 28 1,om 29 10,o 30 (.bin .quo 3 true (.t 29) (.v (.int .i64 4))),o 31 (.bin .mul 3 true (.t 30) (.v (.int .i64 3))),o 32 (.bin .add 3 false (.t 28) (.t 31)),om 14 32]) (.seq (.seq (.ops [om 33 10,o 34 (.bin .geq 3 true (.t 33) (.v (.int .i64 8)))]) (.cond (.t 34) (.seq (.seq (.ops [om 35 10,o 36 (.bin .geq 3 true (.t 35) (.v (.int .i64 50)))]) (.cond (.t 36) (.seq (.ops [om 37 0,om 38 12,om 39 3,o 40 (.call 256 [(.t 37),(.t 38),(.t 11),(.t 39)]),om 12 40]) (.seq (.ops [om 41 0,om 42 13,om 43 3,o 44 (.call 256 [(.t 41),(.t 42),(.t 11),(.t 43)]),om 13 44]) (.ops [om 45 0,om 46 14,om 47 3,o 48 (.call 256 [(.t 45),(.t 46),(.t 11),(.t 47)]),om 14 48]))) .skip)) (.ops [om 49 0,om 50 12,om 51 13,om 52 14,om 53 3,o 54 (.call 257 [(.t 49),(.t 50),(.t 51),(.t 52),(.t 11),(.t 53)]),om 13 54])) .skip)) (.seq (.ops [o 55 (.ld1 (.t 11))]) (.block 0 (.seq (.ops [o 58 (.bin .eql 3 true (.t 55) (.v (.int .i64 0))),om 57 58]) (.cond (.t 57) (.seq (.ops [om 59 13,om 8 59,o 9 (.mov (.v (.int .i64 1)))]) .ret) (.seq (.ops [o 61 (.bin .eql 3 true (.t 55) (.v (.int .i64 12))),om 60 61]) (.cond (.t 60) (.seq (.ops [om 62 13,om 8 62,o 9 (.mov (.v (.int .i64 2)))]) .ret) (.seq (.ops [om 56 13,om 8 56,o 9 (.mov (.v (.int .i64 0)))]) .ret))))))))))))))
theorem k225:fnRC 225=some ([.tmp 8,.tmp 9],r225):=by kernel_rfl
noncomputable def r256:RC:=(.seq (.ops [o 8 (.mov (.v (.int .i64 0)))]) (.seq (.ops [om 9 0,om 10 1,o 11 (.bin .sub 3 true (.t 10) (.v (.int .i64 1))),om 12 1,om 13 1,o 14 (.bin .add 3 true (.t 13) (.v (.int .i64 1))),om 15 2,om 16 3,o 17 (.call 257 [(.t 9),(.t 11),(.t 12),(.t 14),(.t 15),(.t 16)]),om 8 17]) .ret))
theorem k256:fnRC 256=some ([.tmp 8],r256):=by kernel_rfl
noncomputable def r257:RC:=(.seq (.ops [o 12 (.mov (.v (.int .i64 0)))]) (.seq (.ops [om 14 0,om 15 1,om 16 2,om 17 4,om 18 5,o 19 (.call 274 [(.t 14),(.t 15),(.t 16),(.t 17),(.t 18)]),om 13 19,o 20 (.ext (.t 13) 0),o 21 (.ext (.t 13) 1),om 1 20,om 2 21]) (.seq (.ops [om 23 0,om 24 2,om 25 3,om 26 4,om 27 5,o 28 (.call 274 [(.t 23),(.t 24),(.t 25),(.t 26),(.t 27)]),om 22 28,o 29 (.ext (.t 22) 0),o 30 (.ext (.t 22) 1),om 2 29,om 3 30]) (.seq (.ops [om 32 0,om 33 1,om 34 2,om 35 4,om 36 5,o 37 (.call 274 [(.t 32),(.t 33),(.t 34),(.t 35),(.t 36)]),om 31 37,o 38 (.ext (.t 31) 0),o 39 (.ext (.t 31) 1),om 1 38,om 2 39]) (.seq (.ops [om 40 2,om 12 40]) .ret)))))
theorem k257:fnRC 257=some ([.tmp 12],r257):=by kernel_rfl
noncomputable def r274:RC:=(.seq (.ops [o 10 (.mov (.v (.int .i64 0))),o 11 (.mov (.v (.int .i64 0)))]) (.seq (.seq (.drw 11 [om 12 4,om 13 0,om 14 2,o 15 (.ixa 2 (.t 13) (.t 14)),o 16 (.ldn 2 (.t 15)),om 17 0,om 18 1,o 19 (.ixa 2 (.t 17) (.t 18)),o 20 (.ldn 2 (.t 19)),
 ⟨some 21,none,none,true,.callv (.t 12) [(.t 16),(.t 20)]⟩,o 22 (.bin .lss 3 true (.t 21) (.v (.int .i64 0)))]) (.cond (.t 22) (.seq (.ops [om 23 3,o 24 (.raw (.nilCheck (.tmp 23))),o 25 (.ld1 (.t 24)),o 26 (.bin .add 3 true (.t 25) (.v (.int .i64 1))),o 27 (.raw (.nilCheck (.tmp 23))),oS (.st 1 (.t 27) (.t 26))]) (.seq (.ops [om 28 2,om 29 1,om 10 28,om 11 29]) .ret)) .skip)) (.seq (.ops [om 30 1,om 31 2,om 10 30,om 11 31]) .ret)))
theorem k274:fnRC 274=some ([.tmp 10,.tmp 11],r274):=by kernel_rfl
noncomputable def r224_l0:RC:=(.seq (.seq (.ops [om 28 11,om 29 1,om 30 8,o 31 (.bin .quo 3 true (.t 30) (.v (.int .i64 4))),o 32 (.bin .mul 3 true (.t 31) (.v (.int .i64 2))),o 33 (.bin .add 3 false (.t 29) (.t 32)),o 34 (.bin .add 3 true (.t 33) (.v (.int .i64 1))),o 35 (.bin .leq 3 false (.t 28) (.t 34))]) (.cond (.t 35) .skip (.exit 0))) (.seq (.block 1 (.seq (.ops [o 38 (.call 255 [(.t 9)]),om 39 10,o 40 (.bin .sub 272 true (.t 39) (.v (.int .u64 1))),o 41 (.bin .and 272 false (.t 38) (.t 40)),o 42 (.raw (.convert 272 3 (.tmp 41))),om 12 42]) (.seq (.seq (.ops [om 43 12,om 44 8,o 45 (.bin .geq 3 false (.t 43) (.t 44))]) (.cond (.t 45) (.ops [om 46 12,om 47 8,o 48 (.bin .sub 3 false (.t 46) (.t 47)),om 12 48]) .skip)) (.drw 20 [om 49 0,om 50 11,om 51 0,om 52 1,om 53 12,o 54 (.bin .add 3 false (.t 52) (.t 53)),om 55 0,om 56 1,om 57 12,o 58 (.bin .add 3 false (.t 56) (.t 57)),o 59 (.ixa 2 (.t 55) (.t 58)),o 60 (.ldn 2 (.t 59)),om 61 0,om 62 11,o 63 (.ixa 2 (.t 61) (.t 62)),o 64 (.ldn 2 (.t 63)),o 65 (.ixa 2 (.t 49) (.t 50)),
 ⟨none,none,none,true,.st 2 (.t 65) (.t 60)⟩,o 66 (.ixa 2 (.t 51) (.t 54)),
 ⟨none,none,none,true,.st 2 (.t 66) (.t 64)⟩])))) (.ops [om 36 11,o 37 (.bin .add 3 true (.t 36) (.v (.int .i64 1))),om 11 37])))
noncomputable def r224:RC:=(.seq (.ops [om 13 2,om 14 1,o 15 (.bin .sub 3 false (.t 13) (.t 14)),om 8 15]) (.seq (.ops [om 16 8,o 17 (.bin .geq 3 true (.t 16) (.v (.int .i64 8)))]) (.cond (.t 17) (.seq (.ops [om 18 8,o 19 (.raw (.convert 3 317 (.tmp 18))),o 9 (.al [(.int .u64 0)] 317),oS (.st 1 (.t 9) (.t 19))]) (.seq (.ops [om 20 8,o 21 (.call 254 [(.t 20)]),om 10 21]) (.seq (.ops [om 22 1,om 23 8,o 24 (.bin .quo 3 true (.t 23) (.v (.int .i64 4))),o 25 (.bin .mul 3 true (.t 24) (.v (.int .i64 2))),o 26 (.bin .add 3 false (.t 22) (.t 25)),o 27 (.bin .sub 3 true (.t 26) (.v (.int .i64 1))),om 11 27]) (.block 0 (.loop r224_l0))))) .skip)))
theorem k224:fnRC 224=some ([],r224):=by kernel_rfl
noncomputable def r255:RC:=(.seq (.ops [o 2 (.mov (.v (.int .u64 0)))]) (.seq (.drw 10 [om 3 0,o 4 (.raw (.nilCheck (.tmp 3))),o 5 (.ld1 (.t 4)),om 6 0,o 7 (.raw (.nilCheck (.tmp 6))),o 8 (.ld1 (.t 7)),o 9 (.bin .shl 317 true (.t 8) (.v (.int .u64 13))),o 10 (.bin .xor 317 false (.t 5) (.t 9)),o 11 (.raw (.nilCheck (.tmp 3))),
 ⟨none,none,none,true,.st 1 (.t 11) (.t 10)⟩]) (.seq (.drw 10 [om 12 0,o 13 (.raw (.nilCheck (.tmp 12))),o 14 (.ld1 (.t 13)),om 15 0,o 16 (.raw (.nilCheck (.tmp 15))),o 17 (.ld1 (.t 16)),o 18 (.bin .shr 317 true (.t 17) (.v (.int .u64 7))),o 19 (.bin .xor 317 false (.t 14) (.t 18)),o 20 (.raw (.nilCheck (.tmp 12))),
 ⟨none,none,none,true,.st 1 (.t 20) (.t 19)⟩]) (.seq (.drw 10 [om 21 0,o 22 (.raw (.nilCheck (.tmp 21))),o 23 (.ld1 (.t 22)),om 24 0,o 25 (.raw (.nilCheck (.tmp 24))),o 26 (.ld1 (.t 25)),o 27 (.bin .shl 317 true (.t 26) (.v (.int .u64 17))),o 28 (.bin .xor 317 false (.t 23) (.t 27)),o 29 (.raw (.nilCheck (.tmp 21))),
 ⟨none,none,none,true,.st 1 (.t 29) (.t 28)⟩]) (.seq (.ops [om 30 0,o 31 (.raw (.nilCheck (.tmp 30))),o 32 (.ld1 (.t 31)),om 2 32]) .ret)))))
theorem k255:fnRC 255=some ([.tmp 2],r255):=by kernel_rfl
noncomputable def r183:RC:=(.seq (.ops [o 4 (.box 186 (.t 0)),o 6 (.mov (.v (.bool false)))]) (.seq (.drw 20 [o 7 (.fa 2 (.t 2)),o 8 (.ld1 (.t 7)),o 9 (.ixp 2 1 (.t 4) (.v (.int .i64 0))),o 10 (.ld1 (.t 9)),o 11 (.ixa 1 (.t 8) (.t 10)),o 12 (.ld1 (.t 11)),om 13 1,o 14 (.ixa 1 (.t 12) (.t 13)),o 15 (.ld1 (.t 14)),o 16 (.fa 2 (.t 3)),o 17 (.ld1 (.t 16)),o 18 (.ixp 2 1 (.t 4) (.v (.int .i64 1))),o 19 (.ld1 (.t 18)),o 20 (.ixa 1 (.t 17) (.t 19)),o 21 (.ld1 (.t 20)),om 22 1,o 23 (.ixa 1 (.t 21) (.t 22)),o 24 (.ld1 (.t 23)),o 25 (.bin .eql 4 false (.t 15) (.t 24)),om 6 25]) .ret))
theorem k183:fnRC 183=some ([.tmp 6],r183):=by kernel_rfl
def r44_l0:RC:=(.seq (.seq (.ops [om 30 5,o 31 (.fa 1 (.t 2)),o 32 (.ld1 (.t 31)),o 33 (.lenL (.t 32)),o 34 (.bin .lss 3 false (.t 30) (.t 33))]) (.cond (.t 34) .skip (.exit 0))) (.seq (.block 1 (.seq (.ops [o 37 (.fa 1 (.t 2)),o 38 (.ld1 (.t 37)),om 39 5,o 40 (.ixa 1 (.t 38) (.t 39)),o 41 (.ld1 (.t 40)),o 42 (.lenL (.t 41)),o 43 (.bin .gtr 3 true (.t 42) (.v (.int .i64 18)))]) (.cond (.t 43) (.seq (.ops [o 4 (.mov (.v (.bool false)))]) .ret) .skip))) (.ops [om 35 5,o 36 (.bin .add 3 true (.t 35) (.v (.int .i64 1))),om 5 36])))
def r44_l1:RC:=(.seq (.seq (.ops [om 44 6,o 45 (.fa 2 (.t 2)),o 46 (.ld1 (.t 45)),o 47 (.lenL (.t 46)),o 48 (.bin .lss 3 false (.t 44) (.t 47))]) (.cond (.t 48) .skip (.exit 2))) (.seq (.block 3 (.seq (.ops [o 51 (.fa 2 (.t 2)),o 52 (.ld1 (.t 51)),om 53 6,o 54 (.ixa 1 (.t 52) (.t 53)),o 55 (.ld1 (.t 54)),o 56 (.lenL (.t 55)),o 57 (.bin .gtr 3 true (.t 56) (.v (.int .i64 18)))]) (.cond (.t 57) (.seq (.ops [o 4 (.mov (.v (.bool false)))]) .ret) .skip))) (.ops [om 49 6,o 50 (.bin .add 3 true (.t 49) (.v (.int .i64 1))),om 6 50])))
def r44:RC:=(.seq (.ops [o 2 (.box 72 (.t 0)),o 4 (.mov (.v (.bool false)))]) (.seq (.seq (.ops [o 7 (.fa 1 (.t 2)),o 8 (.ld1 (.t 7)),o 9 (.lenL (.t 8)),om 10 1,o 11 (.bin .gtr 3 false (.t 9) (.t 10)),om 12 11,oT 13 12 (.fa 1 (.t 2)),oT 14 12 (.ld1 (.t 13)),oT 15 12 (.lenL (.t 14)),oT 16 12 (.bin .leq 3 true (.t 15) (.v (.int .i64 256))),o 17 (.pick (.t 12) (.t 16) (.v (.bool false))),om 18 17,oF 19 18 (.fa 1 (.t 2)),oF 20 18 (.ld1 (.t 19)),oF 21 18 (.lenL (.t 20)),oF 22 18 (.bin .gtr 3 true (.t 21) (.v (.int .i64 258))),o 23 (.pick (.t 18) (.v (.bool true)) (.t 22)),om 24 23,oF 25 24 (.fa 2 (.t 2)),oF 26 24 (.ld1 (.t 25)),oF 27 24 (.lenL (.t 26)),oF 28 24 (.bin .gtr 3 true (.t 27) (.v (.int .i64 260))),o 29 (.pick (.t 24) (.v (.bool true)) (.t 28))]) (.cond (.t 29) (.seq (.ops [o 4 (.mov (.v (.bool false)))]) .ret) .skip)) (.seq (.seq (.ops [o 5 (.mov (.v (.int .i64 0)))]) (.block 0 (.loop r44_l0))) (.seq (.seq (.ops [o 6 (.mov (.v (.int .i64 0)))]) (.block 2 (.loop r44_l1))) (.seq (.ops [o 4 (.mov (.v (.bool true)))]) .ret)))))
theorem k44:fnRC 44=some ([.tmp 4],r44):=by kernel_rfl
def r50_l0:RC:=(.seq (.seq (.ops [om 52 4,o 53 (.fa 1 (.t 1)),o 54 (.ld1 (.t 53)),om 55 3,o 56 (.ixa 1 (.t 54) (.t 55)),o 57 (.ld1 (.t 56)),o 58 (.lenL (.t 57)),o 59 (.bin .lss 3 false (.t 52) (.t 58))]) (.cond (.t 59) .skip (.exit 2))) (.seq (.block 3 (.seq (.drw 13 [o 62 (.fa 1 (.t 1)),o 63 (.ld1 (.t 62)),om 64 3,o 65 (.ixa 1 (.t 63) (.t 64)),o 66 (.ld1 (.t 65)),om 67 4,o 68 (.ixa 1 (.t 66) (.t 67)),o 69 (.ld1 (.t 68)),o 70 (.fa 1 (.t 1)),o 71 (.ld1 (.t 70)),o 72 (.lenL (.t 71)),o 73 (.bin .sub 3 true (.t 72) (.v (.int .i64 1))),o 74 (.call 94 [(.t 69),(.v (.int .i64 0)),(.t 73)])]) (.cond (.t 74) (.seq (.ops [o 2 (.mov (.v (.int .i64 10)))]) .ret) .skip))) (.ops [om 60 4,o 61 (.bin .add 3 true (.t 60) (.v (.int .i64 1))),om 4 61])))
def r50_l1:RC:=(.seq (.seq (.ops [om 23 3,o 24 (.fa 1 (.t 1)),o 25 (.ld1 (.t 24)),o 26 (.lenL (.t 25)),o 27 (.bin .lss 3 false (.t 23) (.t 26))]) (.cond (.t 27) .skip (.exit 0))) (.seq (.block 1 (.seq (.seq (.drw 22 [o 30 (.fa 1 (.t 1)),o 31 (.ld1 (.t 30)),om 32 3,o 33 (.ixa 1 (.t 31) (.t 32)),o 34 (.ld1 (.t 33)),o 35 (.lenL (.t 34)),o 36 (.fa 0 (.t 1)),o 37 (.ld1 (.t 36)),o 38 (.bin .shl 3 true (.v (.int .i64 1)) (.t 37)),o 39 (.bin .neq 3 false (.t 35) (.t 38)),om 40 39,oF 41 40 (.fa 2 (.t 1)),oF 42 40 (.ld1 (.t 41)),oF 43 40 (.mov (.t 3)),oF 44 40 (.ixa 1 (.t 42) (.t 43)),oF 45 40 (.ld1 (.t 44)),oF 46 40 (.lenL (.t 45)),oF 47 40 (.fa 0 (.t 1)),oF 48 40 (.ld1 (.t 47)),oF 49 40 (.bin .shl 3 true (.v (.int .i64 1)) (.t 48)),oF 50 40 (.bin .neq 3 false (.t 46) (.t 49)),o 51 (.pick (.t 40) (.v (.bool true)) (.t 50))]) (.cond (.t 51) (.seq (.ops [o 2 (.mov (.v (.int .i64 2)))]) .ret) .skip)) (.seq (.ops [o 4 (.mov (.v (.int .i64 0)))]) (.block 2 (.loop r50_l0))))) (.ops [om 28 3,o 29 (.bin .add 3 true (.t 28) (.v (.int .i64 1))),om 3 29])))
def r50:RC:=(.seq (.ops [o 1 (.box 72 (.t 0)),o 2 (.mov (.v (.int .i64 0)))]) (.seq (.seq (.ops [o 5 (.fa 0 (.t 1)),o 6 (.ld1 (.t 5)),o 7 (.call 94 [(.t 6),(.v (.int .i64 1)),(.v (.int .i64 4))])]) (.cond (.t 7) (.seq (.ops [o 2 (.mov (.v (.int .i64 3)))]) .ret) .skip)) (.seq (.seq (.ops [o 8 (.fa 1 (.t 1)),o 9 (.ld1 (.t 8)),o 10 (.lenL (.t 9)),o 11 (.bin .eql 3 true (.t 10) (.v (.int .i64 0)))]) (.cond (.t 11) (.seq (.ops [o 2 (.mov (.v (.int .i64 12)))]) .ret) .skip)) (.seq (.seq (.ops [o 12 (.fa 1 (.t 1)),o 13 (.ld1 (.t 12)),o 14 (.lenL (.t 13)),o 15 (.bin .gtr 3 true (.t 14) (.v (.int .i64 256)))]) (.cond (.t 15) (.seq (.ops [o 2 (.mov (.v (.int .i64 5)))]) .ret) .skip)) (.seq (.seq (.ops [o 16 (.fa 2 (.t 1)),o 17 (.ld1 (.t 16)),o 18 (.lenL (.t 17)),o 19 (.fa 1 (.t 1)),o 20 (.ld1 (.t 19)),o 21 (.lenL (.t 20)),o 22 (.bin .neq 3 false (.t 18) (.t 21))]) (.cond (.t 22) (.seq (.ops [o 2 (.mov (.v (.int .i64 2)))]) .ret) .skip)) (.seq (.seq (.ops [o 3 (.mov (.v (.int .i64 0)))]) (.block 0 (.loop r50_l1))) (.seq (.ops [o 2 (.mov (.v (.int .i64 0)))]) .ret)))))))
theorem k50:fnRC 50=some ([.tmp 2],r50):=by kernel_rfl
def r58_l0:RC:=(.seq (.ops [o 39 (.bin .lss 3 false (.t 38) (.t 37))]) (.seq (.cond (.t 39) .skip (.exit 0)) (.seq (.block 1 (.seq (.ops [om 40 38,o 41 (.ixa 1 (.t 36) (.t 38)),o 42 (.ld1 (.t 41)),om 4 40,om 5 42]) (.seq (.drw 19 [om 43 5,o 44 (.lenL (.t 43)),o 45 (.fa 0 (.t 1)),o 46 (.ld1 (.t 45)),o 47 (.bin .shl 3 true (.v (.int .i64 1)) (.t 46)),o 48 (.bin .neq 3 false (.t 44) (.t 47)),om 49 48,oF 50 49 (.fa 2 (.t 1)),oF 51 49 (.ld1 (.t 50)),oF 52 49 (.mov (.t 4)),oF 53 49 (.ixa 1 (.t 51) (.t 52)),oF 54 49 (.ld1 (.t 53)),oF 55 49 (.lenL (.t 54)),oF 56 49 (.fa 0 (.t 1)),oF 57 49 (.ld1 (.t 56)),oF 58 49 (.bin .shl 3 true (.v (.int .i64 1)) (.t 57)),oF 59 49 (.bin .neq 3 false (.t 55) (.t 58)),o 60 (.pick (.t 49) (.v (.bool true)) (.t 59)),om 6 60]) (.seq (.ops [om 61 5,o 62 (.mkf 126 [] [(.t 1)]),o 63 (.call 125 [(.t 61),(.t 62)]),om 7 63]) (.seq (.ops [om 64 6,o 65 (.call 116 [(.t 64),(.v (.int .i64 2))]),om 66 7,o 67 (.call 116 [(.t 66),(.v (.int .i64 10))]),o 68 (.bsl 26 1 2 [(.int .i64 0),(.int .i64 0)] [(0,1,(.t 65)),(1,1,(.t 67))]),o 69 (.call 89 [(.t 68)]),om 8 69]) (.seq (.ops [om 70 8,o 71 (.bin .neq 26 true (.t 70) (.v (.int .i64 0)))]) (.cond (.t 71) (.seq (.ops [om 72 8,om 2 72]) .ret) .skip))))))) (.ops [o 73 (.bin .add 3 true (.t 38) (.v (.int .i64 1))),om 38 73]))))
def r58:RC:=(.seq (.ops [o 1 (.box 69 (.t 0)),o 2 (.mov (.v (.int .i64 0)))]) (.seq (.seq (.drw 24 [o 9 (.fa 0 (.t 1)),o 10 (.ld1 (.t 9)),o 11 (.call 124 [(.t 10),(.v (.int .i64 1)),(.v (.int .i64 4))]),o 12 (.fa 1 (.t 1)),o 13 (.ld1 (.t 12)),o 14 (.lenL (.t 13)),o 15 (.bin .eql 3 true (.t 14) (.v (.int .i64 0))),o 16 (.call 116 [(.t 15),(.v (.int .i64 12))]),o 17 (.fa 1 (.t 1)),o 18 (.ld1 (.t 17)),o 19 (.lenL (.t 18)),o 20 (.bin .gtr 3 true (.t 19) (.v (.int .i64 256))),o 21 (.call 116 [(.t 20),(.v (.int .i64 5))]),o 22 (.fa 2 (.t 1)),o 23 (.ld1 (.t 22)),o 24 (.lenL (.t 23)),o 25 (.fa 1 (.t 1)),o 26 (.ld1 (.t 25)),o 27 (.lenL (.t 26)),o 28 (.bin .neq 3 false (.t 24) (.t 27)),o 29 (.call 116 [(.t 28),(.v (.int .i64 2))]),
 ⟨some 30,none,some 21,false,.bsl 26 1 4 [(.int .i64 0),(.int .i64 0),(.int .i64 0),(.int .i64 0)] [(0,1,(.t 11)),(1,1,(.t 16)),(2,1,(.t 21)),(3,1,(.t 29))]⟩,o 31 (.call 89 [(.t 30)]),om 3 31]) (.seq (.ops [om 32 3,o 33 (.bin .neq 26 true (.t 32) (.v (.int .i64 0)))]) (.cond (.t 33) (.seq (.ops [om 34 3,om 2 34]) .ret) .skip))) (.seq (.seq (.ops [o 35 (.fa 1 (.t 1)),o 36 (.ld1 (.t 35)),o 37 (.lenL (.t 36)),o 38 (.mov (.v (.int .i64 0)))]) (.block 0 (.loop r58_l0))) (.seq (.ops [o 2 (.mov (.v (.int .i64 0)))]) .ret))))
theorem k58:fnRC 58=some ([.tmp 2],r58):=by kernel_rfl
def r126:RC:=(.seq (.ops [o 3 (.mov (.v (.bool false)))]) (.seq (.ops [om 4 0,o 5 (.bin .lss 3 true (.t 4) (.v (.int .i64 0))),om 6 5,oF 7 6 (.mov (.t 0)),oF 8 6 (.fa 1 (.t 1)),oF 9 6 (.ld1 (.t 8)),oF 10 6 (.lenL (.t 9)),oF 11 6 (.bin .geq 3 false (.t 7) (.t 10)),o 12 (.pick (.t 6) (.v (.bool true)) (.t 11)),om 3 12]) .ret))
theorem k126:fnRC 126=some ([.tmp 3],r126):=by kernel_rfl
end Go.Am
namespace Go.Am
open Go
variable [MaxLen]
set_option maxRecDepth 100000
section
variable (X:Cx)
def srcG (len:Nat)(x:Option (List AV)):Option (Nat×List AV):=match x with
 |some r=>some (len,r)
 |none=>none
def srcK (len k o:Nat)(x:Option (List AV)):Option (Nat×List AV):=match x with
 |some c=>srcG len (grab k o c)
 |none=>none
theorem srcG_some (len:Nat)(r:List AV):srcG len (some r)=some (len,r):=(fun h=>h) rfl
theorem srcK_some (len k o:Nat)(c:List AV):srcK len k o (some c)=srcG len (grab k o c):=(fun h=>h) rfl
theorem source_sl (n b o len:Nat)(cap:Option Nat)(z:Nat)(s:St):sourceA n (.sl b o len cap z) s=srcK len (len*n) o (cellsOf (s.get b)):=by
 simp only[sourceA,←cells_get,srcK,srcG]
 rfl
theorem source_nils (n:Nat)(s:St):sourceA n .nils s=some (0,[]):=(fun h=>h) rfl
def appS (t:TypeId)(n m:Nat)(new:List AV)(b o len:Nat)(esz:Nat)(s:St)(x:Option Blk):Option (AV×St):=match x with
 |some (.cells c e0 false flo fhi)=>match grab (len*n) o c with
  |some old=>if esz=n∧fhi≤o+len*n∧e0=t∧new.all noAgg=true then
    some (.sl s.next 0 (len+m) none n,(s.put b .gone).new (.cells (old++new) t false (flo-o) (fhi-o)))
   else none
  |none=>none
 |_=>none
def appD (t:TypeId)(n m:Nat)(new:List AV)(d:AV)(s:St):Option (AV×St):=match d with
 |.nils=>some (.sl s.next 0 m none n,s.new (.cells new t false 0 0))
 |.sl b o len cap esz=>match s.cells b with
  |some c=>match grab (len*n) o c with
   |some old =>
    match cap with
    |some k=>if len+m≤k then
      if esz=n then match writeCells s b (o+len*n) new with
       |some s'=>some (.sl b o (len+m) (some k) n,s')
       |none=>none
      else none
     else some (.sl s.next 0 (len+m) none n,s.new (.cells (old++new) t false 0 0))
    |none=>match s.get b with
     |some (.cells _ e0 false flo fhi) =>
      if esz=n∧fhi≤o+len*n∧e0=t∧new.all noAgg=true then
       some (.sl s.next 0 (len+m) none n,(s.put b .gone).new (.cells (old++new) t false (flo-o) (fhi-o)))
      else none
     |_=>none
   |none=>none
  |none=>none
 |_=>none
def app0 (d:AV)(s:St):Option (AV×St):=match d with
 |.nils=>some (d,s)
 |.sl ..=>some (d,s)
 |.fz _=>some (d,s)
 |_=>none
def appK (t:TypeId)(n bytes:Nat)(d:AV)(x:Option (Nat×List AV))(s:St):Option (AV×St):=match x with
 |some (m,new) =>
  if new.length≠m*n∨(lenA d+m)*bytes>2^40∨lenA d+m>2^40 then none
  else if m=0 then app0 d s else appD t n m new d s
 |none=>none
theorem app_eq (t:TypeId)(n bytes:Nat)(d x:AV)(s:St):appR t n bytes d x s=appK t n bytes d (sourceA n x s) s:=by
 unfold appR appK appD app0
 rfl
theorem appK_some {t:TypeId}{n bytes:Nat}{d:AV}{m:Nat}{new:List AV}{s:St}(h1:new.length=m*n)(h2:(lenA d+m)*bytes≤2^40)(h3:lenA d+m≤2^40)(h4:m≠0) :
  appK t n bytes d (some (m,new)) s=appD t n m new d s:=by
 simp only[appK]
 rw[if_neg (by omega),if_neg h4]
theorem appK_zero {t:TypeId}{n bytes:Nat}{d:AV}{s:St}(h2:lenA d*bytes≤2^40)(h3:lenA d≤2^40):appK t n bytes d (some (0,[])) s=app0 d s:=by
 simp only[appK]
 rw[if_neg (by simp;omega)]
 simp
theorem appD_nils (t:TypeId)(n m:Nat)(new:List AV)(s:St):appD t n m new .nils s=some (.sl s.next 0 m none n,s.new (.cells new t false 0 0)):=(fun h=>h) rfl
theorem appD_sl (t:TypeId)(n m:Nat)(new:List AV)(b o len esz:Nat)(s:St):appD t n m new (.sl b o len none esz) s=appS t n m new b o len esz s (s.get b):=by
 simp only[appD,appS,St.cells]
 cases s.get b with
 |none=>rfl
 |some x =>
  cases x <;> simp only
  rename_i c e0 ro lo hi
  cases ro <;> simp only
  cases grab (len*n) o c <;> rfl
theorem appS_cells {t:TypeId}{n m:Nat}{new:List AV}{b len:Nat}{s:St}{cs:List AV}{lo hi:Nat}(hl:cs.length=len*n)(hh:hi≤len*n)(hna:new.all noAgg=true) :
  appS t n m new b 0 len n s (some (.cells cs t false lo hi))=some (.sl s.next 0 (len+m) none n,(s.put b .gone).new (.cells (cs++new) t false lo hi)):=by
 simp only[appS]
 rw[←hl,grab_all]
 simp only[true_and]
 rw[if_pos ⟨by omega,hna⟩]
 simp
theorem lenA_sl (b o n:Nat)(c:Option Nat)(z:Nat):lenA (.sl b o n c z)=n:=(fun h=>h) rfl
def RowI (s:St)(B:Nat)(t:TypeId)(n i:Nat)(cs:List AV)(v:AV):Prop :=
 (i=0∧v=.nils∧cs=[])∨(0<i∧cs.length=i*n∧∃b,B≤b∧b<s.next∧v=.sl b 0 i none n∧s.get b=some (.cells cs t false 0 0))
theorem RowI.nil (s:St)(B:Nat)(t:TypeId)(n:Nat):RowI s B t n 0 [] .nils:=.inl ⟨rfl,rfl,rfl⟩
theorem RowI.noAgg {s:St}{B:Nat}{t:TypeId}{n i:Nat}{cs:List AV}{v:AV}(h:RowI s B t n i cs v):noAgg v=true:=by
 rcases h with⟨_,rfl,_⟩|⟨_,_,b,_,_,rfl,_⟩ <;> rfl
theorem RowI.cells {s:St}{B:Nat}{t:TypeId}{n i:Nat}{cs:List AV}{v:AV}(h:RowI s B t n i cs v):v.cells=[v]:=by
 rcases h with⟨_,rfl,_⟩|⟨_,_,b,_,_,rfl,_⟩ <;> rfl
theorem RowI.len {s:St}{B:Nat}{t:TypeId}{n i:Nat}{cs:List AV}{v:AV}(h:RowI s B t n i cs v):lenRL v=some (.int .i64 i):=by
 rcases h with⟨rfl,rfl,_⟩|⟨_,_,b,_,_,rfl,_⟩ <;> rfl
theorem RowI.lenA {s:St}{B:Nat}{t:TypeId}{n i:Nat}{cs:List AV}{v:AV}(h:RowI s B t n i cs v):Go.Am.lenA v=i:=by
 rcases h with⟨rfl,rfl,_⟩|⟨_,_,b,_,_,rfl,_⟩ <;> rfl
theorem RowI.mono {s s':St}{B:Nat}{t:TypeId}{n i:Nat}{cs:List AV}{v:AV}(h:RowI s B t n i cs v)(hn:s.next≤s'.next)(hg:∀j,B≤j→j<s.next→s'.get j=s.get j):RowI s' B t n i cs v:=by
 rcases h with⟨h0,h1,h2⟩|⟨h0,h1,b,h2,h3,h4,h5⟩
 ·exact .inl ⟨h0,h1,h2⟩
 ·exact .inr ⟨h0,h1,b,h2,by omega,h4,by rw[hg b h2 h3];exact h5⟩
theorem RowI.app {s:St}{B:Nat}{t:TypeId}{n i:Nat}{cs:List AV}{v:AV}(h:RowI s B t n i cs v)(hB:B≤s.next){m:Nat}{new:List AV}(hm:m≠0)(hl:new.length=m*n)(hna:new.all Go.Am.noAgg=true) :
  ∃s1,appD t n m new v s=some (.sl s.next 0 (i+m) none n,s1)∧s1.next=s.next+1∧RowI s1 B t n (i+m) (cs++new) (.sl s.next 0 (i+m) none n)∧(∀j,j<B→s1.get j=s.get j)∧(Fr s→Fr s1):=by
 rcases h with⟨rfl,rfl,rfl⟩|⟨h0,h1,b,h2,h3,rfl,h5⟩
 ·refine⟨s.new (.cells new t false 0 0),by rw[appD_nils,Nat.zero_add],rfl,.inr ⟨by omega,by rw[Nat.zero_add,List.nil_append];exact hl,s.next,hB,by rw[next_new];omega,rfl,by rw[get_new,if_pos rfl];rfl⟩,fun j hj=>by rw[get_new,if_neg (by omega)],fun hf=>hf.new _⟩
 ·refine⟨(s.put b .gone).new (.cells (cs++new) t false 0 0),by rw[appD_sl,h5,appS_cells h1 (by omega) hna],rfl,.inr ⟨by omega,by rw[List.length_append,h1,hl,Nat.add_mul],s.next,hB,by rw[next_new,next_put];omega,rfl,?_⟩,fun j hj=>?_,fun hf=>(hf.put h3 _).new _⟩
  ·rw[get_new,next_put,if_pos rfl]
  ·rw[get_new,next_put,if_neg (by omega),get_put,if_neg (by omega)]
theorem chunks_enc {A:Type}(enc:A→AV)(n:Nat)(hc:∀a,∃c,enc a=.agg c∧c.length=n):∀l:List A,chunksA true n l.length (l.flatMap fun a=>(enc a).cells)=l.map enc
 |[]=>rfl
 |a::l=>by
  obtain⟨c,h1,h2⟩:=hc a
  have ih:=chunks_enc enc n hc l
  rw[List.length_cons,chunks_agg,List.flatMap_cons,h1,cells_agg,List.map_cons,h1]
  rw[show (c++l.flatMap fun a=>(enc a).cells).take n=c from by rw[←h2,List.take_left],show (c++l.flatMap fun a=>(enc a).cells).drop n=l.flatMap fun a=>(enc a).cells from by rw[←h2,List.drop_left],ih]
theorem mapO_self {f:AV→Option AV}:∀{l:List AV},(∀x∈l,f x=some x)→mapO f l=some l
 |[],_=>rfl
 |x::l,h=>by
  rw[mapO,h x (List.mem_cons_self ..),mapO_self fun y hy=>h y (List.mem_cons_of_mem _ hy)]
theorem RowI.frz_agg {s:St}{B:Nat}{t:TypeId}{n:Nat}{A:Type}{enc:A→AV}{l:List A}{v:AV}(h:RowI s B t n l.length (l.flatMap fun a=>(enc a).cells) v)(hag:isAggT X t=some true)(hsz:size X t=some n)(hn:n≠0)
  (hc:∀a,∃c,enc a=.agg c∧c.length=n){d:Nat}(hf:∀a,frz X s d (enc a)=some (enc a)):frz X s (d+1) v=some (encS true (l.map enc)):=by
 rcases h with⟨h0,rfl,_⟩|⟨h0,h1,b,_,_,rfl,hg⟩
 ·have:l=[]:=List.length_eq_zero_iff.1 h0
  subst this;rfl
 ·rw[frz_sl,hg,frzS_cells,←h1,grab_all,hag,hsz]
  cases n with
  |zero=>exact absurd rfl hn
  |succ n =>
   rw[frzT_agg,chunks_enc enc (n+1) hc,mapO_self (fun x hx=>?_),fzK_some]
   ·cases l with
    |nil=>simp at h0
    |cons a l=>rfl
   ·obtain⟨a,_,rfl⟩:=List.mem_map.1 hx
    exact hf a
theorem RowI.frz_one {s:St}{B:Nat}{t:TypeId}{l:List AV}{v:AV}(h:RowI s B t 1 l.length l v)(hag:isAggT X t=some false)(hsz:size X t=some 1)(hna:l.all Go.Am.noAgg=true)
  {d:Nat}{r:List AV}(hf:mapO (frz X s d) l=some r):frz X s (d+1) v=some (encS true r):=by
 rcases h with⟨h0,rfl,_⟩|⟨h0,h1,b,_,_,rfl,hg⟩
 ·have:l=[]:=List.length_eq_zero_iff.1 h0
  subst this
  simp only[mapO] at hf;cases hf;rfl
 ·rw[frz_sl,hg,frzS_cells,Nat.mul_one,grab_all,hag,hsz,frzT_one,if_pos hna,chunks_all,hf,fzK_some]
  cases r with
  |nil =>
   exfalso
   cases l with
   |nil=>simp at h0
   |cons a l =>
    simp only[mapO] at hf
    split at hf <;> cases hf
  |cons a r=>rfl
end
attribute [go_sem] srcG_some srcK_some source_sl source_nils app_eq appD_nils appD_sl lenA_sl
end Go.Am
namespace Go.Am
open Go
variable [MaxLen]
set_option maxRecDepth 100000
set_option maxHeartbeats 8000000
theorem calv_fn (X:Cx)(g:FuncId)(x y args:List AV)(s:St):calv X (.fn (.func g) x y) args s=callK X (calV X g (x++args++y)) g (x++args++y) s:=by
 rw[←callK_eq];rfl
attribute [go_sem] calv_fn List.nil_append List.append_nil List.cons_append
theorem bin_shl1 (X:Cx)(t:TypeId)(c:Bool)(j:IntKind){n:Int}(h:0≤n∧n≤16):binA X .shl t c (.int .i64 1) (.int j n)=some (.int .i64 (2^n.toNat)):=by
 obtain⟨h0,h1⟩:=h
 have hn:¬n<0:=by omega
 simp only[binA,shiftA,hn,if_false]
 have hm:min n.toNat IntKind.i64.bits=n.toNat:=by
  have:IntKind.i64.bits=64:=rfl
  rw[this];omega
 rw[hm,Int.one_mul]
 have hp:(2:Int)^n.toNat≤2^16:=by
  have h2:(2:Nat)^n.toNat≤2^16:=Nat.pow_le_pow_right (by omega) (by omega)
  exact_mod_cast h2
 have hp0:(0:Int)≤2^n.toNat:=Int.pow_nonneg (by omega)
 rw[wrap_i64 (by omega) (by omega)]
theorem br_zeroH {p:Bool}{e x:Int}(h:br p e x=0)(he:e≠0):p=false∧x=0:=by
 cases p
 ·exact⟨rfl,h⟩
 ·exact absurd h he
theorem outside_ok {n a b:Int}(h:outside n a b=false):a≤n∧n≤b:=by
 unfold outside at h
 simp only[Bool.or_eq_false_iff,decide_eq_false_iff_not] at h
 omega
theorem noAgg_bools (l:List Bool):(bools l).all noAgg=true:=by
 rw[List.all_eq_true];intro x hx
 obtain⟨b,_,rfl⟩:=List.mem_map.1 hx;rfl
theorem noAgg_ints (l:List Int):(ints l).all noAgg=true:=by
 rw[List.all_eq_true];intro x hx
 obtain⟨b,_,rfl⟩:=List.mem_map.1 hx;rfl
theorem frz_bools (s:St)(d:Nat)(l:List Bool):mapO (frz U s (d+1)) (bools l)=some (bools l):=mapO_self fun x hx=>by
 obtain⟨b,_,rfl⟩:=List.mem_map.1 hx;rfl
theorem frz_ints (s:St)(d:Nat)(l:List Int):mapO (frz U s (d+1)) (ints l)=some (ints l):=mapO_self fun x hx=>by
 obtain⟨b,_,rfl⟩:=List.mem_map.1 hx;rfl
theorem bools_len (l:List Bool):(bools l).length=l.length:=by simp[bools]
theorem RowI.frz_bools {s:St}{B:Nat}{l:List Bool}{v:AV}(h:RowI s B 4 1 l.length (bools l) v)(d:Nat):frz U s (d+2) v=some (encS true (bools l)):=by
 have h':RowI s B 4 1 (bools l).length (bools l) v:=by rw[bools_len];exact h
 exact h'.frz_one U ag_4 sz_4 (noAgg_bools l) (Go.Am.frz_bools s d l)
theorem RowI.frz_ints {s:St}{B:Nat}{l:List Int}{v:AV}(h:RowI s B 3 1 l.length (ints l) v)(d:Nat):frz U s (d+2) v=some (encS true (ints l)):=by
 have h':RowI s B 3 1 (ints l).length (ints l) v:=by rw[ints_len];exact h
 exact h'.frz_one U ag_3 sz_3 (noAgg_ints l) (Go.Am.frz_ints s d l)
theorem bools_get (l:List Bool)(i:Nat):(bools l)[i]? = (l[i]?).map .bool:=by simp[bools]
theorem pow_le16 (n:Int)(h1:n≤16):(1:Int)≤2^n.toNat∧(2:Int)^n.toNat≤65536:=by
 obtain⟨k,hk⟩:∃k:Nat,n.toNat=k:=⟨_,rfl⟩
 rw[hk]
 have:∀k:Fin 17,(1:Int)≤2^k.val∧(2:Int)^k.val≤65536:=by decide
 exact this ⟨k,by omega⟩
theorem loop_ex {X:Cx}{β:Type}{fin:Fl→β}{ks:List K} [Stat] {b:RC}{σ:Type}{Post:β→Prop}(m:σ→Nat)(I:σ→Env→St→Prop)(x:σ){e:Env}{s:St}
  (h:∀(L:RC) (x:σ) (e:Env) (s:St),I x e s→(∀(y:σ) (e':Env) (s':St),m y<m x→I y e' s'→Post (goL X fin ks L e' s'))→Post (go X fin (.lp L::ks) b e s))
  (hI:I x e s):Post (goL X fin ks b e s):=by
 have key:∀n (x:σ) (e:Env) (s:St),m x=n→I x e s→Post (goL X fin ks b e s):=by
  intro n
  induction n using Nat.strongRecOn with
  |ind n ih =>
   intro x e s hx hI
   rw[goL_eq]
   exact h b x e s hI fun y e' s' hy hI'=>ih (m y) (by omega) y e' s' rfl hI'
 exact key _ x e s rfl hI
theorem RowI.app2 {s:St}{B:Nat}{t:TypeId}{n i:Nat}{cs:List AV}{v:AV}(h:RowI s B t n i cs v)(hB:B≤s.next){m:Nat}{new:List AV}(hm:m≠0)(hl:new.length=m*n)(hna:new.all Go.Am.noAgg=true) :
  ∃s1,appD t n m new v s=some (.sl s.next 0 (i+m) none n,s1)∧s1.next=s.next+1∧RowI s1 B t n (i+m) (cs++new) (.sl s.next 0 (i+m) none n)∧(∀j,j≠s.next→v≠.sl j 0 i none n→s1.get j=s.get j)∧(Fr s→Fr s1):=by
 rcases h with⟨rfl,rfl,rfl⟩|⟨h0,h1,b,h2,h3,rfl,h5⟩
 ·refine⟨s.new (.cells new t false 0 0),by rw[appD_nils,Nat.zero_add],rfl,.inr ⟨by omega,by rw[Nat.zero_add,List.nil_append];exact hl,s.next,hB,by rw[next_new];omega,rfl,by rw[get_new,if_pos rfl];rfl⟩,fun j hj _=>by rw[get_new,if_neg (by omega)],fun hf=>hf.new _⟩
 ·refine⟨(s.put b .gone).new (.cells (cs++new) t false 0 0),by rw[appD_sl,h5,appS_cells h1 (by omega) hna],rfl,.inr ⟨by omega,by rw[List.length_append,h1,hl,Nat.add_mul],s.next,hB,by rw[next_new,next_put];omega,rfl,?_⟩,fun j hj hv=>?_,fun hf=>(hf.put h3 _).new _⟩
  ·rw[get_new,next_put,if_pos rfl]
  ·have:b≠j:=fun e=>hv (by rw[e])
   rw[get_new,next_put,if_neg (by omega),get_put,if_neg this]
theorem RowI.far {s:St}{B:Nat}{t:TypeId}{n i:Nat}{cs:List AV}{v:AV}(h:RowI s B t n i cs v){j:Nat}(hj:s.next≤j∨j<B):v≠.sl j 0 i none n:=by
 rintro rfl
 rcases h with⟨_,h,_⟩|⟨_,_,b,h1,h2,h3,_⟩
 ·cases h
 ·cases h3;omega
theorem RowI.other {s:St}{B:Nat}{t:TypeId}{n i:Nat}{cs:List AV}{v:AV}(h:RowI s B t n i cs v){j:Nat}{c:List AV}{t':TypeId}{lo hi:Nat}(hj:s.get j=some (.cells c t' false lo hi))(ht:t'≠t):v≠.sl j 0 i none n:=by
 rintro rfl
 rcases h with⟨_,h,_⟩|⟨_,_,b,h1,h2,h3,h4⟩
 ·cases h
 ·cases h3
  rw[hj] at h4
  cases h4;exact ht rfl
theorem go_drcU {β:Type}{c:Code}{n:Nat}{l:List ROC}(h:rcDrc U c=some (n,l))(fin:Fl→β)(ks:List K)(e:Env)(s:St):go U fin ks (.raw c) e s =
  bif noneC s.next s l then goC U (backC U fin ks c e s) fin ks s.next l e (s.upto (s.next+n)) [s.upto (s.next+n)] [] else backC U fin ks c e s:=go_drc U h fin ks e s
theorem lay_set:∀(cs:List AV) (i:Nat) (x:AV),i<cs.length→lay i [x] cs=some (cs.set i x)
 |[],i,x,h=>by simp at h
 |c::cs,0,x,h=>by rw[lay_zero,lay_nil];rfl
 |c::cs,i+1,x,h=>by
  rw[lay_succ,lay_set cs i x (by simpa using h)];rfl
def part {A:Type}(l:List A)(z:A)(n i:Nat):List A:=l.take i++List.replicate (n-i) z
theorem frz_slI {s:St}{b d:Nat}{cap:Option Nat}{l:List Int}(hg:s.get b=some (.cells (ints l) 3 false 0 0)):frz U s (d+2) (.sl b 0 l.length cap 1)=some (.fz (ints l)):=by
 have e:l.length=(ints l).length:=(ints_len l).symm
 rw[frz_sl,hg,frzS_cells,Nat.mul_one,e,grab_all,ag_3,sz_3,frzT_one,if_pos (noAgg_ints l),chunks_all,frz_ints,fzK_some]
def idxO (P:Int→Bool):Nat→List Int→Int
 |_,[] => -1
 |i,x::l=>bif P x then (i:Int) else idxO P (i+1) l
theorem idxO_any (P:Int→Bool):∀(l:List Int) (i:Nat),decide (idxO P i l≥0)=l.any P
 |[],i=>by simp[idxO]
 |x::l,i=>by
  rw[idxO,List.any_cons]
  cases P x with
  |true=>simp
  |false=>rw[cond_false,idxO_any P l (i+1),Bool.false_or]
theorem z125 {args:List AV}{s:St}(h:stills args=false):callK U (calV U 125 args) 125 args s=calZ U 125 (mapO (frz U s 40) args) s:=z_of (by kernel_rfl) s h
def sameI:List Int→List Int→Bool
 |[],[]=>true
 |x::a,y::b=>bif x != y then false else sameI a b
 |_,_=>false
theorem sameI_len:∀{a b:List Int},a.length≠b.length→sameI a b=false
 |[],[],h=>absurd rfl h
 |[],_::_,_=>rfl
 |_::_,[],_=>rfl
 |a::x,b::y,h=>by
  rw[sameI,sameI_len (fun e=>h (by simp[e]))]
  cases a != b <;> rfl
theorem sameI_refl:∀a:List Int,sameI a a=true
 |[]=>rfl
 |a::x=>by rw[sameI,sameI_refl x];simp
theorem c109 (na nb:Bool)(a b:List Int)(ha:a.length<2^62):calV U 109 [encS na (ints a),encS nb (ints b)]=some (.bool (sameI a b)):=by
 refine pure_go k109 (by kernel_rfl) (by simp[stills,still_encS,still]) ?_
 simp (maxSteps:=2000000) +contextual only[go_sem,↓reduceIte,r109,lenL_encS,ints_len]
 cases hl:((a.length:Int) != (b.length:Int)) with
 |true =>
  have:a.length≠b.length:=by simp at hl;omega
  rw[sameI_len this]
  simp +contextual only[go_sem,↓reduceIte]
 |false =>
  have hl:a.length=b.length:=by simp at hl;omega
  simp +contextual only[go_sem,↓reduceIte]
  refine loop_to (σ:=Nat) (fun i=>a.length-i) (fun i=>some (AV.bool (sameI (a.drop i) (b.drop i)))) (fun i e s=>i≤a.length∧Env.get e 0=encS na (ints a)∧Env.get e 1=encS nb (ints b)∧Env.get e 5=.int .i64 i) 0 ?_ rfl ?_
  ·rintro L i e s ⟨hi,g0,g1,g5⟩ ih
   by_cases hd:i<a.length
   ·have hd':i<b.length:=by omega
    have hx:ixRA 1 (encS na (ints a)) (.int .i64 (i:Int))=some (.fp [.int .i64 a[i]] 0):=ixa_encS 1 na (ints a) .i64 i (.int .i64 a[i]) (by omega) (by rw[Int.toNat_natCast,ints_get,List.getElem?_eq_getElem hd];rfl) rfl (by decide)
    have hy:ixRA 1 (encS nb (ints b)) (.int .i64 (i:Int))=some (.fp [.int .i64 b[i]] 0):=ixa_encS 1 nb (ints b) .i64 i (.int .i64 b[i]) (by omega) (by rw[Int.toNat_natCast,ints_get,List.getElem?_eq_getElem hd'];rfl) rfl (by decide)
    have hw:=wrap_succ hd (by omega)
    rw[List.drop_eq_getElem_cons hd,List.drop_eq_getElem_cons hd',sameI]
    simp +contextual only[go_sem,↓reduceIte,r109_l0,g0,g1,g5,nat_lt_dec,hd,hx,hy,lenL_encS,ints_len]
    cases hb:a[i] != b[i] with
    |true=>simp +contextual only[go_sem,↓reduceIte]
    |false =>
     simp +contextual only[go_sem,↓reduceIte,hw]
     refine ih (i+1) _ _ (by omega) ⟨by omega,?_,?_,?_⟩ <;> simp +contextual only[go_sem,↓reduceIte,g0,g1,g5,hw]
   ·have:i=a.length:=by omega
    subst this
    simp +contextual only[go_sem,↓reduceIte,r109_l0,g0,g1,g5,nat_lt_dec,Nat.lt_irrefl,lenL_encS,ints_len]
    rw[List.drop_length,hl,List.drop_length];rfl
  ·refine⟨Nat.zero_le _,?_,?_,?_⟩ <;> simp +contextual only[go_sem,↓reduceIte] <;> rfl
theorem c56 (na nb:Bool)(a b:List Int)(ha:a.length<2^62):calV U 56 [encS na (ints a),encS nb (ints b)]=some (.bool (sameI a b)):=by
 refine pure_go k56 (by kernel_rfl) (by simp[stills,still_encS,still]) ?_
 have:=c109 na nb a b ha
 simp (maxSteps:=2000000) +contextual only[go_sem,↓reduceIte,r56,this]
def listR (a:List Int)(e bad:Int)(b:List Int):Bool:=bif bad != 0 then ((a.length:Int)==0)&&e==bad else (e==0)&&sameI a b
theorem c36 (na nb:Bool)(a b:List Int)(e bad:Int)(ha:a.length<2^62):calV U 36 [encS na (ints a),.int .i64 e,.int .i64 bad,encS nb (ints b)]=some (.bool (listR a e bad b)):=by
 refine pure_go k36 (by kernel_rfl) (by simp[stills,still_encS,still]) ?_
 have:=c56 na nb a b ha
 unfold listR
 cases hb:bad != 0 <;> simp (maxSteps:=2000000) +contextual only[go_sem,↓reduceIte,r36,this,lenL_encS,ints_len,hb]
end Go.Am
namespace Go.Am
open Go
variable [MaxLen]
set_option maxRecDepth 100000
set_option maxHeartbeats 4000000
def encN (a:Auto):AV:=encS a.nNl (a.next.map encRow)
def encFs (a:Auto):AV:=encS a.fNl (a.fires.map encFRow)
theorem encA_eq (a:Auto):encA a=.agg [.int .i64 a.lines,encN a,encFs a]:=rfl
theorem still_encA (a:Auto):still (encA a)=true:=by simp[encA,still,stills,still_encS]
theorem ixa_rowI {nl:Bool}{l:List (Bool×List Int)}{i:Nat}(h:i<l.length):ixRA 1 (encS nl (l.map encRow)) (.int .i64 (i:Int))=some (.fp [encS l[i].1 (ints l[i].2)] 0):=by
 have:=ixa_encS 1 nl (l.map encRow) .i64 i (encRow l[i]) (by omega) (by rw[Int.toNat_natCast,List.getElem?_map,List.getElem?_eq_getElem h];rfl) (by rw[encRow,cells_encS];rfl) (by decide)
 rw[encRow,cells_encS] at this
 exact this
theorem ixa_rowB {nl:Bool}{l:List (Bool×List Bool)}{i:Nat}(h:i<l.length):ixRA 1 (encS nl (l.map encFRow)) (.int .i64 (i:Int))=some (.fp [encS l[i].1 (bools l[i].2)] 0):=by
 have:=ixa_encS 1 nl (l.map encFRow) .i64 i (encFRow l[i]) (by omega) (by rw[Int.toNat_natCast,List.getElem?_map,List.getElem?_eq_getElem h];rfl) (by rw[encFRow,cells_encS];rfl) (by decide)
 rw[encFRow,cells_encS] at this
 exact this
theorem ixa_intV {nl:Bool}{l:List Int}{i:Nat}(h:i<l.length):ixRA 1 (encS nl (ints l)) (.int .i64 (i:Int))=some (.fp [.int .i64 l[i]] 0) :=
 ixa_encS 1 nl (ints l) .i64 i (.int .i64 l[i]) (by omega) (by rw[Int.toNat_natCast,ints_get,List.getElem?_eq_getElem h];rfl) rfl (by decide)
theorem ixa_boolV {nl:Bool}{l:List Bool}{i:Nat}(h:i<l.length):ixRA 1 (encS nl (bools l)) (.int .i64 (i:Int))=some (.fp [.bool l[i]] 0) :=
 ixa_encS 1 nl (bools l) .i64 i (.bool l[i]) (by omega) (by rw[Int.toNat_natCast,bools_get,List.getElem?_eq_getElem h];rfl) rfl (by decide)
def mOf (lines:Int):Int:=2^lines.toNat
def ckRows (m n:Int):List (Bool×List Int)→List (Bool×List Bool)→Int
 |[],_=>0
 |r::l,f=>br ((r.2.length:Int) != m||(((f.headD (true,[])).2.length:Int) != m)) 2 <| br (r.2.any fun x=>outside x 0 (n-1)) 10 <| ckRows m n l f.tail
def ckA (a:Auto):Int :=
 br (outside a.lines 1 4) 3 <| br ((a.next.length:Int)==0) 12 <| br (decide ((a.next.length:Int)>256)) 5 <| br ((a.fires.length:Int) != a.next.length) 2 <| ckRows (mOf a.lines) a.next.length a.next a.fires
theorem c50 (a:Auto):calV U 50 [encA a]=some (.int .i64 (ckA a)):=by
 refine pure_go k50 (by kernel_rfl) (by simp[stills,still_encA]) ?_
 rw[encA_eq,ckA]
 have nn:=noAgg_encS a.nNl (a.next.map encRow)
 have nf:=noAgg_encS a.fNl (a.fires.map encFRow)
 have ln:=lenL_encS a.nNl (a.next.map encRow)
 have lf:=lenL_encS a.fNl (a.fires.map encFRow)
 have cn:=cells_encS a.nNl (a.next.map encRow)
 have cf:=cells_encS a.fNl (a.fires.map encFRow)
 rw[List.length_map] at ln lf
 unfold encN encFs
 cases ho:outside a.lines 1 4 with
 |true =>
  simp (maxSteps:=2000000) +contextual only[go_sem,↓reduceIte,r50,c94,nn,nf,cn,cf,ho]
 |false =>
 have hl:1≤a.lines∧a.lines≤4:=by
  simp only[outside,Bool.or_eq_false_iff,decide_eq_false_iff_not] at ho;omega
 have hsh:=bin_shl1 U 3 true .i64 (n:=a.lines) (show 0≤a.lines∧a.lines≤16 by omega)
 simp (maxSteps:=2000000) +contextual only[go_sem,↓reduceIte,r50,c94,nn,nf,cn,cf,ln,lf,ho]
 simp only[brI_some]
 refine br_r fun h1=>?_
 refine br_r fun h2=>?_
 refine br_r fun h3=>?_
 have hn:a.next.length≤256:=by simp at h2;omega
 have hfl:a.fires.length=a.next.length:=by simp at h3;omega
 have hp:=pow_le16 a.lines (by omega)
 have hw1:IntKind.i64.wrap ((a.next.length:Int)-1)=(a.next.length:Int)-1:=by rw[wrap_i64] <;> omega
 refine loop_to (σ:=Nat) (fun i=>a.next.length-i) (fun i=>some (AV.int .i64 (ckRows (mOf a.lines) a.next.length (a.next.drop i) (a.fires.drop i)))) (fun i e s=>i≤a.next.length∧Env.get e 1=.ptr 8 0∧Env.get e 3=.int .i64 (i:Nat)∧8<s.next ∧
  s.get 8=some (.cells [.int .i64 a.lines,encS a.nNl (a.next.map encRow),encS a.fNl (a.fires.map encFRow)] 72 false 0 0)) 0 ?_ (by rw[List.drop_zero,List.drop_zero]) ?_
 ·rintro L i e s ⟨hi,g1,g3,nx,gs⟩ IH
  by_cases hd:i<a.next.length
  ·have hw:=wrap_succ hd (by omega)
   have hx:=ixa_rowI (nl:=a.nNl) hd
   have hy:=ixa_rowB (nl:=a.fNl) (show i<a.fires.length by omega)
   have hla:=lenL_encS a.next[i].1 (ints a.next[i].2)
   have hlb:=lenL_encS a.fires[i].1 (bools a.fires[i].2)
   rw[ints_len] at hla
   rw[bools_len] at hlb
   have hfd:(a.fires.drop i).headD (true,[])=a.fires[i]:=by rw[List.drop_eq_getElem_cons (show i<a.fires.length by omega)];rfl
   have hft:(a.fires.drop i).tail=a.fires.drop (i+1):=by rw[List.tail_drop]
   rw[List.drop_eq_getElem_cons hd,ckRows,hfd,hft]
   generalize hR:a.next[i]=R at *
   generalize hF:a.fires[i]=F at *
   have ne8:∀q,(s.next+q=8)=False:=fun q=>by simp;omega
   cases h4:((R.2.length:Int) != mOf a.lines) with
   |true =>
    unfold mOf at h4
    simp (maxSteps:=2000000) +contextual only[go_sem,↓reduceIte,r50_l1,g1,g3,gs,nat_lt_dec,hd,ln,lf,hx,hy,hla,hlb,hsh,h4]
    all_goals rfl
   |false =>
   cases h5:((F.2.length:Int) != mOf a.lines) with
   |true =>
    unfold mOf at h4 h5
    simp (maxSteps:=2000000) +contextual only[go_sem,↓reduceIte,r50_l1,g1,g3,gs,nat_lt_dec,hd,ln,lf,hx,hy,hla,hlb,hsh,h4,h5]
    all_goals rfl
   |false =>
    unfold mOf at h4 h5
    simp (maxSteps:=2000000) +contextual only[go_sem,↓reduceIte,r50_l1,g1,g3,gs,nat_lt_dec,hd,ln,lf,hx,hy,hla,hlb,hsh,h4,h5]
    have hRl:R.2.length≤65536:=by simp at h4;omega
    refine loop_to (σ:=Nat) (fun x=>R.2.length-x) (fun x=>some (AV.int .i64 (br ((R.2.drop x).any fun y=>outside y 0 ((a.next.length:Int)-1)) 10 (ckRows (mOf a.lines) a.next.length (a.next.drop (i+1)) (a.fires.drop (i+1)))))) (fun x e s=>x≤R.2.length∧Env.get e 1=.ptr 8 0∧Env.get e 3=.int .i64 (i:Nat)∧Env.get e 4=.int .i64 (x:Nat)∧8<s.next ∧
     s.get 8=some (.cells [.int .i64 a.lines,encS a.nNl (a.next.map encRow),encS a.fNl (a.fires.map encFRow)] 72 false 0 0)) 0 ?_ (by rw[List.drop_zero];rfl) ?_
    ·rintro L' x e' s' ⟨hx',g1',g3',g4',nx',gs'⟩ IH'
     by_cases hd':x<R.2.length
     ·have hw':=wrap_succ hd' (by omega)
      have hxx:=ixa_intV (nl:=R.1) hd'
      rw[List.drop_eq_getElem_cons hd',List.any_cons]
      cases ho2:outside R.2[x] 0 ((a.next.length:Int)-1) with
      |true=>simp (maxSteps:=2000000) +contextual only[go_sem,↓reduceIte,r50_l0,g1',g3',g4',gs',nat_lt_dec,hd',ln,hx,hla,hxx,hw1,c94,ho2,Bool.true_or]
      |false =>
       simp (maxSteps:=2000000) +contextual only[go_sem,↓reduceIte,r50_l0,g1',g3',g4',gs',nat_lt_dec,hd',ln,hx,hla,hxx,hw1,c94,ho2,Bool.false_or,hw']
       refine IH' (x+1) _ _ (by omega) ⟨by omega,?_,?_,?_,?_,?_⟩
       all_goals simp +contextual only[go_sem,↓reduceIte,g1',g3',g4',gs',hw',upto_get]
       all_goals omega
     ·have:x=R.2.length:=by omega
      subst this
      simp (maxSteps:=2000000) +contextual only[go_sem,↓reduceIte,r50_l0,g1',g3',g4',gs',nat_lt_dec,Nat.lt_irrefl,ln,hx,hla,hw]
      rw[List.drop_length]
      refine IH (i+1) _ _ (by omega) ⟨by omega,?_,?_,?_,?_⟩
      all_goals try simp +contextual only[go_sem,↓reduceIte,g1',g3',gs',hw]
      all_goals omega
    ·refine⟨Nat.zero_le _,?_,?_,?_,?_,?_⟩
     all_goals try simp +contextual only[go_sem,↓reduceIte,g1,g3,gs]
     all_goals first|rfl|omega
  ·have:i=a.next.length:=by omega
   subst this
   simp +contextual only[go_sem,↓reduceIte,r50_l1,g1,g3,gs,nat_lt_dec,Nat.lt_irrefl,ln]
   rw[List.drop_length,ckRows]
 ·refine⟨Nat.zero_le _,?_,?_,?_,?_⟩
  all_goals try simp +contextual only[go_sem,↓reduceIte]
  all_goals rfl
def cellsA (a:Auto):List AV:=[.int .i64 a.lines,encS a.nNl (a.next.map encRow),encS a.fNl (a.fires.map encFRow)]
theorem c126 (x:Int)(a:Auto)(hn:a.next.length≤2^40):calV U 126 [.int .i64 x,.fp (cellsA a) 0]=some (.bool (outside x 0 ((a.next.length:Int)-1))):=by
 refine pure_go k126 (by kernel_rfl) (by simp[stills,still]) ?_
 have ln:=lenL_encS a.nNl (a.next.map encRow)
 rw[List.length_map] at ln
 have hp:outside x 0 ((a.next.length:Int)-1)=(decide (x<0)||decide (x≥(a.next.length:Int))):=by
  unfold outside
  congr 1
  congr 1
  apply propext;omega
 rw[hp]
 unfold cellsA
 cases h:decide (x<0) <;> simp +contextual only[go_sem,↓reduceIte,r126,ln,h]
 all_goals rfl
theorem cv126 (x:Int)(a:Auto)(hn:a.next.length≤2^40)(s:St):calv U (.fn (.func 126) [] [.fp (cellsA a) 0]) [.int .i64 x] s=some (.bool (outside x 0 ((a.next.length:Int)-1)),s):=by
 have h:=c126 x a hn
 simp only[calv_fn,List.nil_append,List.cons_append,h,callK_some]
theorem c179P (P:Int→Bool)(fn:AV)(hst:still fn=true)(hf:∀x s,calv U fn [.int .i64 x] s=some (.bool (P x),s))(nl:Bool)(l:List Int)(hl:l.length≤2^40):calV U 179 [encS nl (ints l),fn]=some (.int .i64 (idxO P 0 l)):=by
 refine pure_go k179 (by kernel_rfl) (by simp[stills,still_encS,hst]) ?_
 simp +contextual only[go_sem,↓reduceIte,r179,lenL_encS,ints_len]
 refine loop_to (σ:=Nat) (fun i=>l.length-i) (fun i=>some (AV.int .i64 (idxO P i (l.drop i)))) (fun i e s=>i≤l.length∧Env.get e 0=encS nl (ints l)∧Env.get e 1=fn∧Env.get e 7=.int .i64 l.length∧Env.get e 8=.int .i64 i) 0 ?_ rfl ?_
 ·rintro L i e s ⟨hi,g0,g1,g7,g8⟩ ih
  by_cases hd:i<l.length
  ·have hx:=ixa_intV (nl:=nl) hd
   have hw:=wrap_succ hd (by omega)
   rw[List.drop_eq_getElem_cons hd,idxO]
   have hc:=hf l[i]
   cases hb:P l[i] with
   |true=>simp +contextual only[go_sem,↓reduceIte,r179_l0,g0,g1,g7,g8,nat_lt_dec,hd,hx,hc,hb]
   |false =>
    simp +contextual only[go_sem,↓reduceIte,r179_l0,g0,g1,g7,g8,nat_lt_dec,hd,hx,hc,hb,hw]
    refine ih (i+1) _ _ (by omega) ⟨by omega,?_,?_,?_,?_⟩ <;> simp +contextual only[go_sem,↓reduceIte,g0,g1,g7,g8,hw]
  ·have:i=l.length:=by omega
   subst this
   simp +contextual only[go_sem,↓reduceIte,r179_l0,g0,g1,g7,g8,nat_lt_dec,Nat.lt_irrefl]
   rw[List.drop_length];rfl
 ·refine⟨Nat.zero_le _,?_,?_,?_,?_⟩ <;> simp +contextual only[go_sem,↓reduceIte] <;> rfl
theorem c125P (P:Int→Bool)(fn:AV)(hst:still fn=true)(hf:∀x s,calv U fn [.int .i64 x] s=some (.bool (P x),s))(nl:Bool)(l:List Int)(hl:l.length≤2^40):calV U 125 [encS nl (ints l),fn]=some (.bool (l.any P)):=by
 refine pure_go k125 (by kernel_rfl) (by simp[stills,still_encS,hst]) ?_
 have h:=c179P P fn hst hf nl l hl
 have hi:=idxO_any P l 0
 simp +contextual only[go_sem,↓reduceIte,r125,h,hi]
theorem c58 (a:Auto)(hn:a.next.length≤2^40)(hr:∀r∈a.next,r.2.length≤2^40):calV U 58 [encA a]=some (.int .i64 (ckA a)):=by
 refine pure_go k58 (by kernel_rfl) (by simp[stills,still_encA]) ?_
 rw[encA_eq]
 have nn:=noAgg_encS a.nNl (a.next.map encRow)
 have nf:=noAgg_encS a.fNl (a.fires.map encFRow)
 have ln:=lenL_encS a.nNl (a.next.map encRow)
 have lf:=lenL_encS a.fNl (a.fires.map encFRow)
 have cn:=cells_encS a.nNl (a.next.map encRow)
 have cf:=cells_encS a.fNl (a.fires.map encFRow)
 rw[List.length_map] at ln lf
 unfold encN encFs
 have hz:stills [.sl 29 0 4 (some 4) 1]=false:=rfl
 simp (maxSteps:=2000000) +contextual only[go_sem,↓reduceIte,r58,c124,c116,nn,nf,cn,cf,ln,lf,z89,cz89_4]
 rw[show within a.lines 1 4=br (outside a.lines 1 4) 3 0 from rfl,ckA]
 cases ho:outside a.lines 1 4 with
 |true=>rfl
 |false =>
 cases h1:((a.next.length:Int)==0) with
 |true=>rfl
 |false =>
 cases h2:decide ((a.next.length:Int)>256) with
 |true=>rfl
 |false =>
 cases h3:((a.fires.length:Int) != a.next.length) with
 |true=>rfl
 |false =>
 have hl:1≤a.lines∧a.lines≤4:=by
  simp only[outside,Bool.or_eq_false_iff,decide_eq_false_iff_not] at ho;omega
 have hsh:=bin_shl1 U 3 true .i64 (n:=a.lines) (show 0≤a.lines∧a.lines≤16 by omega)
 have hp:=pow_le16 a.lines (by omega)
 have hn:a.next.length≤256:=by simp at h2;omega
 have hfl:a.fires.length=a.next.length:=by simp at h3;omega
 simp only[br_false]
 rw[show (firstOf [0,0,0,0] != 0)=false from rfl,br_false]
 refine loop_to (σ:=Nat) (fun i=>a.next.length-i) (fun i=>some (AV.int .i64 (ckRows (mOf a.lines) a.next.length (a.next.drop i) (a.fires.drop i)))) (fun i e s=>i≤a.next.length∧Env.get e 1=.ptr 8 0∧Env.get e 36=encS a.nNl (a.next.map encRow)∧Env.get e 37=.int .i64 a.next.length∧Env.get e 38=.int .i64 (i:Nat)∧8<s.next∧Fr s ∧
  s.get 8=some (.cells [.int .i64 a.lines,encS a.nNl (a.next.map encRow),encS a.fNl (a.fires.map encFRow)] 69 false 0 0)) 0 ?_ (by rw[List.drop_zero,List.drop_zero]) ?_
 ·rintro L i e s ⟨hi,g1,g36,g37,g38,nx,fr,gs⟩ IH
  by_cases hd:i<a.next.length
  ·have hw:=wrap_succ hd (by omega)
   have hx:=ixa_rowI (nl:=a.nNl) hd
   have hy:=ixa_rowB (nl:=a.fNl) (show i<a.fires.length by omega)
   have hla:=lenL_encS a.next[i].1 (ints a.next[i].2)
   have hlb:=lenL_encS a.fires[i].1 (bools a.fires[i].2)
   rw[ints_len] at hla
   rw[bools_len] at hlb
   have hfd:(a.fires.drop i).headD (true,[])=a.fires[i]:=by rw[List.drop_eq_getElem_cons (show i<a.fires.length by omega)];rfl
   have hft:(a.fires.drop i).tail=a.fires.drop (i+1):=by rw[List.tail_drop]
   rw[List.drop_eq_getElem_cons hd,ckRows,hfd,hft]
   generalize hR:a.next[i]=R at *
   generalize hF:a.fires[i]=F at *
   have ne8:∀q,(s.next+q=8)=False:=fun q=>by simp;omega
   have ne8':(s.next=8)=False:=by simp;omega
   have hfk:=fr.at
   have hrl:=hr R (by rw[←hR];exact List.getElem_mem hd)
   have hz:=fun s=>cz_of (c125P _ (.fn (.func 126) [] [.fp (cellsA a) 0]) (by simp[still,stills]) (fun x s=>cv126 x a (by omega) s) R.1 R.2 hrl) (by kernel_rfl) (by simp[stills,still,still_encS]) rfl s
   have hst:stills [encS R.1 (ints R.2),.fn (.func 126) [] [.ptr 8 0]]=false:=by simp[stills,still,still_encS]
   have hz2:∀j,stills [.sl j 0 2 (some 2) 1]=false:=fun _=>rfl
   simp only[cellsA] at hz
   simp (maxSteps:=2000000) +contextual only[go_sem,↓reduceIte,r58_l0,g1,g36,g37,g38,gs,nat_lt_dec,hd,ln,lf,hx,hy,hla,hlb,hsh,ne8,ne8',hfk,z125 hst,frz_encS,hz,c116,z89,cz89_2,hz2,Nat.add_assoc,Nat.left_eq_add]
   have hm:(2:Int)^a.lines.toNat=mOf a.lines:=rfl
   rw[hm]
   cases h4:((R.2.length:Int) != mOf a.lines||(F.2.length:Int) != mOf a.lines) with
   |true=>rfl
   |false =>
   cases h5:(R.2.any fun x=>outside x 0 ((a.next.length:Int)-1)) with
   |true=>rfl
   |false =>
   simp only[br_false]
   rw[show (firstOf [0,0] != 0)=false from rfl,br_false]
   refine IH (i+1) _ _ (by omega) ⟨by omega,?_,?_,?_,?_,?_,?_,?_⟩
   case refine_6 =>
    repeat first|exact fr|apply Fr.new|apply Fr.put|apply Fr.upto
    all_goals try simp +contextual only[go_sem,↓reduceIte]
    all_goals omega
   all_goals try simp +contextual only[go_sem,↓reduceIte,g1,g36,g37,gs,hw,ne8,ne8']
   all_goals omega
  ·have:i=a.next.length:=by omega
   subst this
   simp +contextual only[go_sem,↓reduceIte,r58_l0,g37,g38,nat_lt_dec,Nat.lt_irrefl]
   rw[List.drop_length,ckRows]
 ·refine⟨Nat.zero_le _,?_,?_,?_,?_,?_,?_,?_⟩
  case refine_6 =>
   repeat first|exact Fr.own|apply Fr.new|apply Fr.put|apply Fr.upto
   all_goals simp +contextual only[go_sem,↓reduceIte]
  all_goals try simp +contextual only[go_sem,↓reduceIte]
  all_goals rfl
end Go.Am
namespace Go.Am
open Go
structure Fa where
 n:Nat
 m:Nat
 nx:Nat→Nat→Nat
 fr:Nat→Nat→Bool
structure Fa.ok (A:Fa):Prop where
 pos:0<A.n
 lt:∀s x,s<A.n→x<A.m→A.nx s x<A.n
def Fa.E (A:Fa)(f:Nat→Nat)(u v:Nat):Prop:=∀x,x<A.m→A.fr u x=A.fr v x∧f (A.nx u x)=f (A.nx v x)
theorem Fa.E.symm {A:Fa}{f:Nat→Nat}{u v:Nat}(h:A.E f u v):A.E f v u:=fun x hx=>⟨(h x hx).1.symm,(h x hx).2.symm⟩
theorem Fa.E.trans {A:Fa}{f:Nat→Nat}{u v w:Nat}(h:A.E f u v)(k:A.E f v w):A.E f u w:=fun x hx=>⟨(h x hx).1.trans (k x hx).1,(h x hx).2.trans (k x hx).2⟩
structure Can (g:Nat→Nat):Prop where
 le:∀s,g s≤s
 fix:∀s,g (g s)=g s
theorem Can.min {g:Nat→Nat}(h:Can g){s u:Nat}(e:g u=g s):g s≤u:=by rw[←e];exact h.le u
structure Bis (A:Fa)(B:Nat→Nat→Prop):Prop where
 lt:∀u v,B u v→u<A.n∧v<A.n
 fr:∀u v,B u v→∀x,x<A.m→A.fr u x=A.fr v x
 nx:∀u v,B u v→∀x,x<A.m→B (A.nx u x) (A.nx v x)
def gt (l:List Nat)(i:Nat):Nat:=l.getD i 0
structure Pt where
 list:List Nat
 place:List Nat
 set:List Nat
 bg:List Nat
 en:List Nat
 mr:List Nat
structure Pt.Wf (n:Nat)(p:Pt):Prop where
 ll:p.list.length=n
 lp:p.place.length=n
 ls:p.set.length=n
 le:p.en.length=p.bg.length
 lm:p.mr.length=p.bg.length
 pl:∀u,u<n→gt p.place u<n∧gt p.list (gt p.place u)=u
 li:∀i,i<n→gt p.list i<n∧gt p.place (gt p.list i)=i
 st:∀u,u<n→gt p.set u<p.bg.length∧gt p.bg (gt p.set u)≤gt p.place u∧gt p.place u<gt p.en (gt p.set u)
 sp:∀k,k<p.bg.length→gt p.bg k<gt p.en k∧gt p.en k≤n∧∀i,gt p.bg k≤i→i<gt p.en k→gt p.set (gt p.list i)=k
 mr:∀k,k<p.bg.length→gt p.bg k+gt p.mr k≤gt p.en k
def Pt.Mk (p:Pt)(u:Nat):Prop:=gt p.place u<gt p.bg (gt p.set u)+gt p.mr (gt p.set u)
instance (p:Pt)(u:Nat):Decidable (p.Mk u):=inferInstanceAs (Decidable (_<_))
def piece (l:List Nat)(a b:Nat):List Nat:=(l.drop a).take (b-a)
structure Cut (n:Nat)(p:Pt)(s:Nat)(r:Pt×Bool):Prop where
 wf:r.1.Wf n
 len:r.1.bg.length=p.bg.length+(bif r.2 then 1 else 0)
 num:∀v,v<n→gt r.1.set v=gt p.set v∨(gt p.set v=s∧gt r.1.set v=p.bg.length∧r.2=true)
 eq:∀u v,u<n→v<n→(gt r.1.set u=gt r.1.set v↔gt p.set u=gt p.set v∧(gt p.set u=s→(p.Mk u↔p.Mk v)))
 mr:∀k,k<p.bg.length→k≠s→gt r.1.mr k=gt p.mr k
 mk0:gt r.1.mr s=0
 mkK:r.2=true→gt r.1.mr p.bg.length=0
 Mk:∀v,v<n→gt p.set v≠s→(r.1.Mk v↔p.Mk v)
structure Tch (p:Pt)(T:List Nat):Prop where
 nd:T.Nodup
 mem:∀k,k<p.bg.length→(k∈T↔0<gt p.mr k)
 lt:∀k∈T,k<p.bg.length
structure MarkAll (n:Nat)(us:List Nat)(p:Pt)(r:Pt×List Nat):Prop where
 wf:r.1.Wf n
 set:r.1.set=p.set
 bg:r.1.bg=p.bg
 en:r.1.en=p.en
 tch:Tch r.1 r.2
 Mk:∀v,v<n→(r.1.Mk v↔p.Mk v∨v∈us)
def Pt.Zero (p:Pt):Prop:=∀k,k<p.bg.length→gt p.mr k=0
structure Cuts (n:Nat)(p:Pt)(w:List Nat)(R:Nat→Nat→Prop)(r:Pt×List Nat):Prop where
 wf:r.1.Wf n
 zero:r.1.Zero
 le:p.bg.length≤r.1.bg.length
 wlen:r.2.length+p.bg.length=w.length+r.1.bg.length
 work:∀k,k∈r.2↔k∈w∨(p.bg.length≤k∧k<r.1.bg.length)
 num:∀v,v<n→gt r.1.set v=gt p.set v∨p.bg.length≤gt r.1.set v
 eq:∀u v,u<n→v<n→(gt r.1.set u=gt r.1.set v↔gt p.set u=gt p.set v∧R u v)
theorem pigeon:∀(n K:Nat) (f:Nat→Nat),(∀k,k<K→f k<n)→(∀i j,i<K→j<K→f i=f j→i=j)→K≤n
 |0,K,f,h1,_=>by
  rcases Nat.eq_zero_or_pos K with h|h
  ·omega
  ·exact absurd (h1 0 h) (by omega)
 |n+1,K,f,h1,h2=>by
  by_cases hex:∃k,k<K∧f k=n
  ·obtain⟨k0,hk0,e0⟩:=hex
   have:=pigeon n (K-1) (fun k=>if k=k0 then f (K-1) else f k) (fun k hk=>by
    by_cases e:k=k0
    ·rw[if_pos e]
     have:=h1 (K-1) (by omega)
     have:f (K-1)≠n:=fun e'=>by have:=h2 (K-1) k0 (by omega) hk0 (e'.trans e0.symm);omega
     omega
    ·rw[if_neg e]
     have:=h1 k (by omega)
     have:f k≠n:=fun e'=>e (h2 k k0 (by omega) hk0 (e'.trans e0.symm))
     omega) (fun i j hi hj e=>by
    by_cases e1:i=k0
    ·by_cases e2:j=k0
     ·omega
     ·rw[if_pos e1,if_neg e2] at e
      have:=h2 _ _ (by omega) (by omega) e;omega
    ·by_cases e2:j=k0
     ·rw[if_neg e1,if_pos e2] at e
      have:=h2 _ _ (by omega) (by omega) e;omega
     ·rw[if_neg e1,if_neg e2] at e
      exact h2 _ _ (by omega) (by omega) e)
   omega
  ·have:=pigeon n K f (fun k hk=>by
    have:=h1 k hk
    have:f k≠n:=fun e=>hex ⟨k,hk,e⟩
    omega) h2
   omega
theorem Pt.Wf.few {n:Nat}{p:Pt}(h:p.Wf n):p.bg.length≤n:=by
 refine pigeon n _ (fun k=>gt p.bg k) (fun k hk=>by have:=h.sp k hk;omega) fun i j hi hj e=>?_
 obtain⟨a1,a2,a3⟩:=h.sp i hi
 obtain⟨b1,b2,b3⟩:=h.sp j hj
 have e:gt p.bg i=gt p.bg j:=e
 have:=a3 _ (Nat.le_refl _) a1
 have:=b3 _ (Nat.le_refl _) b1
 rw[e] at *
 omega
structure Hop (A:Fa)(p:Pt)(w:List Nat):Prop where
 wf:p.Wf A.n
 zero:p.Zero
 work:∀k∈w,k<p.bg.length
 fr:∀u v,u<A.n→v<A.n→gt p.set u=gt p.set v→∀x,x<A.m→A.fr u x=A.fr v x
 bis:∀B,Bis A B→∀u v,B u v→gt p.set u=gt p.set v
 part:∃xc:Nat→Nat,(∀u v,u<A.n→v<A.n→gt p.set u=gt p.set v→xc u=xc v)∧(∀u v,u<A.n→v<A.n→gt p.set u=gt p.set v→∀x,x<A.m→xc (A.nx u x)=xc (A.nx v x)) ∧
  ∀u v,u<A.n→v<A.n→xc u=xc v→gt p.set u∈w∨gt p.set v∈w∨gt p.set u=gt p.set v
def idxN:List Nat→Nat→Nat
 |[],_=>0
 |x::l,c=>bif x==c then 0 else idxN l c+1
theorem idxN_le:∀(l:List Nat) (c:Nat),idxN l c≤l.length
 |[],c=>Nat.le_refl _
 |x::l,c=>by
  have:=idxN_le l c
  rw[idxN,List.length_cons]
  cases x==c <;> simp only[cond_true,cond_false] <;> omega
theorem idxN_lt:∀(l:List Nat) (c:Nat),idxN l c<l.length↔c∈l
 |[],c=>by simp[idxN]
 |x::l,c=>by
  have:=idxN_lt l c
  rw[idxN,List.length_cons,List.mem_cons]
  cases h:x==c with
  |true =>
   have:x=c:=by simpa using h
   simp[this]
  |false =>
   have hne:¬x=c:=by simpa using h
   simp only[cond_false]
   constructor
   ·intro h;exact .inr (this.1 (by omega))
   ·rintro (h|h)
    ·exact absurd h.symm hne
    ·have:=this.2 h;omega
theorem nodup_few {κ:Nat→Nat}{n:Nat}{st:List Nat}(h:(st.map κ).Nodup)(hn:∀a∈st,a<n):st.length≤n:=by
 have hnd:st.Nodup:=by
  rw[List.Nodup,List.pairwise_map] at h
  exact h.imp fun hne e=>hne (by rw[e])
 refine pigeon n st.length (fun i=>gt st i) (fun i hi=>?_) fun i j hi hj e=>?_
 ·have:gt st i=st[i]:=by unfold gt;rw[List.getD_eq_getElem?_getD,List.getElem?_eq_getElem hi];rfl
  simp only[this]
  exact hn _ (List.getElem_mem hi)
 ·have e1:gt st i=st[i]:=by unfold gt;rw[List.getD_eq_getElem?_getD,List.getElem?_eq_getElem hi];rfl
  have e2:gt st j=st[j]:=by unfold gt;rw[List.getD_eq_getElem?_getD,List.getElem?_eq_getElem hj];rfl
  simp only[e1,e2] at e
  exact (List.getElem_inj hnd).1 e
section
variable {α:Type} [DecidableEq α]
def ordK (κ:Nat→α):Nat→List α
 |0=>[]
 |i+1=>if κ i∈ordK κ i then ordK κ i else ordK κ i++[κ i]
def grp (κ:Nat→α)(k:α)(n:Nat):List Nat:=(List.range n).filter fun i=>decide (κ i=k)
structure AddSt (n c:Nat)(l:List Nat)(p q:Pt):Prop where
 list:q.list=p.list++l
 bg:q.bg=p.bg
 en:q.en=p.en
 mr:q.mr=p.mr
 lp:q.place.length=n
 ls:q.set.length=n
 out:∀v,v∉l→gt q.place v=gt p.place v∧gt q.set v=gt p.set v
 inn:∀j (h:j<l.length),gt q.place l[j]=p.list.length+j∧gt q.set l[j]=c
structure Fil (κ:Nat→α)(n:Nat)(done:List α)(p:Pt):Prop where
 lp:p.place.length=n
 ls:p.set.length=n
 lb:p.bg.length=done.length
 le:p.en.length=done.length
 lm:p.mr.length=done.length
 li:∀i,i<p.list.length→gt p.list i<n∧gt p.place (gt p.list i)=i∧κ (gt p.list i)∈done
 st:∀u,u<n→κ u∈done→gt p.place u<p.list.length∧gt p.list (gt p.place u)=u∧gt p.set u<done.length∧gt p.bg (gt p.set u)≤gt p.place u∧gt p.place u<gt p.en (gt p.set u)∧done[gt p.set u]? = some (κ u)
 sp:∀k,k<done.length→gt p.bg k<gt p.en k∧gt p.en k≤p.list.length∧∀i,gt p.bg k≤i→i<gt p.en k→gt p.set (gt p.list i)=k
 mr:∀k,k<done.length→gt p.mr k=0
theorem gt_get {l:List Nat}{i:Nat}(h:i<l.length):gt l i=l[i]:=by
 unfold gt;rw[List.getD_eq_getElem?_getD,List.getElem?_eq_getElem h];rfl
end
end Go.Am
namespace Go.Am
open Go
variable [MaxLen]
set_option maxRecDepth 100000
set_option maxHeartbeats 4000000
structure Auto.ok (a:Auto):Prop where
 lines:1≤a.lines∧a.lines≤4
 pos:0<a.next.length
 few:a.next.length≤512
 fl:a.fires.length=a.next.length
 row:∀i (h:i<a.next.length),a.next[i].2.length=2^a.lines.toNat∧∀x∈a.next[i].2,0≤x∧x<(a.next.length:Int)
 frow:∀i (h:i<a.fires.length),a.fires[i].2.length=2^a.lines.toNat
theorem mOf_nat (n:Int):mOf n=((2^n.toNat:Nat):Int):=by unfold mOf;simp
theorem ckRows_zero {m:Nat}{n:Int}:∀{l:List (Bool×List Int)} {f:List (Bool×List Bool)},l.length=f.length→ckRows m n l f=0 →
  (∀i (h:i<l.length),l[i].2.length=m∧∀x∈l[i].2,0≤x∧x<n)∧∀i (h:i<f.length),f[i].2.length=m
 |[],f,hl,_=>by
  have:f=[]:=List.length_eq_zero_iff.1 hl.symm
  subst this
  exact⟨fun i h=>by simp at h,fun i h=>by simp at h⟩
 |r::l,[],hl,_=>by simp at hl
 |r::l,g::f,hl,h=>by
  rw[ckRows] at h
  obtain⟨h1,h⟩:=br_zeroH h (by decide)
  obtain⟨h2,h⟩:=br_zeroH h (by decide)
  obtain⟨i1,i2⟩:=ckRows_zero (by simpa using hl) h
  rw[Bool.or_eq_false_iff] at h1
  have e1:r.2.length=m:=by have:=h1.1;simp at this;omega
  have e2:g.2.length=m:=by have:=h1.2;simp at this;omega
  have e3:∀x∈r.2,0≤x∧x<n:=fun x hx=>by
   have:=outside_ok (by simpa using List.any_eq_false.1 h2 x hx:outside x 0 (n-1)=false)
   omega
  refine⟨fun i hi=>?_,fun i hi=>?_⟩
  ·cases i with
   |zero=>exact⟨e1,e3⟩
   |succ i=>simpa using i1 i (by simpa using hi)
  ·cases i with
   |zero=>exact e2
   |succ i=>simpa using i2 i (by simpa using hi)
theorem Auto.ok_of {a:Auto}(h:ckA a=0):a.ok:=by
 rw[ckA] at h
 obtain⟨h1,h⟩:=br_zeroH h (by decide)
 obtain⟨h2,h⟩:=br_zeroH h (by decide)
 obtain⟨h3,h⟩:=br_zeroH h (by decide)
 obtain⟨h4,h⟩:=br_zeroH h (by decide)
 have hl:1≤a.lines∧a.lines≤4:=by
  simp only[outside,Bool.or_eq_false_iff,decide_eq_false_iff_not] at h1;omega
 have hf:a.fires.length=a.next.length:=by simp at h4;omega
 rw[mOf_nat] at h
 obtain⟨r1,r2⟩:=ckRows_zero hf.symm h
 exact⟨hl,Nat.pos_of_ne_zero fun e=>by rw[e] at h2;exact absurd h2 (by decide),by simp at h3;omega,hf,r1,r2⟩
theorem ckA_256 {a:Auto}(h:ckA a=0):a.next.length≤256:=by
 rw[ckA] at h
 obtain⟨h1,h⟩:=br_zeroH h (by decide)
 obtain⟨h2,h⟩:=br_zeroH h (by decide)
 obtain⟨h3,h⟩:=br_zeroH h (by decide)
 simp at h3;omega
def Auto.fa (a:Auto):Fa where
 n:=a.next.length
 m:=2^a.lines.toNat
 nx s x:=((a.next.getD s (true,[])).2.getD x 0).toNat
 fr s x:=(a.fires.getD s (true,[])).2.getD x false
theorem getD_at {A:Type}{l:List A}{i:Nat}{d:A}(h:i<l.length):l.getD i d=l[i]:=by
 rw[List.getD_eq_getElem?_getD,List.getElem?_eq_getElem h];rfl
theorem Auto.ok.faok {a:Auto}(h:a.ok):a.fa.ok:=by
 refine⟨h.pos,fun s x hs hx=>?_⟩
 have hs:s<a.next.length:=hs
 have hx:x<2^a.lines.toNat:=hx
 obtain⟨r1,r2⟩:=h.row s hs
 show ((a.next.getD s (true,[])).2.getD x 0).toNat<a.next.length
 rw[getD_at hs,getD_at (show x<a.next[s].2.length by omega)]
 have:=r2 _ (List.getElem_mem (show x<a.next[s].2.length by omega))
 omega
theorem Auto.ok.nxAt {a:Auto}(h:a.ok){s x:Nat}(hs:s<a.next.length)(hx:x<2^a.lines.toNat):ixRA 1 (encS a.next[s].1 (ints a.next[s].2)) (.int .i64 (x:Int))=some (.fp [.int .i64 ((a.fa.nx s x:Nat):Int)] 0):=by
 obtain⟨r1,r2⟩:=h.row s hs
 have hx':x<a.next[s].2.length:=by omega
 rw[ixa_intV hx']
 have e:a.fa.nx s x=(a.next[s].2[x]).toNat:=by
  show ((a.next.getD s (true,[])).2.getD x 0).toNat=_
  rw[getD_at hs,getD_at hx']
 have:=r2 _ (List.getElem_mem hx')
 rw[e,Int.toNat_of_nonneg this.1]
theorem Auto.ok.frAt {a:Auto}(h:a.ok){s x:Nat}(hs:s<a.next.length)(hx:x<2^a.lines.toNat):ixRA 1 (encS (a.fires[s]'(by rw[h.fl];exact hs)).1 (bools (a.fires[s]'(by rw[h.fl];exact hs)).2)) (.int .i64 (x:Int))=some (.fp [.bool (a.fa.fr s x)] 0):=by
 have hs':s<a.fires.length:=by rw[h.fl];exact hs
 have r1:=h.frow s hs'
 have hx':x<a.fires[s].2.length:=by omega
 rw[ixa_boolV hx']
 have e:a.fa.fr s x=a.fires[s].2[x]:=by
  show (a.fires.getD s (true,[])).2.getD x false=_
  rw[getD_at hs',getD_at hx']
 rw[e]
theorem Auto.ok.m16 {a:Auto}(ha:a.ok):2^a.lines.toNat≤65536:=by have:=pow_le16 a.lines (by have:=ha.lines;omega);have:=mOf_nat a.lines;unfold mOf at this;omega
def shortRows (n:Nat):List (Bool×List Int)→Bool
 |[]=>true
 |r::l=>bif decide ((r.2.length:Int)>n) then false else shortRows n l
def shortFs (n:Nat):List (Bool×List Bool)→Bool
 |[]=>true
 |r::l=>bif decide ((r.2.length:Int)>n) then false else shortFs n l
def shortA (a:Auto)(n:Int):Bool :=
 bif (decide ((a.next.length:Int)>n)&&decide ((a.next.length:Int)≤256))||(decide ((a.next.length:Int)>258)||decide ((a.fires.length:Int)>260)) then false else shortRows 18 a.next&&shortFs 18 a.fires
theorem shortRows_ok {n:Nat}:∀{l:List (Bool×List Int)},shortRows n l=true→∀r∈l,r.2.length≤n
 |[],_,r,h=>by simp at h
 |x::l,h,r,hr=>by
  rw[shortRows] at h
  cases hd:decide ((x.2.length:Int)>n) with
  |true=>rw[hd] at h;cases h
  |false =>
   rw[hd,cond_false] at h
   rcases List.mem_cons.1 hr with rfl|hr
   ·simp at hd;omega
   ·exact shortRows_ok h r hr
theorem l44 (a:Auto)(hN:a.next.length≤258)(hF:a.fires.length≤260){e:Env}{s:St}(g2:Env.get e 2=.ptr 8 0)(g5:Env.get e 5=.int .i64 (0:Nat))(gs:s.get 8=some (.cells [.int .i64 a.lines,encS a.nNl (a.next.map encRow),encS a.fNl (a.fires.map encFRow)] 72 false 0 0)) :
  goL U (finP U [.tmp 4]) [.bk 0,.sq (.seq (.seq (.ops [⟨some 6,none,none,false,.mov (.v (.int .i64 0))⟩]) (.block 2 (.loop r44_l1))) (.seq (.ops [⟨some 4,none,none,false,.mov (.v (.bool true))⟩]) .ret))] r44_l0 e s=some (.bool (shortRows 18 a.next&&shortFs 18 a.fires)):=by
 have ln:=lenL_encS a.nNl (a.next.map encRow)
 have lf:=lenL_encS a.fNl (a.fires.map encFRow)
 rw[List.length_map] at ln lf
 refine loop_to (σ:=Nat) (fun i=>a.next.length-i) (fun i=>some (.bool (shortRows 18 (a.next.drop i)&&shortFs 18 a.fires))) (fun i e s=>i≤a.next.length∧Env.get e 2=.ptr 8 0∧Env.get e 5=.int .i64 (i:Nat) ∧
  s.get 8=some (.cells [.int .i64 a.lines,encS a.nNl (a.next.map encRow),encS a.fNl (a.fires.map encFRow)] 72 false 0 0)) 0 ?_ rfl ⟨Nat.zero_le _,g2,g5,gs⟩
 clear g2 g5 gs
 rintro L i e s ⟨hi,g2,g5,gs⟩ IH
 by_cases hd:i<a.next.length
 ·have hw:=wrap_succ hd (by omega)
  have r1:=ixa_rowI (nl:=a.nNl) hd
  have l1:=lenL_encS a.next[i].1 (ints a.next[i].2)
  rw[ints_len] at l1
  rw[List.drop_eq_getElem_cons hd,shortRows]
  cases h:decide ((a.next[i].2.length:Int)>(18:Nat)) with
  |true =>
   have h:decide ((a.next[i].2.length:Int)>18)=true:=h
   simp (maxSteps:=2000000) +contextual only[go_sem,↓reduceIte,r44_l0,g2,g5,gs,nat_lt_dec,hd,ln,r1,l1,h,Bool.false_and,cond_true]
  |false =>
   have h:decide ((a.next[i].2.length:Int)>18)=false:=h
   simp (maxSteps:=2000000) +contextual only[go_sem,↓reduceIte,r44_l0,g2,g5,gs,nat_lt_dec,hd,ln,r1,l1,h,hw,cond_false]
   refine IH (i+1) _ _ (by omega) ⟨by omega,?_,?_,gs⟩
   all_goals simp +contextual only[go_sem,↓reduceIte,g2,hw]
 ·have:i=a.next.length:=by omega
  subst this
  rw[List.drop_length,shortRows,Bool.true_and]
  simp (maxSteps:=2000000) +contextual only[go_sem,↓reduceIte,r44_l0,g2,g5,gs,nat_lt_dec,Nat.lt_irrefl,ln]
  refine loop_to (σ:=Nat) (fun i=>a.fires.length-i) (fun i=>some (.bool (shortFs 18 (a.fires.drop i)))) (fun i e s=>i≤a.fires.length∧Env.get e 2=.ptr 8 0∧Env.get e 6=.int .i64 (i:Nat) ∧
   s.get 8=some (.cells [.int .i64 a.lines,encS a.nNl (a.next.map encRow),encS a.fNl (a.fires.map encFRow)] 72 false 0 0)) 0 ?_ rfl ?_
  ·clear g2 g5 gs IH
   rintro L i e s ⟨hi,g2,g6,gs⟩ IH
   by_cases hd:i<a.fires.length
   ·have hw:=wrap_succ hd (by omega)
    have r1:=ixa_rowB (nl:=a.fNl) hd
    have l1:=lenL_encS a.fires[i].1 (bools a.fires[i].2)
    rw[bools_len] at l1
    rw[List.drop_eq_getElem_cons hd,shortFs]
    cases h:decide ((a.fires[i].2.length:Int)>(18:Nat)) with
    |true =>
     have h:decide ((a.fires[i].2.length:Int)>18)=true:=h
     simp (maxSteps:=2000000) +contextual only[go_sem,↓reduceIte,r44_l1,g2,g6,gs,nat_lt_dec,hd,lf,r1,l1,h,cond_true]
    |false =>
     have h:decide ((a.fires[i].2.length:Int)>18)=false:=h
     simp (maxSteps:=2000000) +contextual only[go_sem,↓reduceIte,r44_l1,g2,g6,gs,nat_lt_dec,hd,lf,r1,l1,h,hw,cond_false]
     refine IH (i+1) _ _ (by omega) ⟨by omega,?_,?_,gs⟩
     all_goals simp +contextual only[go_sem,↓reduceIte,g2,hw]
   ·have:i=a.fires.length:=by omega
    subst this
    simp (maxSteps:=2000000) +contextual only[go_sem,↓reduceIte,r44_l1,g2,g6,gs,nat_lt_dec,Nat.lt_irrefl,lf]
    rw[List.drop_length,shortFs]
  ·refine⟨Nat.zero_le _,?_,?_,gs⟩
   all_goals simp +contextual only[go_sem,↓reduceIte,g2]
   all_goals rfl
theorem c44 (a:Auto)(n:Int):calV U 44 [encA a,.int .i64 n]=some (.bool (shortA a n)):=by
 refine pure_go k44 (by kernel_rfl) (by simp[stills,still_encA,still]) ?_
 rw[encA_eq]
 have nn:=noAgg_encS a.nNl (a.next.map encRow)
 have nf:=noAgg_encS a.fNl (a.fires.map encFRow)
 have cn:=cells_encS a.nNl (a.next.map encRow)
 have cf:=cells_encS a.fNl (a.fires.map encFRow)
 have ln:=lenL_encS a.nNl (a.next.map encRow)
 have lf:=lenL_encS a.fNl (a.fires.map encFRow)
 rw[List.length_map] at ln lf
 unfold encN encFs shortA
 cases h1:decide ((a.next.length:Int)>n) <;> cases h2:decide ((a.next.length:Int)≤256) <;> cases h3:decide ((a.next.length:Int)>258) <;> cases h4:decide ((a.fires.length:Int)>260)
 all_goals simp (maxSteps:=2000000) +contextual only[go_sem,↓reduceIte,r44,nn,nf,cn,cf,ln,lf,h1,h2,h3,h4]
 all_goals try rfl
 all_goals have hN:a.next.length≤258:=by simp at h3;omega
 all_goals have hF:a.fires.length≤260:=by simp at h4;omega
 all_goals clear h1 h2 h3 h4
 all_goals refine l44 a hN hF ?_ ?_ ?_
 all_goals try simp +contextual only[go_sem,↓reduceIte]
 all_goals rfl
def nIs (l:List Nat):List Int:=l.map fun k:Nat=>(k:Int)
def nats (l:List Nat):List AV:=ints (nIs l)
theorem nIs_len (l:List Nat):(nIs l).length=l.length:=by simp[nIs]
theorem nats_len (l:List Nat):(nats l).length=l.length:=by rw[nats,ints_len,nIs_len]
theorem nats_get {l:List Nat}{i:Nat}(h:i<l.length):(nats l)[i]? = some (.int .i64 ((gt l i:Nat):Int)):=by
 rw[nats,ints_get,nIs,List.getElem?_map,List.getElem?_eq_getElem h,gt_get h];rfl
theorem nats_lay {l:List Nat}{i:Nat}(k:Nat)(h:i<l.length):lay i [.int .i64 (k:Int)] (nats l)=some (nats (l.set i k)):=by
 rw[lay_set _ _ _ (by rw[nats_len];exact h)]
 simp[nats,ints,nIs,List.map_set]
theorem nats_app (l:List Nat)(k:Nat):nats l++[.int .i64 (k:Int)]=nats (l++[k]):=by simp[nats,ints,nIs]
theorem bin_eqb (a b:Bool):binA U .eql 4 false (.bool a) (.bool b)=some (.bool (a==b)):=by cases a <;> cases b <;> kernel_rfl
theorem frz_slN {s:St}{b d n:Nat}{cap:Option Nat}{L:List Nat}(hL:L.length=n)(hg:s.get b=some (.cells (nats L) 3 false 0 0)):frz U s (d+2) (.sl b 0 n cap 1)=some (.fz (nats L)):=by
 have:=frz_slI (d:=d) (cap:=cap) hg
 rw[nIs_len,hL] at this
 exact this
def frow (A:Fa)(q:Nat):List Bool:=(List.range A.m).map (A.fr q)
def BlkI (s:St)(b:Nat)(t:TypeId)(c:AV)(l:List AV):Prop:=∃j,c=.sl j 0 l.length (some l.length) 1∧j<s.next∧j≠b∧12≤j∧s.get j=some (.cells l t false 0 0)
theorem BlkI.mono {s s':St}{b b':Nat}{t:TypeId}{c:AV}{l:List AV}(h:BlkI s b t c l)(hn:s.next≤s'.next)(hb:∀j,j<s.next→j≠b→j≠b')(hg:∀j,j<s.next→j≠b→12≤j→s.get j=some (.cells l t false 0 0)→s'.get j=some (.cells l t false 0 0)):BlkI s' b' t c l:=by
 obtain⟨j,h1,h2,h3,h4,h5⟩:=h
 exact⟨j,h1,by omega,hb j h2 h3,h4,hg j h2 h3 h4 h5⟩
theorem BlkI.frz {s:St}{b d:Nat}{c:AV}{l:List AV}{t:TypeId}(h:BlkI s b t c l)(hag:isAggT U t=some false)(hsz:size U t=some 1)(hna:l.all noAgg=true)(hf:mapO (Go.Am.frz U s d) l=some l):Go.Am.frz U s (d+1) c=some (.fz l):=by
 obtain⟨j,rfl,_,_,_,h5⟩:=h
 rw[frz_sl,h5,frzS_cells,Nat.mul_one,grab_all,hag,hsz,frzT_one,if_pos hna,chunks_all,hf,fzK_some]
theorem mapO_idx {A:Type}{f:AV→Option AV}{g:A→AV}:∀{cs:List AV} {rs:List A},cs.length=rs.length→(∀j (h:j<cs.length) (h':j<rs.length),f cs[j]=some (g rs[j]))→mapO f cs=some (rs.map g)
 |[],[],_,_=>rfl
 |c::cs,r::rs,hl,h=>by
  have h0:=h 0 (by simp) (by simp)
  simp only[List.getElem_cons_zero] at h0
  have ih:=mapO_idx (f:=f) (g:=g) (cs:=cs) (rs:=rs) (by simpa using hl) fun j h1 h2=>by
   have:=h (j+1) (by simpa using h1) (by simpa using h2)
   simpa using this
  rw[mapO_cons,h0,ih,List.map_cons]
  rfl
 |[],_::_,hl,_=>by simp at hl
 |_::_,[],hl,_=>by simp at hl
end Go.Am
namespace Go.Am
open Go
variable [MaxLen]
set_option maxRecDepth 100000
set_option maxHeartbeats 8000000
end Go.Am
namespace Go.Am
open Go
variable [MaxLen]
set_option maxRecDepth 100000
set_option maxHeartbeats 4000000
structure PtI (s:St)(pb n bl bp bs bb be bm:Nat)(p:Pt):Prop where
 g:s.get pb=some (.cells [.sl bl 0 p.list.length none 1,.sl bp 0 p.place.length (some n) 1,.sl bs 0 p.set.length (some n) 1,.sl bb 0 p.bg.length none 1,.sl be 0 p.en.length none 1,.sl bm 0 p.mr.length none 1] 285 false 0 0)
 gl:s.get bl=some (.cells (nats p.list) 3 false 0 0)
 gp:s.get bp=some (.cells (nats p.place) 3 false 0 0)
 gs:s.get bs=some (.cells (nats p.set) 3 false 0 0)
 gb:s.get bb=some (.cells (nats p.bg) 3 false 0 0)
 ge:s.get be=some (.cells (nats p.en) 3 false 0 0)
 gm:s.get bm=some (.cells (nats p.mr) 3 false 0 0)
 ne:[pb,bl,bp,bs,bb,be,bm].Nodup
 lt:∀j∈[pb,bl,bp,bs,bb,be,bm],j<s.next
theorem PtI.mono {s s':St}{pb n bl bp bs bb be bm:Nat}{p:Pt}(h:PtI s pb n bl bp bs bb be bm p)(hn:s.next≤s'.next)(hg:∀j∈[pb,bl,bp,bs,bb,be,bm],s'.get j=s.get j):PtI s' pb n bl bp bs bb be bm p :=
 ⟨(hg _ (by simp)).trans h.g,(hg _ (by simp)).trans h.gl,(hg _ (by simp)).trans h.gp,(hg _ (by simp)).trans h.gs,(hg _ (by simp)).trans h.gb,(hg _ (by simp)).trans h.ge,(hg _ (by simp)).trans h.gm,h.ne,fun j hj=>Nat.lt_of_lt_of_le (h.lt j hj) hn⟩
structure Ap (pb bl bp bs bb be bm:Nat):Prop where
 n1:pb≠bl
 n2:pb≠bp
 n3:pb≠bs
 n4:pb≠bb
 n5:pb≠be
 n6:pb≠bm
 n7:bl≠bp
 n8:bl≠bs
 n9:bl≠bb
 n10:bl≠be
 n11:bl≠bm
 n12:bp≠bs
 n13:bp≠bb
 n14:bp≠be
 n15:bp≠bm
 n16:bs≠bb
 n17:bs≠be
 n18:bs≠bm
 n19:bb≠be
 n20:bb≠bm
 n21:be≠bm
theorem Ap.of {pb bl bp bs bb be bm:Nat}(ne:[pb,bl,bp,bs,bb,be,bm].Nodup):Ap pb bl bp bs bb be bm:=by
 simp only[List.nodup_cons,List.mem_cons,List.not_mem_nil,not_or,or_false,List.nodup_nil,and_true] at ne
 obtain⟨⟨n1,n2,n3,n4,n5,n6⟩,⟨n7,n8,n9,n10,n11⟩,⟨n12,n13,n14,n15⟩,⟨n16,n17,n18⟩,⟨n19,n20⟩,n21,-⟩:=ne
 exact⟨n1,n2,n3,n4,n5,n6,n7,n8,n9,n10,n11,n12,n13,n14,n15,n16,n17,n18,n19,n20,n21⟩
end Go.Am
namespace Go.Am
open Go
variable [MaxLen]
set_option maxRecDepth 100000
set_option maxHeartbeats 8000000
theorem us_nil (s:St):builtinA U .unsafeString #[269,3] [.nilp,.int .i64 0] s=some (.str [],s):=rfl
attribute [go_sem] us_nil
def ent (es:List (Str×AV)):List (AV×AV):=es.map fun x=>(AV.str x.1,x.2)
noncomputable def updK (t:TypeId)(m k v:Option AV)(s:St):Option (AV×St):=match m,k,v with
 |some m,some k,some v=>unitO (updateA U t m k v s)
 |_,_,_=>none
theorem opA_mapUpdate (ex:Ex)(e:Env)(s:St)(t:TypeId)(m k v:Operand):opA U ex e (.mapUpdate t m k v) s=updK t (eval U e m) (eval U e k) (eval U e v) s:=by
 unfold updK
 simp only[opA]
 rfl
theorem opA_insertM (ex:Ex)(e:Env)(s:St)(t:TypeId)(m k v:Operand):opA U ex e (.insert t m k v) s=updK t (eval U e m) (eval U e k) (eval U e v) s:=by
 unfold updK
 simp only[opA]
 rfl
theorem updK_some (t:TypeId)(m k v:AV)(s:St):updK t (some m) (some k) (some v) s=unitO (updateA U t m k v s):=(fun h=>h) rfl
theorem opA_makeMap (ex:Ex)(e:Env)(s:St)(t:TypeId):opA U ex e (.makeMap t none) s=some (.map s.next,s.new (.map [] false)):=(fun h=>h) rfl
attribute [go_sem ↓] opA_mapUpdate opA_insertM opA_makeMap
attribute [go_sem] updK_some
def esOf (len:Str→Nat):List Str→List Nat→List (Str×AV)
 |k::ks,b::bs=>(k,.sl b 0 (len k) none 1)::esOf len ks bs
 |_,_=>[]
theorem appX' {s:St}{b n:Nat}{L:List Nat}(hL:L.length=n)(hg:s.get b=some (.cells (nats L) 3 false 0 0))(k:Nat) :
  appD 3 1 1 [.int .i64 (k:Int)] (.sl b 0 n none 1) s=some (.sl s.next 0 (n+1) none 1,(s.put b .gone).new (.cells (nats (L++[k])) 3 false 0 0)):=by
 have hcs:(nats L).length=n*1:=by rw[nats_len,hL,Nat.mul_one]
 rw[appD_sl,hg,appS_cells hcs (by omega) rfl,nats_app]
def strs (l:List Str):List AV:=l.map .str
structure Grp (s:St)(m:Nat)(κ:Nat→Str)(i:Nat)(bl:List Nat)(vo:AV):Prop where
 gm:s.get m=some (.map (ent (esOf (fun k=>(grp κ k i).length) (ordK κ i) bl)) false)
 len:bl.length=(ordK κ i).length
 nd:bl.Nodup
 blk:∀j (h:j<bl.length) (h':j<(ordK κ i).length),m<bl[j]∧bl[j]<s.next∧s.get bl[j]=some (.cells (nats (grp κ (ordK κ i)[j] i)) 3 false 0 0)
 row:RowI s (m+1) 9 1 (ordK κ i).length (strs (ordK κ i)) vo
def SlI (s:St)(N:Nat)(L:List Nat)(v:AV):Prop:=(v=.nils∧L=[])∨∃b,v=.sl b 0 L.length none 1∧s.get b=some (.cells (nats L) 3 false 0 0)∧N≤b∧b<s.next
def isB (v:AV)(j:Nat):Prop:=∃n,v=.sl j 0 n none 1
theorem SlI.keep {s s':St}{N:Nat}{L:List Nat}{v:AV}(h:SlI s N L v)(hn:s.next≤s'.next)(hg:∀j,j<s.next→N≤j→isB v j→s'.get j=s.get j):SlI s' N L v:=by
 rcases h with h|⟨b,h1,h2,h3,h4⟩
 ·exact .inl h
 ·exact .inr ⟨b,h1,by rw[hg b h4 h3 ⟨_,h1⟩];exact h2,h3,by omega⟩
structure MidI (s:St)(pb n bp bs N:Nat)(p:Pt)(vl ve:AV)(b1 b3:Nat):Prop where
 g:s.get pb=some (.cells [vl,.sl bp 0 n (some n) 1,.sl bs 0 n (some n) 1,.sl b1 0 p.bg.length none 1,ve,.sl b3 0 p.mr.length none 1] 285 false 0 0)
 gp:s.get bp=some (.cells (nats p.place) 3 false 0 0)
 gs:s.get bs=some (.cells (nats p.set) 3 false 0 0)
 gb:s.get b1=some (.cells (nats p.bg) 3 false 0 0)
 gm:s.get b3=some (.cells (nats p.mr) 3 false 0 0)
 l:SlI s N p.list vl
 e:SlI s N p.en ve
 h1:N≤b1∧b1<s.next∧N≤b3∧b3<s.next∧b1≠b3
 dl:∀j,isB vl j→j≠b1∧j≠b3∧¬isB ve j
 de:∀j,isB ve j→j≠b1∧j≠b3
 lo:pb<N∧bp<N∧bs<N∧pb≠bp∧pb≠bs∧bp≠bs∧N≤s.next
 lp:p.place.length=n
 ls:p.set.length=n
theorem appD_slk {t:TypeId}{n m:Nat}{new:List AV}{b len k:Nat}{s:St}{cs:List AV}{lo hi:Nat}(hg:s.get b=some (.cells cs t false lo hi))(hl:cs.length=len*n)(hk:¬len+m≤k) :
  appD t n m new (.sl b 0 len (some k) n) s=some (.sl s.next 0 (len+m) none n,s.new (.cells (cs++new) t false 0 0)):=by
 simp only[appD,St.cells,hg]
 rw[←hl,grab_all]
 simp only
 rw[if_neg hk]
def SlJ (s:St)(N:Nat)(L:List Nat)(v:AV):Prop:=(v=.nils∧L=[])∨∃b R,v=.sl b 0 L.length none 1∧s.get b=some (.cells (nats (L++R)) 3 false 0 0)∧N≤b∧b<s.next
theorem SlJ.keep {s s':St}{N:Nat}{L:List Nat}{v:AV}(h:SlJ s N L v)(hn:s.next≤s'.next)(hg:∀j,j<s.next→N≤j→isB v j→s'.get j=s.get j):SlJ s' N L v:=by
 rcases h with h|⟨b,R,h1,h2,h3,h4⟩
 ·exact .inl h
 ·exact .inr ⟨b,R,h1,by rw[hg b h4 h3 ⟨_,h1⟩];exact h2,h3,by omega⟩
theorem SlJ.lenA {s:St}{N:Nat}{L:List Nat}{v:AV}(h:SlJ s N L v):Go.Am.lenA v=L.length:=by
 rcases h with⟨rfl,rfl⟩|⟨b,R,rfl,h2,h3,h4⟩ <;> rfl
theorem SlJ.lenL {s:St}{N:Nat}{L:List Nat}{v:AV}(h:SlJ s N L v):lenRL v=some (.int .i64 L.length):=by
 rcases h with⟨rfl,rfl⟩|⟨b,R,rfl,h2,h3,h4⟩ <;> rfl
def RowB (s:St)(L:List Nat)(v:AV):Prop:=(v=.nils∧L=[])∨∃b,v=.sl b 0 L.length none 1∧s.get b=some (.cells (nats L) 3 false 0 0)∧b<s.next
theorem RowB.keep {s s':St}{L:List Nat}{v:AV}(h:RowB s L v)(hn:s.next≤s'.next)(hg:∀j,j<s.next→isB v j→s'.get j=s.get j):RowB s' L v:=by
 rcases h with h|⟨b,h1,h2,h4⟩
 ·exact .inl h
 ·exact .inr ⟨b,h1,by rw[hg b h4 ⟨_,h1⟩];exact h2,by omega⟩
theorem RowB.lenL {s:St}{L:List Nat}{v:AV}(h:RowB s L v):lenRL v=some (.int .i64 L.length):=by
 rcases h with⟨rfl,rfl⟩|⟨b,rfl,h2,h4⟩ <;> rfl
structure BefI (s:St)(B m n:Nat)(bf:Nat→Nat→List Nat)(lo hi:Nat)(bx:Nat→Nat)(vs:Nat→Nat→AV):Prop where
 g:s.get B=some (.cells ((List.range m).map fun x=>.sl (bx x) 0 n (some n) 1) 66 false 0 0)
 row:∀x,x<m→s.get (bx x)=some (.cells ((List.range n).map (vs x)) 40 false 0 0)
 bl:∀x,x<m→∀c,c<n→RowB s (bf x c) (vs x c)
 hB:lo≤B∧B<hi
 hx:∀x,x<m→lo≤bx x∧bx x<hi
 hv:∀x,x<m→∀c,c<n→∀j,isB (vs x c) j→lo≤j∧j<hi
 le:hi≤s.next
theorem BefI.keep {s s':St}{B m n:Nat}{bf:Nat→Nat→List Nat}{lo hi:Nat}{bx:Nat→Nat}{vs:Nat→Nat→AV}(h:BefI s B m n bf lo hi bx vs)(hn:s.next≤s'.next)(hg:∀j,lo≤j→j<hi→s'.get j=s.get j):BefI s' B m n bf lo hi bx vs :=
 ⟨(hg _ h.hB.1 h.hB.2).trans h.g,fun x hx=>(hg _ (h.hx x hx).1 (h.hx x hx).2).trans (h.row x hx),fun x hx c hc=>(h.bl x hx c hc).keep hn fun j _ hj=>hg j (h.hv x hx c hc j hj).1 (h.hv x hx c hc j hj).2,h.hB,h.hx,h.hv,by have:=h.le;omega⟩
structure BefX (s:St)(B m n:Nat)(bf:Nat→Nat→List Nat)(x:Nat)(bx:Nat→Nat)(vs:Nat→Nat→AV):Prop where
 g:s.get B=some (.cells ((List.range m).map fun y=>if y<x then .sl (bx y) 0 n (some n) 1 else .nils) 66 false 0 0)
 row:∀y,y<x→s.get (bx y)=some (.cells ((List.range n).map (vs y)) 40 false 0 0)
 bl:∀y,y<x→∀c,c<n→SlI s (B+1) (bf y c) (vs y c)
 hx:∀y,y<x→B<bx y∧bx y<s.next
theorem appC {s:St}{b n:Nat}{cap:Option Nat}{L:List Nat}(hc:cap=none∨cap=some n)(hL:L.length=n)(hg:s.get b=some (.cells (nats L) 3 false 0 0))(hb:b<s.next)(k:Nat) :
  ∃s1,appD 3 1 1 [.int .i64 (k:Int)] (.sl b 0 n cap 1) s=some (.sl s.next 0 (n+1) none 1,s1)∧s1.next=s.next+1∧s1.get s.next=some (.cells (nats (L++[k])) 3 false 0 0)∧(∀j,j<s.next→j≠b→s1.get j=s.get j)∧(Fr s→Fr s1):=by
 rcases hc with rfl|rfl
 ·refine⟨_,appX' hL hg k,rfl,?_,fun j h1 h2=>?_,fun hf=>(hf.put hb _).new _⟩
  ·rw[get_new,next_put,if_pos rfl]
  ·rw[get_new,next_put,if_neg (by omega),get_put,if_neg h2.symm]
 ·refine⟨s.new (.cells (nats (L++[k])) 3 false 0 0),?_,rfl,?_,fun j h1 h2=>?_,fun hf=>hf.new _⟩
  ·rw[appD_slk hg (by rw[nats_len,hL,Nat.mul_one]) (by omega),nats_app]
  ·rw[get_new,if_pos rfl]
  ·rw[get_new,if_neg (by omega)]
theorem SlI.lenA {s:St}{N:Nat}{L:List Nat}{v:AV}(h:SlI s N L v):Go.Am.lenA v=L.length:=by
 rcases h with⟨rfl,rfl⟩|⟨b,rfl,h2,h3,h4⟩ <;> rfl
theorem blk_ne {s:St}{j k:Nat}{c c':List AV}{t t':TypeId}(h:s.get j=some (.cells c t false 0 0))(h':s.get k=some (.cells c' t' false 0 0))(ht:t≠t'):j≠k:=by
 rintro rfl
 have:=h.symm.trans h'
 injection this with this
 injection this with _ e
 exact ht e
def BlkJ (s:St)(b:Nat)(t:TypeId)(c:AV)(l:List AV):Prop:=∃j cap,c=.sl j 0 l.length cap 1∧j<s.next∧j≠b∧13≤j∧s.get j=some (.cells l t false 0 0)
theorem BlkJ.mono {s s':St}{b b':Nat}{t:TypeId}{c:AV}{l:List AV}(h:BlkJ s b t c l)(hn:s.next≤s'.next)(hg:∀j,j<s.next→j≠b→13≤j→s.get j=some (.cells l t false 0 0)→j≠b'∧s'.get j=some (.cells l t false 0 0)):BlkJ s' b' t c l:=by
 obtain⟨j,cap,h1,h2,h3,h4,h5⟩:=h
 obtain⟨h6,h7⟩:=hg j h2 h3 h4 h5
 exact⟨j,cap,h1,by omega,h6,h4,h7⟩
theorem BlkJ.frz {s:St}{b d:Nat}{c:AV}{l:List AV}{t:TypeId}(h:BlkJ s b t c l)(hag:isAggT U t=some false)(hsz:size U t=some 1)(hna:l.all noAgg=true)(hf:mapO (Go.Am.frz U s d) l=some l):Go.Am.frz U s (d+1) c=some (.fz l):=by
 obtain⟨j,cap,rfl,_,_,_,h5⟩:=h
 rw[frz_sl,h5,frzS_cells,Nat.mul_one,grab_all,hag,hsz,frzT_one,if_pos hna,chunks_all,hf,fzK_some]
theorem c232 (n:Int):calV U 232 [.int .i64 n]=some (.bool false):=by
 refine pure_go k232 (by kernel_rfl) rfl ?_
 simp (maxSteps:=2000000) +contextual only[go_sem,↓reduceIte,r232,bne_self_eq_false]
def cmpI (a b:Int):Int:=br (decide (a<b)) (-1) (br (decide (a>b)) 1 0)
theorem c187 (a b:Int):calV U 187 [.int .i64 a,.int .i64 b]=some (.int .i64 (cmpI a b)):=by
 refine pure_go k187 (by kernel_rfl) rfl ?_
 have h1:=c232 a
 have h2:=c232 b
 unfold cmpI
 cases ha:decide (a<b) with
 |true=>simp (maxSteps:=2000000) +contextual only[go_sem,↓reduceIte,r187,h1,h2,ha,br_true]
 |false =>
  cases hb:decide (a>b) with
  |true=>simp (maxSteps:=2000000) +contextual only[go_sem,↓reduceIte,r187,h1,h2,ha,hb,br_true,br_false]
  |false=>simp (maxSteps:=2000000) +contextual only[go_sem,↓reduceIte,r187,h1,h2,ha,hb,br_false]
def ordI (x0 x1 y0 y1:Int):Int:=br (cmpI x0 y0 != 0) (cmpI x0 y0) (cmpI x1 y1)
theorem g186 (a b:Int):go U (finP U [.tmp 2]) [] r186 (bindArgs 0 [.fz [.int .i64 a,.int .i64 b]] .nil) (ownSt U)=some (.int .i64 (br (a != 0) a b)):=by
 have w1:IntKind.i64.wrap 1=1:=rfl
 have w2:IntKind.i64.wrap 2=2:=rfl
 have d0:decide ((0:Int)<((2:Nat):Int))=true:=rfl
 have d1:decide ((1:Int)<((2:Nat):Int))=true:=rfl
 have d2:decide ((2:Int)<((2:Nat):Int))=false:=rfl
 have i1:ixRA 1 (.fz [.int .i64 a,.int .i64 b]) (.int .i64 1)=some (.fp [.int .i64 b] 0):=rfl
 simp (maxSteps:=2000000) +contextual only[go_sem,↓reduceIte,r186]
 rw[goL_eq]
 cases ha:a != 0 with
 |true=>simp (maxSteps:=2000000) +contextual only[go_sem,↓reduceIte,r186_l0,ha,d0,br_true]
 |false =>
  simp (maxSteps:=2000000) +contextual only[go_sem,↓reduceIte,r186_l0,ha,d0,w1,br_true,br_false]
  rw[goL_eq]
  cases hb:b != 0 with
  |true=>simp (maxSteps:=2000000) +contextual only[go_sem,↓reduceIte,r186_l0,hb,d1,i1,br_true]
  |false =>
   have hb0:b=0:=by simpa using hb
   subst hb0
   simp (maxSteps:=2000000) +contextual only[go_sem,↓reduceIte,r186_l0,hb,d1,i1,w2,br_true,br_false]
   rw[goL_eq]
   simp (maxSteps:=2000000) +contextual only[go_sem,↓reduceIte,r186_l0,d2,br_true,br_false]
theorem cz186 (a b:Int)(s:St):calZ U 186 (some [.fz [.int .i64 a,.int .i64 b]]) s=some (.int .i64 (br (a != 0) a b),s):=calZ_some U s (q_of k186 rfl (g186 a b))
theorem k186S {s:St}{j:Nat}{a b:Int}(h:s.get j=some (.cells [.int .i64 a,.int .i64 b] 3 false 0 0)):callK U (calV U 186 [.sl j 0 2 (some 2) 1]) 186 [.sl j 0 2 (some 2) 1] s=some (.int .i64 (br (a != 0) a b),s):=by
 rw[z_of (by kernel_rfl) s rfl]
 have h1:frz U s 40 (.sl j 0 2 (some 2) 1)=some (.fz [.int .i64 a,.int .i64 b]):=frz_slI (d:=38) (s:=s) (b:=j) (cap:=some 2) (l:=[a,b]) h
 have hm:mapO (frz U s 40) [.sl j 0 2 (some 2) 1]=some [.fz [.int .i64 a,.int .i64 b]]:=by
  simp only[mapO,h1]
 rw[hm]
 exact cz186 a b s
theorem c142 (x0 x1 y0 y1:Int):calV U 142 [.agg [.int .i64 x0,.int .i64 x1],.agg [.int .i64 y0,.int .i64 y1]]=some (.int .i64 (ordI x0 x1 y0 y1)):=by
 refine pure_go k142 (by kernel_rfl) rfl ?_
 have h1:=c187 x0 y0
 have h2:=c187 x1 y1
 have hk:=fun (S:St) (j:Nat) (h:S.get j=some (.cells [.int .i64 (cmpI x0 y0),.int .i64 (cmpI x1 y1)] 3 false 0 0))=>k186S h
 simp (maxSteps:=2000000) +contextual only[go_sem,↓reduceIte,r142,h1,h2,hk]
 rfl
theorem ord_code {k c d:Nat}(hk:0<k):decide (ordI ((c / k:Nat):Int) ((c%k:Nat):Int) ((d / k:Nat):Int) ((d%k:Nat):Int)<0)=decide (c<d)∧(ordI ((c / k:Nat):Int) ((c%k:Nat):Int) ((d / k:Nat):Int) ((d%k:Nat):Int)≥0↔d≤c):=by
 have hc:=Nat.div_add_mod c k
 have hd:=Nat.div_add_mod d k
 have h1:=Nat.mod_lt c hk
 have h2:=Nat.mod_lt d hk
 have key:(c / k<d / k→c<d)∧(d / k<c / k→d<c):=by
  refine⟨fun h=>?_,fun h=>?_⟩
  ·have:k*(c / k+1)≤k*(d / k):=Nat.mul_le_mul_left k h
   rw[Nat.mul_add,Nat.mul_one] at this
   omega
  ·have:k*(d / k+1)≤k*(c / k):=Nat.mul_le_mul_left k h
   rw[Nat.mul_add,Nat.mul_one] at this
   omega
 have keyE:c / k=d / k→(c<d↔c%k<d%k):=fun h=>by
  rw[h] at hc
  omega
 generalize c / k=c0 at *
 generalize c%k=c1 at *
 generalize d / k=d0 at *
 generalize d%k=d1 at *
 unfold ordI cmpI
 rcases Nat.lt_trichotomy c0 d0 with h|h|h
 ·have b1:decide (((c0:Nat):Int)<((d0:Nat):Int))=true:=decide_eq_true (by omega)
  have:=key.1 h
  rw[b1,br_true]
  simp[br]
  omega
 ·have b1:decide (((c0:Nat):Int)<((d0:Nat):Int))=false:=decide_eq_false (by omega)
  have b2:decide (((c0:Nat):Int)>((d0:Nat):Int))=false:=decide_eq_false (by omega)
  have e:=keyE h
  rw[b1,b2,br_false,br_false,show ((0:Int) != 0)=false from rfl,br_false]
  rcases Nat.lt_trichotomy c1 d1 with h'|h'|h'
  ·have b3:decide (((c1:Nat):Int)<((d1:Nat):Int))=true:=decide_eq_true (by omega)
   rw[b3,br_true]
   simp
   omega
  ·have b3:decide (((c1:Nat):Int)<((d1:Nat):Int))=false:=decide_eq_false (by omega)
   have b4:decide (((c1:Nat):Int)>((d1:Nat):Int))=false:=decide_eq_false (by omega)
   rw[b3,b4,br_false,br_false]
   simp
   omega
  ·have b3:decide (((c1:Nat):Int)<((d1:Nat):Int))=false:=decide_eq_false (by omega)
   have b4:decide (((c1:Nat):Int)>((d1:Nat):Int))=true:=decide_eq_true (by omega)
   rw[b3,b4,br_false,br_true]
   simp
   omega
 ·have b1:decide (((c0:Nat):Int)<((d0:Nat):Int))=false:=decide_eq_false (by omega)
  have b2:decide (((c0:Nat):Int)>((d0:Nat):Int))=true:=decide_eq_true (by omega)
  have:=key.2 h
  rw[b1,b2,br_false,br_true]
  simp[br]
  omega
end Go.Am
namespace Go.Am
open Go
def bub:Nat→List Nat→List Nat
 |0,L=>L
 |j+1,L=>bif decide (gt L (j+1)<gt L j) then bub j ((L.set (j+1) (gt L j)).set j (gt L (j+1))) else L
def isort:Nat→Nat→List Nat→List Nat
 |0,_,L=>L
 |r+1,i,L=>isort r (i+1) (bub i L)
theorem bub_len:∀(j:Nat) (L:List Nat),(bub j L).length=L.length
 |0,_=>rfl
 |j+1,L=>by
  rw[bub]
  cases decide (gt L (j+1)<gt L j) with
  |true=>rw[cond_true,bub_len j];simp
  |false=>rfl
theorem gt_midB {A B:List Nat}{x:Nat}:gt (A++x::B) A.length=x:=by
 unfold gt
 rw[List.getD_eq_getElem?_getD,List.getElem?_append_right (Nat.le_refl _)]
 simp
theorem bub_spec:∀(j:Nat) (A B:List Nat) (x:Nat),A.length=j→A.Pairwise (·≤·)→∃A2,bub j (A++x::B)=A2++B∧A2.Perm (A++[x])∧A2.Pairwise (·≤·)
 |0,A,B,x,hA,_=>by
  have:A=[]:=List.length_eq_zero_iff.1 hA
  subst this
  exact⟨[x],rfl,List.Perm.refl _,by simp⟩
 |j+1,A,B,x,hA,hs=>by
  obtain⟨A',y,rfl⟩:∃A' y,A=A'++[y]:=by
   refine⟨A.dropLast,A.getLast (by intro e;rw[e] at hA;simp at hA),?_⟩
   exact (List.dropLast_concat_getLast _).symm
  have hl:A'.length=j:=by simpa using hA
  have e1:gt (A'++[y]++x::B) (j+1)=x:=by
   have:=gt_midB (A:=A'++[y]) (B:=B) (x:=x)
   rwa [List.length_append,List.length_singleton,hl] at this
  have e2:gt (A'++[y]++x::B) j=y:=by
   rw[List.append_assoc]
   have:=gt_midB (A:=A') (B:=x::B) (x:=y)
   rwa [hl] at this
  rw[bub,e1,e2]
  rw[List.pairwise_append] at hs
  obtain⟨s1,_,s3⟩:=hs
  cases hd:decide (x<y) with
  |true =>
   have hxy:x<y:=of_decide_eq_true hd
   have e3:((A'++[y]++x::B).set (j+1) y).set j x=A'++x::(y::B):=by
    rw[List.append_assoc,List.set_append_right _ _ (by omega),List.set_append_right _ _ (by omega),hl,Nat.add_sub_cancel_left,Nat.sub_self]
    rfl
   rw[cond_true,e3]
   obtain⟨A2,q1,q2,q3⟩:=bub_spec j A' (y::B) x hl s1
   refine⟨A2++[y],by rw[q1];simp,?_,?_⟩
   ·have h1:(A2++[y]).Perm ((A'++[x])++[y]):=q2.append_right _
    have h2:((A'++[x])++[y]).Perm ((A'++[y])++[x]):=by
     rw[List.append_assoc,List.append_assoc]
     exact List.Perm.append_left _ (List.Perm.swap _ _ _)
    exact h1.trans h2
   ·rw[List.pairwise_append]
    refine⟨q3,by simp,fun a ha b hb=>?_⟩
    rw[List.mem_singleton.1 hb]
    rcases List.mem_append.1 (q2.mem_iff.1 ha) with h|h
    ·exact s3 a h y (List.mem_singleton.2 rfl)
    ·rw[List.mem_singleton.1 h];omega
  |false =>
   have hxy:¬x<y:=of_decide_eq_false hd
   rw[cond_false]
   refine⟨A'++[y]++[x],by simp,List.Perm.refl _,?_⟩
   rw[List.pairwise_append]
   refine⟨by rw[List.pairwise_append];exact⟨s1,by simp,s3⟩,by simp,fun a ha b hb=>?_⟩
   rw[List.mem_singleton.1 hb]
   rcases List.mem_append.1 ha with h|h
   ·have:=s3 a h y (List.mem_singleton.2 rfl);omega
   ·rw[List.mem_singleton.1 h];omega
theorem isort_spec:∀(r:Nat) (A B:List Nat),B.length=r→A.Pairwise (·≤·)→(isort r A.length (A++B)).Perm (A++B)∧(isort r A.length (A++B)).Pairwise (·≤·)
 |0,A,B,hB,hs=>by
  have:B=[]:=List.length_eq_zero_iff.1 hB
  subst this
  rw[isort,List.append_nil]
  exact⟨List.Perm.refl _,hs⟩
 |r+1,A,[],hB,hs=>by simp at hB
 |r+1,A,x::B,hB,hs=>by
  obtain⟨A2,q1,q2,q3⟩:=bub_spec A.length A B x rfl hs
  have hl:A2.length=A.length+1:=by have:=q2.length_eq;simpa using this
  rw[isort,q1,←hl]
  obtain⟨p1,p2⟩:=isort_spec r A2 B (by simpa using hB) q3
  refine⟨p1.trans ?_,p2⟩
  have:=q2.append_right B
  rwa [List.append_assoc] at this
def sortL (L:List Nat):List Nat:=isort (L.length-1) 1 L
theorem sortL_spec (L:List Nat):(sortL L).Perm L∧(sortL L).Pairwise (·≤·):=by
 unfold sortL
 cases L with
 |nil=>exact⟨List.Perm.refl _,List.Pairwise.nil⟩
 |cons x L =>
  have:=isort_spec L.length [x] L rfl (by simp)
  exact this
def prodF (A B:Fa):Fa where
 n:=A.n*B.n
 m:=A.m
 nx c x:=A.nx (c / B.n) x*B.n+B.nx (c%B.n) x
 fr c x:=A.fr (c / B.n) x
theorem pair_lt {a b n k:Nat}(ha:a<n)(hb:b<k):a*k+b<n*k:=by
 have:(a+1)*k≤n*k:=Nat.mul_le_mul_right k ha
 rw[Nat.succ_mul] at this
 omega
theorem pair_div {a b k:Nat}(hb:b<k):(a*k+b) / k=a:=by
 rw[Nat.mul_comm,Nat.mul_add_div (by omega),Nat.div_eq_of_lt hb,Nat.add_zero]
theorem pair_mod {a b k:Nat}(hb:b<k):(a*k+b)%k=b:=by
 rw[Nat.mul_comm,Nat.mul_add_mod,Nat.mod_eq_of_lt hb]
theorem prodF_ok {A B:Fa}(hA:A.ok)(hB:B.ok)(hm:A.m=B.m):(prodF A B).ok:=by
 refine⟨Nat.mul_pos hA.pos hB.pos,fun c x hc hx=>?_⟩
 have hc:c<A.n*B.n:=hc
 have hx:x<A.m:=hx
 have h1:c / B.n<A.n:=Nat.div_lt_of_lt_mul (by rw[Nat.mul_comm];exact hc)
 have h2:c%B.n<B.n:=Nat.mod_lt _ hB.pos
 exact pair_lt (hA.lt _ _ h1 hx) (hB.lt _ _ h2 (by omega))
abbrev Trip:=Nat×Nat×Nat
def visRow (nx:Nat→Nat)(y:Nat→Bool)(i:Nat):Nat→Nat→List Trip→List Trip×Option Nat
 |0,_,T=>(T,none)
 |r+1,x,T=>bif y x then visRow nx y i r (x+1) (bif decide (nx x∈T.map (·.1)) then T else T++[(nx x,i,x)]) else (T,some x)
def visT (A:Fa)(y:Nat→Nat→Bool):Nat→Nat→List Trip→List Trip×Option (Nat×Nat)
 |0,_,T=>(T,none)
 |f+1,i,T=>match T[i]? with
  |none=>(T,none)
  |some t=>match visRow (A.nx t.1) (y t.1) i A.m 0 T with
   |(T',some x)=>(T',some (i,x))
   |(T',none)=>visT A y f (i+1) T'
def sigT (T:List Trip):Nat→Nat→List Nat
 |0,_=>[]
 |f+1,k=>match k with
  |0=>[]
  |k+1=>match T[k+1]? with
   |none=>[]
   |some t=>sigT T f t.2.1++[t.2.2]
structure VisI (A:Fa)(T:List Trip):Prop where
 pos:0<T.length
 nd:(T.map (·.1)).Nodup
 lt:∀t∈T,t.1<A.n
 fr:∀k t,T[k+1]? = some t→t.2.1≤k∧t.2.2<A.m
theorem VisI.len {A:Fa}{T:List Trip}(h:VisI A T):T.length≤A.n:=by
 have:=nodup_few (κ:=id) (st:=T.map (·.1)) (by rw[List.map_id];exact h.nd) (n:=A.n) fun a ha=>by
  obtain⟨t,ht,rfl⟩:=List.mem_map.1 ha
  exact h.lt t ht
 rwa [List.length_map] at this
theorem VisI.put {A:Fa}{T:List Trip}(h:VisI A T){c i x:Nat}(hc:c<A.n)(hi:i<T.length)(hx:x<A.m)(hn:c∉T.map (·.1)):VisI A (T++[(c,i,x)]):=by
 refine⟨by simp,?_,fun t ht=>?_,fun k t ht=>?_⟩
 ·rw[List.map_append,List.nodup_append]
  refine⟨h.nd,by simp,fun a ha b hb=>?_⟩
  simp only[List.map_cons,List.map_nil,List.mem_singleton] at hb
  rintro rfl
  rw[hb] at ha
  exact hn ha
 ·rcases List.mem_append.1 ht with h1|h1
  ·exact h.lt t h1
  ·rw[List.mem_singleton.1 h1];exact hc
 ·by_cases hk:k+1<T.length
  ·rw[List.getElem?_append_left hk] at ht
   exact h.fr k t ht
  ·have hk2:k+1=T.length:=by
    have:=(List.getElem?_eq_some_iff.1 ht).1
    simp at this;omega
   rw[hk2,List.getElem?_append_right (Nat.le_refl _),Nat.sub_self] at ht
   simp at ht
   subst ht
   exact⟨by simp only;omega,hx⟩
structure RowS (A:Fa)(T T':List Trip):Prop where
 inv:VisI A T'
 pre:∃R,T'=T++R
theorem visRow_spec {A:Fa}(hA:A.ok){s i:Nat}(hs:s<A.n)(y:Nat→Bool):∀(r x:Nat) {T:List Trip},x+r≤A.m→VisI A T→i<T.length→RowS A T (visRow (A.nx s) y i r x T).1 ∧
  ((visRow (A.nx s) y i r x T).2=none→∀z,x≤z→z<x+r→y z=true∧A.nx s z∈(visRow (A.nx s) y i r x T).1.map (·.1)) ∧
  (∀z,(visRow (A.nx s) y i r x T).2=some z→x≤z∧z<x+r∧y z=false∧∀w,x≤w→w<z→y w=true)
 |0,x,T,_,h,_=>⟨⟨h,[],by simp[visRow]⟩,fun _ z h1 h2=>by omega,fun z hz=>by simp[visRow] at hz⟩
 |r+1,x,T,hx,h,hi=>by
  rw[visRow]
  cases hy:y x with
  |false =>
   refine⟨⟨h,[],by simp⟩,fun e=>by simp at e,fun z hz=>?_⟩
   simp at hz
   subst hz
   exact⟨Nat.le_refl _,by omega,hy,fun w h1 h2=>by omega⟩
  |true =>
   rw[cond_true]
   have hlt:=hA.lt s x hs (by omega)
   have h1:VisI A (bif decide (A.nx s x∈T.map (·.1)) then T else T++[(A.nx s x,i,x)])∧(∃R,(bif decide (A.nx s x∈T.map (·.1)) then T else T++[(A.nx s x,i,x)])=T++R)∧A.nx s x∈(bif decide (A.nx s x∈T.map (·.1)) then T else T++[(A.nx s x,i,x)]).map (·.1):=by
    by_cases hm:A.nx s x∈T.map (·.1)
    ·rw[decide_eq_true hm,cond_true]
     exact⟨h,⟨[],by simp⟩,hm⟩
    ·rw[decide_eq_false hm,cond_false]
     exact⟨h.put hlt hi (by omega) hm,⟨_,rfl⟩,by simp⟩
   generalize (bif decide (A.nx s x∈T.map (·.1)) then T else T++[(A.nx s x,i,x)])=T1 at *
   obtain⟨h1,⟨R,hR⟩,hm⟩:=h1
   obtain⟨⟨i1,R',hR'⟩,i2,i3⟩:=visRow_spec (i:=i) hA hs y r (x+1) (T:=T1) (by omega) h1 (by rw[hR];simp;omega)
   refine⟨⟨i1,R++R',by rw[hR',hR,List.append_assoc]⟩,fun e z q1 q2=>?_,fun z hz=>?_⟩
   ·by_cases hzx:z=x
    ·subst hzx
     refine⟨hy,?_⟩
     rw[hR',List.map_append]
     exact List.mem_append_left _ hm
    ·exact i2 e z (by omega) (by omega)
   ·obtain⟨a1,a2,a3,a4⟩:=i3 z hz
    refine⟨by omega,by omega,a3,fun w w1 w2=>?_⟩
    by_cases hwx:w=x
    ·subst hwx;exact hy
    ·exact a4 w (by omega) w2
structure VisE (A:Fa)(y:Nat→Nat→Bool)(i:Nat)(T:List Trip)(r:List Trip×Option (Nat×Nat)):Prop where
 inv:VisI A r.1
 pre:∃R,r.1=T++R
 go:r.2=none→∀k t,i≤k→r.1[k]? = some t→∀x,x<A.m→y t.1 x=true∧A.nx t.1 x∈r.1.map (·.1)
 stop:∀k x,r.2=some (k,x)→i≤k∧x<A.m∧(∃t,r.1[k]? = some t∧y t.1 x=false)∧(∀j t,i≤j→j<k→r.1[j]? = some t→∀z,z<A.m→y t.1 z=true)∧∀t,r.1[k]? = some t→∀z,z<x→y t.1 z=true
theorem visT_spec {A:Fa}(hA:A.ok)(y:Nat→Nat→Bool):∀(f i:Nat) {T:List Trip},VisI A T→i≤T.length→A.n+1≤f+i→VisE A y i T (visT A y f i T)
 |0,i,T,h,hi,hf=>by
  have:=h.len
  omega
 |f+1,i,T,h,hi,hf=>by
  rw[visT]
  cases ht:T[i]? with
  |none =>
   refine⟨h,⟨[],by simp⟩,fun _ k t hk hkt=>?_,fun k x e=>by simp at e⟩
   rw[List.getElem?_eq_none_iff] at ht
   have:=(List.getElem?_eq_some_iff.1 hkt).1
   simp only at this
   omega
  |some t =>
   have hil:=(List.getElem?_eq_some_iff.1 ht).1
   have htm:=List.mem_of_getElem? ht
   obtain⟨⟨i1,R,hR⟩,i2,i3⟩:=visRow_spec hA (h.lt t htm) (y t.1) A.m 0 (T:=T) (i:=i) (by omega) h hil
   simp only
   generalize hv:visRow (A.nx t.1) (y t.1) i A.m 0 T=v at *
   obtain⟨T1,o⟩:=v
   simp only at i1 hR i2 i3
   have hTi:T1[i]? = some t:=by rw[hR,List.getElem?_append_left hil];exact ht
   cases o with
   |some x =>
    obtain⟨a1,a2,a3,a4⟩:=i3 x rfl
    refine⟨i1,⟨R,hR⟩,fun e=>by simp at e,fun k z e=>?_⟩
    simp only[Option.some.injEq,Prod.mk.injEq] at e
    obtain⟨rfl,rfl⟩:=e
    refine⟨Nat.le_refl _,by omega,⟨t,hTi,a3⟩,fun j u q1 q2=>by omega,fun u hu z hz=>?_⟩
    rw[hTi] at hu
    cases hu
    exact a4 z (Nat.zero_le _) hz
   |none =>
    show VisE A y i T (visT A y f (i+1) T1)
    have hall:=i2 rfl
    have ih:=visT_spec hA y f (i+1) (T:=T1) i1 (by rw[hR];simp;omega) (by omega)
    obtain⟨j1,⟨R',hR'⟩,j3,j4⟩:=ih
    generalize visT A y f (i+1) T1=r at *
    have hri:r.1[i]? = some t:=by rw[hR',List.getElem?_append_left (by rw[hR];simp;omega)];exact hTi
    refine⟨j1,⟨R++R',by rw[hR',hR,List.append_assoc]⟩,fun e k u hk hu x hx=>?_,fun k x e=>?_⟩
    ·by_cases hki:k=i
     ·subst hki
      rw[hri] at hu
      cases hu
      obtain⟨b1,b2⟩:=hall x (Nat.zero_le _) (by omega)
      refine⟨b1,?_⟩
      rw[hR',List.map_append]
      exact List.mem_append_left _ b2
     ·exact j3 e k u (by omega) hu x hx
    ·obtain⟨b1,b2,b3,b4,b5⟩:=j4 k x e
     refine⟨by omega,b2,b3,fun j u q1 q2 hu z hz=>?_,b5⟩
     by_cases hji:j=i
     ·subst hji
      rw[hri] at hu
      cases hu
      exact (hall z (Nat.zero_le _) (by omega)).1
     ·exact b4 j u (by omega) q2 hu z hz
theorem visI0 {A:Fa}(hA:A.ok):VisI A [(0,0,0)]:=⟨by simp,by simp,fun t ht=>by rw[List.mem_singleton.1 ht];exact hA.pos,fun k t ht=>by simp at ht⟩
def visAll (A:Fa)(y:Nat→Nat→Bool):List Trip×Option (Nat×Nat):=visT A y (A.n+1) 0 [(0,0,0)]
theorem visAll_spec {A:Fa}(hA:A.ok)(y:Nat→Nat→Bool):VisE A y 0 [(0,0,0)] (visAll A y):=visT_spec hA y _ _ (visI0 hA) (by simp) (by omega)
def endS (r:List Trip×Option (Nat×Nat)):List Nat:=match r.2 with
 |none=>[]
 |some (i,x)=>sigT r.1 i i++[x]
theorem sigT_app (T R:List Trip){A:Fa}(h:VisI A T):∀(f k:Nat),k<T.length→sigT (T++R) f k=sigT T f k
 |0,k,_=>rfl
 |f+1,0,_=>rfl
 |f+1,k+1,hk=>by
  rw[sigT,sigT,List.getElem?_append_left hk]
  cases ht:T[k+1]? with
  |none=>rfl
  |some t =>
   have:=(h.fr k t ht).1
   simp only
   rw[sigT_app T R h f t.2.1 (by omega)]
theorem sigT_fuel {A:Fa}{T:List Trip}(h:VisI A T):∀(f k:Nat),k≤f→k<T.length→sigT T f k=sigT T k k
 |0,k,hf,hk=>by
   have:k=0:=by omega
   subst this;rfl
 |f+1,0,_,_=>rfl
 |f+1,k+1,hf,hk=>by
  rw[sigT,sigT]
  cases ht:T[k+1]? with
  |none=>rfl
  |some t =>
   have:=(h.fr k t ht).1
   simp only
   rw[sigT_fuel h f t.2.1 (by omega) (by omega),←sigT_fuel h k t.2.1 (by omega) (by omega)]
end Go.Am
namespace Go.Am
open Go
variable [MaxLen]
set_option maxRecDepth 100000
set_option maxHeartbeats 8000000
theorem c37 (p:Bool)(n:Int):calV U 37 [.bool p,.int .i64 n]=some (.int .i64 (br p n 0)):=by
 refine pure_go k37 (by kernel_rfl) rfl ?_
 cases p <;> simp (maxSteps:=2000000) +contextual only[go_sem,↓reduceIte,r37] <;> rfl
def chkTwo (a b:Auto):Int:=firstOf [ckA a,ckA b,br (a.lines != b.lines) 2 0]
theorem c136 (a b:Auto)(ha:a.next.length≤2^40)(hra:∀r∈a.next,r.2.length≤2^40)(hb:b.next.length≤2^40)(hrb:∀r∈b.next,r.2.length≤2^40):calV U 136 [encA a,encA b]=some (.int .i64 (chkTwo a b)):=by
 refine pure_go k136 (by kernel_rfl) (by simp[stills,still_encA]) ?_
 have h1:=c58 a ha hra
 have h2:=c58 b hb hrb
 rw[encA_eq,encA_eq b] at *
 unfold encN encFs at *
 have nn:=noAgg_encS a.nNl (a.next.map encRow)
 have nf:=noAgg_encS a.fNl (a.fires.map encFRow)
 have cn:=cells_encS a.nNl (a.next.map encRow)
 have cf:=cells_encS a.fNl (a.fires.map encFRow)
 have nn':=noAgg_encS b.nNl (b.next.map encRow)
 have nf':=noAgg_encS b.fNl (b.fires.map encFRow)
 have cn':=cells_encS b.nNl (b.next.map encRow)
 have cf':=cells_encS b.fNl (b.fires.map encFRow)
 simp (maxSteps:=2000000) +contextual only[go_sem,↓reduceIte,r136,nn,nf,cn,cf,nn',nf',cn',cf',h1,h2,c116]
 have hst:stills [AV.sl 20 0 3 (some 3) 1]=false:=rfl
 simp (maxSteps:=2000000) +contextual only[go_sem,↓reduceIte,z89 hst,frz_sl,frzS_cells,grab_head,grab_zero,Option.map_some,cz89_3,frzT_one,chunks_all]
 rfl
theorem g25 (l:List Int)(hlen:l.length<2^62):go U (finP U [.tmp 2]) [] r25 (bindArgs 0 [.fz (ints l)] .nil) (ownSt U)=some (.int .i64 (firstOf l)):=by
 have hl:=ints_len l
 have hll:lenRL (.fz (ints l))=some (.int .i64 l.length):=by have:=lenL_encS false (ints l);rw[encS_fz,ints_len] at this;exact this
 simp (maxSteps:=2000000) +contextual only[go_sem,↓reduceIte,r25]
 refine loop_to (σ:=Nat) (fun i=>l.length-i) (fun i=>some (AV.int .i64 (firstOf (l.drop i)))) (fun i e s=>i≤l.length∧Env.get e 0=.fz (ints l)∧Env.get e 3=.int .i64 (i:Nat)) 0 ?_ rfl ⟨Nat.zero_le _,?_,?_⟩
 ·rintro L i e s ⟨hi,g0,g3⟩ IH
  by_cases hd:i<l.length
  ·have hw:=wrap_succ hd (by omega)
   have hx:=ixa_intV (nl:=false) hd
   rw[encS_fz] at hx
   rw[List.drop_eq_getElem_cons hd,firstOf]
   cases hz:l[i] != 0 with
   |true =>
    simp (maxSteps:=2000000) +contextual only[go_sem,↓reduceIte,r25_l0,g0,g3,hll,nat_lt_dec,hd,hx,hz]
   |false =>
    simp (maxSteps:=2000000) +contextual only[go_sem,↓reduceIte,r25_l0,g0,g3,hll,nat_lt_dec,hd,hx,hz,hw]
    refine IH (i+1) _ _ (by omega) ⟨by omega,?_,?_⟩
    all_goals simp +contextual only[go_sem,↓reduceIte,g0,hw]
  ·have:i=l.length:=by omega
   subst this
   simp (maxSteps:=2000000) +contextual only[go_sem,↓reduceIte,r25_l0,g0,g3,hll,nat_lt_dec,Nat.lt_irrefl,List.drop_length,firstOf]
 ·simp +contextual only[go_sem,↓reduceIte]
 ·simp +contextual only[go_sem,↓reduceIte]
  rfl
theorem cz25_3 (a b c:Int)(s:St):calZ U 25 (some [.fz [.int .i64 a,.int .i64 b,.int .i64 c]]) s=some (.int .i64 (firstOf [a,b,c]),s) :=
 cz_of (pure_go k25 (by kernel_rfl) (by simp[stills,still]) (g25 [a,b,c] (by simp))) (by kernel_rfl) (by simp[stills,still]) rfl s
theorem z25 {args:List AV}{s:St}(h:stills args=false):callK U (calV U 25 args) 25 args s=calZ U 25 (mapO (frz U s 40) args) s:=z_of (by kernel_rfl) s h
theorem c49 (a b:Auto):calV U 49 [encA a,encA b]=some (.int .i64 (chkTwo a b)):=by
 refine pure_go k49 (by kernel_rfl) (by simp[stills,still_encA]) ?_
 have h1:=c50 a
 have h2:=c50 b
 rw[encA_eq,encA_eq b] at *
 unfold encN encFs at *
 have nn:=noAgg_encS a.nNl (a.next.map encRow)
 have nf:=noAgg_encS a.fNl (a.fires.map encFRow)
 have cn:=cells_encS a.nNl (a.next.map encRow)
 have cf:=cells_encS a.fNl (a.fires.map encFRow)
 have nn':=noAgg_encS b.nNl (b.next.map encRow)
 have nf':=noAgg_encS b.fNl (b.fires.map encFRow)
 have cn':=cells_encS b.nNl (b.next.map encRow)
 have cf':=cells_encS b.fNl (b.fires.map encFRow)
 have hst:stills [AV.sl 20 0 3 (some 3) 1]=false:=rfl
 simp (maxSteps:=2000000) +contextual only[go_sem,↓reduceIte,r49,nn,nf,cn,cf,nn',nf',cn',cf',h1,h2,c37]
 simp (maxSteps:=2000000) +contextual only[go_sem,↓reduceIte,z25 hst,frz_sl,frzS_cells,grab_head,grab_zero,Option.map_some,cz25_3,frzT_one,chunks_all]
 rfl
def pcell (k c:Nat):List AV:=[.int .i64 ((c / k:Nat):Int),.int .i64 ((c%k:Nat):Int)]
def entP (k:Nat)(f:Nat→AV):List Nat→Nat→List (AV×AV)
 |[],_=>[]
 |c::l,i=>(.agg (pcell k c),f i)::entP k f l (i+1)
theorem keyEqP {k:Nat}(c d:Nat):keyEq (.agg (pcell k c)) (.agg (pcell k d))=some (d==c):=by
 have hiff:(c / k=d / k∧c%k=d%k)↔d=c:=by
  constructor
  ·rintro⟨h1,h2⟩
   have:=Nat.div_add_mod c k
   have h3:=Nat.div_add_mod d k
   rw[h1,h2] at this
   omega
  ·rintro rfl;exact⟨rfl,rfl⟩
 have hs:sames (pcell k c) (pcell k d)=(d==c):=by
  rw[Bool.eq_iff_iff]
  simp only[pcell,sames,same,beq_iff_eq,Bool.and_eq_true]
  rw[←hiff]
  simp
  omega
 simp only[keyEq]
 rw[if_pos (by rfl),hs]
theorem findA_entP (k:Nat)(f:Nat→AV)(c:Nat):∀(ks:List Nat) (i:Nat),findA (.agg (pcell k c)) (entP k f ks i)=some (bif decide (idxN ks c<ks.length) then some (f (i+idxN ks c)) else none)
 |[],i=>rfl
 |x::l,i=>by
  rw[entP,findA,keyEqP,idxN]
  cases h:x==c with
  |true=>simp
  |false =>
   simp only[cond_false,List.length_cons]
   rw[findA_entP k f c l (i+1)]
   have e:decide (idxN l c+1<l.length+1)=decide (idxN l c<l.length):=by congr 1;apply propext;omega
   rw[e,show i+1+idxN l c=i+(idxN l c+1) by omega]
theorem putA_entP (k:Nat)(f:Nat→AV)(c:Nat):∀(ks:List Nat) (i:Nat),c∉ks→putA (.agg (pcell k c)) (f (i+ks.length)) (entP k f ks i)=some (entP k f (ks++[c]) i)
 |[],i,_=>rfl
 |x::l,i,h=>by
  rw[List.mem_cons,not_or] at h
  have hne:(x==c)=false:=by simpa using fun e=>h.1 (Eq.symm e)
  have ih:=putA_entP k f c l (i+1) h.2
  rw[show i+1+l.length=i+(x::l).length by rw[List.length_cons];omega] at ih
  rw[entP,putA,keyEqP,hne,List.cons_append,entP]
  simp only[ih]
theorem keyOkP (k c:Nat):keyOk U 186 (.agg (pcell k c))=true:=by
 have h1:U.und 186=some (.array 2 3):=by kernel_rfl
 have h2:U.und 3=some (.int .i64):=by kernel_rfl
 have h3:size U 3=some 1:=by kernel_rfl
 simp only[keyOk,h1,h2,h3,pcell]
 rfl
theorem lookup260 {s:St}{m k:Nat}{ks:List Nat}(h:s.get m=some (.map (entP k (fun _=>.bool true) ks 0) false))(c:Nat):lookupA U 260 (.map m) (.agg (pcell k c)) false s=some (.bool (decide (idxN ks c<ks.length))):=by
 have hu:U.und 260=some (.map 186 4):=by kernel_rfl
 have hz:zero U 4=some (.bool false):=by kernel_rfl
 unfold lookupA
 rw[hu]
 simp only[keyOkP,if_true,h,findA_entP]
 cases decide (idxN ks c<ks.length) with
 |true=>rfl
 |false=>simp only[cond_false,hz];rfl
theorem update260 {s:St}{m k:Nat}{ks:List Nat}(h:s.get m=some (.map (entP k (fun _=>.bool true) ks 0) false)){c:Nat}(hc:c∉ks):updateA U 260 (.map m) (.agg (pcell k c)) (.bool true) s=some (s.put m (.map (entP k (fun _=>.bool true) (ks++[c]) 0) false)):=by
 have hu:U.und 260=some (.map 186 4):=by kernel_rfl
 have:=putA_entP k (fun _=>.bool true) c ks 0 hc
 unfold updateA
 rw[hu]
 simp only[keyOkP,if_true,h,this]
structure Yld (fn:AV)(k B0:Nat)(G:Type)(CI:G→St→Prop)(fp:G→Nat→Prop)(dom:Nat→Nat→Prop)(y:Nat→Nat→Bool)(nxt:G→Nat→Nat→G→Prop):Prop where
 call:∀g c x s,dom c x→CI g s→Fr s→∃g' s',calv U fn [.agg (pcell k c),.int .i64 (x:Int)] s=some (.bool (y c x),s')∧nxt g c x g'∧CI g' s'∧(∀j,fp g' j→fp g j∨s.next≤j)∧(∀j,j<s.next→¬fp g j→s'.get j=s.get j)∧s.next≤s'.next∧Fr s'
 keep:∀g s s',CI g s→s.next≤s'.next→(∀j,j<s.next→(fp g j∨j<B0)→s'.get j=s.get j)→CI g s'
 lt:∀g s,CI g s→∀j,fp g j→j<s.next
def PrI (s:St)(N:Nat)(t:TypeId)(n:Nat)(cs:List AV)(v:AV):Prop:=∃b cap,v=.sl b 0 n cap 2∧(cap=none∨cap=some n)∧s.get b=some (.cells cs t false 0 0)∧cs.length=n*2∧N≤b∧b<s.next
theorem PrI.keep {s s':St}{N n:Nat}{t:TypeId}{cs:List AV}{v:AV}(h:PrI s N t n cs v)(hn:s.next≤s'.next)(hg:∀j,j<s.next→N≤j→s.get j=some (.cells cs t false 0 0)→s'.get j=s.get j):PrI s' N t n cs v:=by
 obtain⟨b,cap,h1,h2,h3,h4,h5,h6⟩:=h
 exact⟨b,cap,h1,h2,by rw[hg b h6 h5 h3];exact h3,h4,h5,by omega⟩
theorem PrI.app {s:St}{N n:Nat}{t:TypeId}{cs:List AV}{v:AV}(h:PrI s N t n cs v)(hN:N≤s.next)(x y:AV)(hx:noAgg x=true)(hy:noAgg y=true) :
  ∃s1,appD t 2 1 [x,y] v s=some (.sl s.next 0 (n+1) none 2,s1)∧s1.next=s.next+1∧PrI s1 N t (n+1) (cs++[x,y]) (.sl s.next 0 (n+1) none 2)∧(∀j,j<s.next→s.get j≠some (.cells cs t false 0 0)→s1.get j=s.get j)∧(Fr s→Fr s1):=by
 obtain⟨b,cap,rfl,h2,h3,h4,h5,h6⟩:=h
 rcases h2 with rfl|rfl
 ·refine⟨(s.put b .gone).new (.cells (cs++[x,y]) t false 0 0),by rw[appD_sl,h3,appS_cells h4 (by omega) (by simp[hx,hy])],rfl,⟨s.next,none,rfl,.inl rfl,by rw[get_new,next_put,if_pos rfl],by simp[h4];omega,hN,by rw[next_new,next_put];omega⟩,fun j hj hne=>?_,fun hf=>(hf.put h6 _).new _⟩
  have:b≠j:=by rintro rfl;exact hne h3
  rw[get_new,next_put,if_neg (by omega),get_put,if_neg this]
 ·refine⟨s.new (.cells (cs++[x,y]) t false 0 0),by rw[appD_slk h3 h4 (by omega)],rfl,⟨s.next,none,rfl,.inl rfl,by rw[get_new,if_pos rfl],by simp[h4];omega,hN,by rw[next_new];omega⟩,fun j hj hne=>?_,fun hf=>hf.new _⟩
  rw[get_new,if_neg (by omega)]
def pcs (k:Nat)(L:List Nat):List AV:=L.flatMap (pcell k)
def scs (L:List (Int×Int)):List AV:=L.flatMap fun p=>[.int .i64 p.1,.int .i64 p.2]
def stp:List Trip→List (Int×Int)
 |[]=>[]
 |_::l=>(-1,0)::l.map fun t=>((t.2.1:Int),(t.2.2:Int))
def codes (T:List Trip):List Nat:=T.map (·.1)
def isB2 (v:AV)(j:Nat):Prop:=∃n cap,v=.sl j 0 n cap 2
theorem isB2_sl (b n j:Nat)(cap:Option Nat):isB2 (.sl b 0 n cap 2) j↔b=j:=by
 constructor
 ·rintro⟨m,c,h⟩;cases h;rfl
 ·rintro rfl;exact⟨n,cap,rfl⟩
theorem PrI.ltB {s:St}{N n:Nat}{t:TypeId}{cs:List AV}{v:AV}(h:PrI s N t n cs v){j:Nat}(hj:isB2 v j):N≤j∧j<s.next∧s.get j=some (.cells cs t false 0 0):=by
 obtain⟨b,cap,rfl,h2,h3,h4,h5,h6⟩:=h
 rw[isB2_sl] at hj;subst hj;exact⟨h5,h6,h3⟩
theorem PrI.keepB {s s':St}{N n:Nat}{t:TypeId}{cs:List AV}{v:AV}(h:PrI s N t n cs v)(hn:s.next≤s'.next)(hg:∀j,j<s.next→isB2 v j→s'.get j=s.get j):PrI s' N t n cs v:=by
 obtain⟨b,cap,rfl,h2,h3,h4,h5,h6⟩:=h
 exact⟨b,cap,rfl,h2,by rw[hg b h6 ((isB2_sl _ _ _ _).2 rfl)];exact h3,h4,h5,by omega⟩
theorem PrI.appB {s:St}{N n:Nat}{t:TypeId}{cs:List AV}{v:AV}(h:PrI s N t n cs v)(hN:N≤s.next)(x y:AV)(hx:noAgg x=true)(hy:noAgg y=true) :
  ∃s1,appD t 2 1 [x,y] v s=some (.sl s.next 0 (n+1) none 2,s1)∧s1.next=s.next+1∧PrI s1 N t (n+1) (cs++[x,y]) (.sl s.next 0 (n+1) none 2)∧(∀j,j<s.next→¬isB2 v j→s1.get j=s.get j)∧(Fr s→Fr s1):=by
 obtain⟨b,cap,rfl,h2,h3,h4,h5,h6⟩:=h
 rcases h2 with rfl|rfl
 ·refine⟨(s.put b .gone).new (.cells (cs++[x,y]) t false 0 0),by rw[appD_sl,h3,appS_cells h4 (by omega) (by simp[hx,hy])],rfl,⟨s.next,none,rfl,.inl rfl,by rw[get_new,next_put,if_pos rfl],by simp[h4];omega,hN,by rw[next_new,next_put];omega⟩,fun j hj hne=>?_,fun hf=>(hf.put h6 _).new _⟩
  rw[isB2_sl] at hne
  rw[get_new,next_put,if_neg (by omega),get_put,if_neg hne]
 ·refine⟨s.new (.cells (cs++[x,y]) t false 0 0),by rw[appD_slk h3 h4 (by omega)],rfl,⟨s.next,none,rfl,.inl rfl,by rw[get_new,if_pos rfl],by simp[h4];omega,hN,by rw[next_new];omega⟩,fun j hj hne=>?_,fun hf=>hf.new _⟩
  rw[get_new,if_neg (by omega)]
theorem PrI.lenA {s:St}{N n:Nat}{t:TypeId}{cs:List AV}{v:AV}(h:PrI s N t n cs v):Go.Am.lenA v=n:=by
 obtain⟨b,cap,rfl,_⟩:=h;rfl
theorem pcell_nx {a b:Auto}(hb:b.ok)(hlb:a.lines=b.lines){c x:Nat}(hc:c<(prodF a.fa b.fa).n)(hx:x<2^a.lines.toNat):pcell b.fa.n ((prodF a.fa b.fa).nx c x)=[.int .i64 ((a.fa.nx (c / b.fa.n) x:Nat):Int),.int .i64 ((b.fa.nx (c%b.fa.n) x:Nat):Int)]:=by
 have h:=hb.faok.lt (c%b.fa.n) x (Nat.mod_lt _ hb.pos) (by show x<2^b.lines.toNat;rw[←hlb];exact hx)
 show[AV.int .i64 (((a.fa.nx (c / b.fa.n) x*b.fa.n+b.fa.nx (c%b.fa.n) x) / b.fa.n:Nat):Int),AV.int .i64 (((a.fa.nx (c / b.fa.n) x*b.fa.n+b.fa.nx (c%b.fa.n) x)%b.fa.n:Nat):Int)]=_
 rw[pair_div h,pair_mod h]
inductive Stps {G:Type} (nxt:G→Nat→Nat→G→Prop):G→List (Nat×Nat)→G→Prop
 |nil (g:G):Stps nxt g [] g
 |snoc {g g1 g2:G} {l:List (Nat×Nat)} {c x:Nat}:Stps nxt g l g1→nxt g1 c x g2→Stps nxt g (l++[(c,x)]) g2
structure Vis (s:St)(N:Nat)(a b:Auto)(fpg:Nat→Prop)(A0 B0 mp pt:Nat)(T:List Trip)(pv sv:AV):Prop where
 gA:s.get A0=some (.cells [.int .i64 a.lines,encS a.nNl (a.next.map encRow),encS a.fNl (a.fires.map encFRow)] 69 false 0 0)
 gB:s.get B0=some (.cells [.int .i64 b.lines,encS b.nNl (b.next.map encRow),encS b.fNl (b.fires.map encFRow)] 69 false 0 0)
 gm:s.get mp=some (.map (entP b.fa.n (fun _=>.bool true) (codes T) 0) false)
 hp:PrI s N 186 T.length (pcs b.fa.n (codes T)) pv
 hs:PrI s N 262 T.length (scs (stp T)) sv
 lt:A0<s.next∧B0<s.next∧mp<s.next∧pt<s.next∧N≤A0∧N≤B0∧N≤mp∧N≤pt
 fA:¬fpg A0∧¬fpg B0∧¬fpg mp∧¬fpg pt
 fp:∀j,isB2 pv j→¬fpg j∧j≠pt
 fs:∀j,isB2 sv j→¬fpg j
 np:A0≠pt∧B0≠pt∧mp≠pt
theorem Vis.ne {s:St}{N:Nat}{a b:Auto}{fpg:Nat→Prop}{A0 B0 mp pt:Nat}{T:List Trip}{pv sv:AV}(h:Vis s N a b fpg A0 B0 mp pt T pv sv):(∀j,isB2 pv j→j≠A0∧j≠B0∧j≠mp∧¬isB2 sv j)∧(∀j,isB2 sv j→j≠A0∧j≠B0∧j≠mp)∧A0≠mp∧B0≠mp:=by
 refine⟨fun j hj=>?_,fun j hj=>?_,?_,?_⟩
 ·have h1:=(h.hp.ltB hj).2.2
  refine⟨blk_ne h1 h.gA (by decide),blk_ne h1 h.gB (by decide),?_,fun h2=>?_⟩
  ·rintro rfl;rw[h.gm] at h1;cases h1
  ·exact blk_ne h1 (h.hs.ltB h2).2.2 (by decide) rfl
 ·have h1:=(h.hs.ltB hj).2.2
  refine⟨blk_ne h1 h.gA (by decide),blk_ne h1 h.gB (by decide),?_⟩
  rintro rfl;rw[h.gm] at h1;cases h1
 ·rintro rfl;have:=h.gm.symm.trans h.gA;cases this
 ·rintro rfl;have:=h.gm.symm.trans h.gB;cases this
theorem Vis.keep {s s':St}{N:Nat}{a b:Auto}{f f':Nat→Prop}{A0 B0 mp pt:Nat}{T:List Trip}{pv sv:AV}(h:Vis s N a b f A0 B0 mp pt T pv sv)(hn:s.next≤s'.next)(hg:∀j,j<s.next→N≤j→¬f j→s'.get j=s.get j)(hf:∀j,f' j→f j∨s.next≤j):Vis s' N a b f' A0 B0 mp pt T pv sv:=by
 obtain⟨gA,gB,gm,hp,hs,⟨l1,l2,l3,l4,l5,l6,l7,l8⟩,⟨f1,f2,f3,f4⟩,fp,fs,np⟩:=h
 have nf:∀j,j<s.next→¬f j→¬f' j:=fun j h1 h2 h3=>by rcases hf j h3 with h|h;exact h2 h;omega
 exact⟨(hg _ l1 l5 f1).trans gA,(hg _ l2 l6 f2).trans gB,(hg _ l3 l7 f3).trans gm,hp.keepB hn fun j h1 h2=>hg j h1 (hp.ltB h2).1 (fp j h2).1,hs.keepB hn fun j h1 h2=>hg j h1 (hs.ltB h2).1 (fs j h2),⟨by omega,by omega,by omega,by omega,l5,l6,l7,l8⟩,⟨nf _ l1 f1,nf _ l2 f2,nf _ l3 f3,nf _ l4 f4⟩,fun j hj=>⟨nf j (hp.ltB hj).2.1 (fp j hj).1,(fp j hj).2⟩,fun j hj=>nf j (hs.ltB hj).2.1 (fs j hj),np⟩
theorem pcs_app (k:Nat)(L:List Nat)(c:Nat):pcs k (L++[c])=pcs k L++[.int .i64 ((c / k:Nat):Int),.int .i64 ((c%k:Nat):Int)]:=by simp[pcs,pcell]
theorem scs_app (L:List (Int×Int))(p:Int×Int):scs (L++[p])=scs L++[.int .i64 p.1,.int .i64 p.2]:=by simp[scs]
theorem stp_app {T:List Trip}(h:0<T.length)(t:Trip):stp (T++[t])=stp T++[((t.2.1:Int),(t.2.2:Int))]:=by
 cases T with
 |nil=>simp at h
 |cons a l=>simp[stp]
theorem codes_app (T:List Trip)(t:Trip):codes (T++[t])=codes T++[t.1]:=by simp[codes]
theorem codes_len (T:List Trip):(codes T).length=T.length:=by simp[codes]
def rowC (c x:Nat):List (Nat×Nat):=(List.range x).map fun z=>(c,z)
theorem rowC_succ (c x:Nat):rowC c (x+1)=rowC c x++[(c,x)]:=by simp[rowC,List.range_succ]
theorem Vis.put {s s':St}{N:Nat}{a b:Auto}{f:Nat→Prop}{A0 B0 mp pt:Nat}{T:List Trip}{pv sv:AV}(h:Vis s N a b f A0 B0 mp pt T pv sv)(hT:0<T.length){c i x pb sb:Nat}(hn:s.next≤s'.next)
  (hm:s'.get mp=some (.map (entP b.fa.n (fun _=>.bool true) (codes T++[c]) 0) false))
  (hp:PrI s' N 186 (T.length+1) (pcs b.fa.n (codes T)++[.int .i64 ((c / b.fa.n:Nat):Int),.int .i64 ((c%b.fa.n:Nat):Int)]) (.sl pb 0 (T.length+1) none 2))
  (hs:PrI s' N 262 (T.length+1) (scs (stp T)++[.int .i64 (i:Int),.int .i64 (x:Int)]) (.sl sb 0 (T.length+1) none 2))
  (hpb:s.next≤pb)(hsb:s.next≤sb)(hg:∀j,j<s.next→j≠mp→¬isB2 pv j→¬isB2 sv j→s'.get j=s.get j)(hfl:∀j,f j→j<s.next) :
  Vis s' N a b f A0 B0 mp pt (T++[(c,i,x)]) (.sl pb 0 (T.length+1) none 2) (.sl sb 0 (T.length+1) none 2):=by
 obtain⟨n1,n2,n3,n4⟩:=h.ne
 obtain⟨gA,gB,gm,hp0,hs0,⟨l1,l2,l3,l4,l5,l6,l7,l8⟩,fA,fp,fs,np⟩:=h
 refine⟨(hg _ l1 n3 (fun h=>(n1 _ h).1 rfl) fun h=>(n2 _ h).1 rfl).trans gA,(hg _ l2 n4 (fun h=>(n1 _ h).2.1 rfl) fun h=>(n2 _ h).2.1 rfl).trans gB,?_,?_,?_,⟨by omega,by omega,by omega,by omega,l5,l6,l7,l8⟩,fA,fun j hj=>?_,fun j hj=>?_,np⟩
 ·rw[codes_app];exact hm
 ·rw[codes_app,pcs_app,List.length_append,List.length_singleton];exact hp
 ·rw[stp_app hT,scs_app,List.length_append,List.length_singleton];exact hs
 ·rw[isB2_sl] at hj;subst hj
  exact⟨fun h=>by have:=hfl _ h;omega,by omega⟩
 ·rw[isB2_sl] at hj;subst hj
  exact fun h=>by have:=hfl _ h;omega
theorem l114a {β:Type}{fin:Fl→β}{ks:List K}{Post:β→Prop}{a b:Auto}(ha:a.ok)(hb:b.ok)(hlb:a.lines=b.lines){fn:AV}{N:Nat}{G:Type}{CI:G→St→Prop}{fp:G→Nat→Prop}{dom:Nat→Nat→Prop}{y:Nat→Nat→Bool}{nxt:G→Nat→Nat→G→Prop}
  (Y:Yld fn b.fa.n N G CI fp dom y nxt){c i:Nat}(hc:c<(prodF a.fa b.fa).n)(hdom:∀x,x<2^a.lines.toNat→dom c x){T:List Trip}(hT:VisI (prodF a.fa b.fa) T)(hi:i<T.length){A0 B0 mp pt:Nat}{pv sv:AV}{g:G}{vr:List Trip×Option Nat}
  (hvr:visRow ((prodF a.fa b.fa).nx c) (y c) i (2^a.lines.toNat) 0 T=vr)
  {e:Env}{s:St}(g2:Env.get e 2=fn)(g3:Env.get e 3=.ptr A0 0)(g4:Env.get e 4=.ptr B0 0)(g8:Env.get e 8=.map mp)(g9:Env.get e 9=pv)(g10:Env.get e 10=sv)(g13:Env.get e 13=.int .i64 (i:Nat))(g14:Env.get e 14=.ptr pt 0)(g36:Env.get e 36=.int .i64 ((2^a.lines.toNat:Nat):Int))(g37:Env.get e 37=.int .i64 (0:Nat))
  (V:Vis s N a b (fp g) A0 B0 mp pt T pv sv)(gpt:s.get pt=some (.cells (pcell b.fa.n c) 186 false 0 0))(hci:CI g s)(fr:Fr s)(hN:N≤s.next)
  (hk:vr.2=none→∀e' s' pv' sv' g',(∀t:Nat,t<15→t≠9→t≠10→Env.get e' t=Env.get e t)→Env.get e' 9=pv'→Env.get e' 10=sv'→Vis s' N a b (fp g') A0 B0 mp pt vr.1 pv' sv'→Stps nxt g (rowC c (2^a.lines.toNat)) g'→CI g' s'→(∀j,j<N→¬fp g j→s'.get j=s.get j)→s.next≤s'.next→(∀j,fp g' j→fp g j∨N≤j)→Fr s'→Post (goN U fin ks e' s'))
  (hx:∀z,vr.2=some z→∀e' s' pv' sv' w g',(∀t:Nat,t<15→t≠9→t≠10→t≠11→t≠12→Env.get e' t=Env.get e t)→Env.get e' 9=pv'→Env.get e' 10=sv'→Env.get e' 11=.int .i64 (i:Nat)→Env.get e' 12=.sl w 0 1 (some 1) 1→s'.get w=some (.cells (nats [z]) 3 false 0 0)→s.next≤w→w<s'.next→¬fp g' w→Vis s' N a b (fp g') A0 B0 mp pt vr.1 pv' sv'→(∃l,Stps nxt g l g')→CI g' s'→(∀j,j<N→¬fp g j→s'.get j=s.get j)→s.next≤s'.next→(∀j,fp g' j→fp g j∨N≤j)→Fr s'→Post (goX U fin ks 0 e' s')) :
  Post (goL U fin (.bk 2::ks) r114_l0 e s):=by
 have hA:=prodF_ok ha.faok hb.faok (by show 2^a.lines.toNat=2^b.lines.toNat;rw[hlb])
 have hc1:c / b.fa.n<a.next.length:=Nat.div_lt_of_lt_mul (by rw[Nat.mul_comm];exact hc)
 have hc2:c%b.fa.n<b.next.length:=Nat.mod_lt _ hb.pos
 have hm16:=ha.m16
 have hnn:(prodF a.fa b.fa).n≤262144:=Nat.mul_le_mul ha.few hb.few
 refine loop_ex (σ:=Nat) (fun x=>2^a.lines.toNat-x) (fun x e' s'=>x≤2^a.lines.toNat∧(∀t:Nat,t<15∨t=36→t≠9→t≠10→Env.get e' t=Env.get e t)∧Env.get e' 37=.int .i64 (x:Nat) ∧
   (∀j,j<N→¬fp g j→s'.get j=s.get j)∧s.next≤s'.next∧Fr s'∧s'.get pt=some (.cells (pcell b.fa.n c) 186 false 0 0) ∧
   ∃T' pv' sv' g',visRow ((prodF a.fa b.fa).nx c) (y c) i (2^a.lines.toNat-x) x T'=vr∧VisI (prodF a.fa b.fa) T'∧i<T'.length∧Env.get e' 9=pv'∧Env.get e' 10=sv'∧Vis s' N a b (fp g') A0 B0 mp pt T' pv' sv'∧CI g' s'∧Stps nxt g (rowC c x) g'∧(∀j,fp g' j→fp g j∨N≤j)) 0 ?_
  ⟨Nat.zero_le _,fun _ _ _ _=>rfl,g37,fun _ _ _=>rfl,Nat.le_refl _,fr,gpt,T,pv,sv,g,by rw[Nat.sub_zero];exact hvr,hT,hi,g9,g10,V,hci,.nil g,fun j hj=>.inl hj⟩
 rintro Lp x e' s' ⟨hx0,hold,q37,hs,hnx,fr',qpt,T',pv',sv',g1,hrun,hT',hi',q9,q10,V',hci',hst,hfp⟩ IH
 have q2:=(hold 2 (by omega) (by omega) (by omega)).trans g2
 have q3:=(hold 3 (by omega) (by omega) (by omega)).trans g3
 have q4:=(hold 4 (by omega) (by omega) (by omega)).trans g4
 have q8:=(hold 8 (by omega) (by omega) (by omega)).trans g8
 have q13:=(hold 13 (by omega) (by omega) (by omega)).trans g13
 have q14:=(hold 14 (by omega) (by omega) (by omega)).trans g14
 have q36:=(hold 36 (by omega) (by omega) (by omega)).trans g36
 have hTl:=hT'.len
 unfold pcell at qpt
 by_cases hd:x<2^a.lines.toNat
 ·have hw:=wrap_succ hd (by omega)
  obtain⟨g2',s1,hcall,hnxt,hci1,hfp1,hs1,hn1,fr1⟩:=Y.call g1 c x s' (hdom x hd) hci' fr'
  unfold pcell at hcall
  have V1:Vis s1 N a b (fp g2') A0 B0 mp pt T' pv' sv':=V'.keep hn1 (fun j h1 _ h3=>hs1 j h1 h3) hfp1
  have hst1:Stps nxt g (rowC c (x+1)) g2':=by rw[rowC_succ];exact .snoc hst hnxt
  have hfp2:∀j,fp g2' j→fp g j∨N≤j:=fun j hj=>by
   rcases hfp1 j hj with h|h
   ·exact hfp j h
   ·exact .inr (by omega)
  have hs2:∀j,j<N→¬fp g j→s1.get j=s.get j:=fun j h1 h2=>(hs1 j (by omega) fun h=>by rcases hfp j h with h|h;exact h2 h;omega).trans (hs j h1 h2)
  have hpt1:s1.get pt=some (.cells [.int .i64 ((c / b.fa.n:Nat):Int),.int .i64 ((c%b.fa.n:Nat):Int)] 186 false 0 0):=(hs1 pt V'.lt.2.2.2.1 V'.fA.2.2.2).trans qpt
  have hlt1:=Y.lt g2' s1 hci1
  rw[show 2^a.lines.toNat-x=(2^a.lines.toNat-(x+1))+1 by omega,visRow] at hrun
  have hnt:∀t:Nat,t<15∨t=36→t≠9→t≠10→(9=t)=False∧(10=t)=False∧(15=t)=False∧(16=t)=False∧∀k:Nat,37≤k→(k=t)=False:=fun t h1 h2 h3=>⟨by simp;omega,by simp;omega,by simp;omega,by simp;omega,fun k hk=>by simp;omega⟩
  cases hy:y c x with
  |false =>
   rw[hy,cond_false] at hrun
   rw[hy] at hcall
   subst hrun
   simp (maxSteps:=2000000) +contextual only[go_sem,↓reduceIte,r114_l0,q2,q13,q14,q36,q37,qpt,nat_lt_dec,hd,hcall]
   refine hx x rfl _ _ pv' sv' s1.next g2' (fun t h1 h2 h3 h4 h5=>?_) ?_ ?_ ?_ ?_ ?_ (by omega) ?_ (fun h=>by have:=hlt1 _ h;omega) ?_ ⟨_,hst1⟩ ?_ (fun j h1 h2=>?_) ?_ hfp2 ?_
   ·obtain⟨n9,n10,n15,n16,n37⟩:=hnt t (.inl h1) h2 h3
    simp +contextual only[go_sem,↓reduceIte,n15,n37,eq_false h4.symm,eq_false h5.symm]
    exact hold t (.inl h1) h2 h3
   ·simp +contextual only[go_sem,↓reduceIte,q9]
   ·simp +contextual only[go_sem,↓reduceIte,q10]
   ·simp +contextual only[go_sem,↓reduceIte]
   ·simp +contextual only[go_sem,↓reduceIte]
   ·rw[get_new,if_pos rfl];rfl
   ·rw[next_new];omega
   ·exact V1.keep (by rw[next_new];omega) (fun j h1 _ _=>by rw[get_new,if_neg (by omega)]) fun j hj=>.inl hj
   ·exact Y.keep g2' s1 _ hci1 (by rw[next_new];omega) fun j h1 _=>by rw[get_new,if_neg (by omega)]
   ·rw[get_new,if_neg (by omega)];exact hs2 j h1 h2
   ·rw[next_new];omega
   ·exact fr1.new _
  |true =>
   rw[hy,cond_true] at hrun
   rw[hy] at hcall
   have lt3:(prodF a.fa b.fa).nx c x<(prodF a.fa b.fa).n:=hA.lt c x hc hd
   have hpn:=pcell_nx hb hlb hc hd
   have n1:=ha.nxAt hc1 hd
   have n2:=hb.nxAt hc2 (by rw[←hlb];exact hd)
   have r1:=ixa_rowI (nl:=a.nNl) hc1
   have r2:=ixa_rowI (nl:=b.nNl) hc2
   have hgA:=V1.gA
   have hgB:=V1.gB
   have hgm:=V1.gm
   obtain⟨l1,l2,l3,l4,l5,l6,l7,l8⟩:=V1.lt
   have lk:=fun (S:St) (h:S.get mp=some (.map (entP b.fa.n (fun _=>.bool true) (codes T') 0) false))=>lookup260 h ((prodF a.fa b.fa).nx c x)
   have up:=fun (S:St) (h:S.get mp=some (.map (entP b.fa.n (fun _=>.bool true) (codes T') 0) false))=>update260 h (c:=(prodF a.fa b.fa).nx c x)
   rw[hpn] at lk up
   generalize hcn:(prodF a.fa b.fa).nx c x=cn at *
   have hfk:=fr1.at
   have f1:∀q,(s1.next+q=A0)=False:=fun q=>by simp;omega
   have f2:∀q,(s1.next+q=B0)=False:=fun q=>by simp;omega
   have f3:∀q,(s1.next+q=mp)=False:=fun q=>by simp;omega
   have f4:∀q,(s1.next+q=pt)=False:=fun q=>by simp;omega
   have f5:∀q,(mp=s1.next+q)=False:=fun q=>by simp;omega
   by_cases hin:cn∈T'.map (·.1)
   ·have hin2:idxN (codes T') cn<(codes T').length:=(idxN_lt _ _).2 hin
    rw[decide_eq_true hin,cond_true] at hrun
    rw[decide_eq_true hin2] at lk
    simp (maxSteps:=2000000) +contextual only[go_sem,↓reduceIte,r114_l0,q2,q3,q4,q8,q13,q14,q36,q37,qpt,nat_lt_dec,hd,hcall,hgA,hgB,hgm,hpt1,r1,r2,n1,n2,hw,f1,f2,f3,f4,hfk,lk,Nat.add_assoc]
    have k4:∀j,j<s1.next→(((s1.upto (s1.next+21)).put (s1.next+19) (.cells [.int .i64 0,.int .i64 0] 186 false 0 0)).put (s1.next+19) (.cells [.int .i64 ((a.fa.nx (c / b.fa.n) x:Nat):Int),.int .i64 ((b.fa.nx (c%b.fa.n) x:Nat):Int)] 186 false 0 0)).get j=s1.get j:=fun j hj=>by
     rw[get_put,if_neg (by omega),get_put,if_neg (by omega),upto_get]
    refine IH (x+1) _ _ (by omega) ⟨by omega,fun t h1 h2 h3=>?_,?_,fun j h1 h2=>by rw[k4 j (by omega)];exact hs2 j h1 h2,by simp only[next_put,upto_next];omega,?_,by rw[k4 pt l4];exact hpt1,T',pv',sv',g2',?_,hT',hi',?_,?_,V1.keep (by simp only[next_put,upto_next];omega) (fun j h1 _ _=>k4 j h1) (fun j hj=>.inl hj),Y.keep g2' s1 _ hci1 (by simp only[next_put,upto_next];omega) (fun j h1 _=>k4 j h1),hst1,hfp2⟩
    ·obtain⟨n9,n10,n15,n16,n37⟩:=hnt t h1 h2 h3
     simp +contextual only[go_sem,↓reduceIte,n9,n10,n15,n16,n37]
     exact hold t h1 h2 h3
    ·simp +contextual only[go_sem,↓reduceIte]
    ·repeat first|exact fr1|apply Fr.new|apply Fr.put|apply Fr.upto
     all_goals try simp only[next_put,next_new,upto_next]
     all_goals omega
    ·exact hrun
    ·simp +contextual only[go_sem,↓reduceIte,q9]
    ·simp +contextual only[go_sem,↓reduceIte,q10]
   ·have hin2:¬idxN (codes T') cn<(codes T').length:=fun h=>hin ((idxN_lt _ _).1 h)
    rw[decide_eq_false hin,cond_false] at hrun
    rw[decide_eq_false hin2] at lk
    have up:=fun S h=>up S h hin
    have hlP:=V1.hp.lenA
    have hlS:=V1.hs.lenA
    have hb1:(T'.length+1)*16≤1099511627776:=by omega
    have hb2:T'.length+1≤1099511627776:=by omega
    simp (maxSteps:=2000000) +contextual only[go_sem,↓reduceIte,r114_l0,q2,q3,q4,q8,q9,q10,q13,q14,q36,q37,qpt,nat_lt_dec,hd,hcall,hgA,hgB,hgm,hpt1,r1,r2,n1,n2,hw,f1,f2,f3,f4,f5,hfk,lk,up,Nat.add_assoc,Nat.mul_one,Nat.one_mul,appK_some,Nat.reducePow,hlP,hb1,hb2]
    obtain⟨S,hS⟩:∃S,S=((((s1.upto (s1.next+21)).put (s1.next+19) (.cells [.int .i64 0,.int .i64 0] 186 false 0 0)).put (s1.next+19) (.cells [.int .i64 ((a.fa.nx (c / b.fa.n) x:Nat):Int),.int .i64 ((b.fa.nx (c%b.fa.n) x:Nat):Int)] 186 false 0 0)).put mp (.map (entP b.fa.n (fun _=>.bool true) (codes T'++[cn]) 0) false)).new (.cells [.int .i64 ((a.fa.nx (c / b.fa.n) x:Nat):Int),.int .i64 ((b.fa.nx (c%b.fa.n) x:Nat):Int)] 186 false 0 0):=⟨_,rfl⟩
    rw[←hS]
    have hSn:S.next=s1.next+22:=by rw[hS];simp only[next_put,next_new,upto_next]
    have kS:∀j,j<s1.next→j≠mp→S.get j=s1.get j:=fun j h1 h2=>by rw[hS,get_new,next_put,next_put,next_put,upto_next,if_neg (by omega),get_put,if_neg h2.symm,get_put,if_neg (by omega),get_put,if_neg (by omega),upto_get]
    have kSm:S.get mp=some (.map (entP b.fa.n (fun _=>.bool true) (codes T'++[cn]) 0) false):=by rw[hS,get_new,next_put,next_put,next_put,upto_next,if_neg (by omega),get_put,if_pos rfl]
    have frS:Fr S:=by
     rw[hS]
     repeat first|exact fr1|apply Fr.new|apply Fr.put|apply Fr.upto
     all_goals try simp only[next_put,next_new,upto_next]
     all_goals omega
    obtain⟨m1,m2,m3,m4⟩:=V1.ne
    have P1:PrI S N 186 T'.length (pcs b.fa.n (codes T')) pv':=V1.hp.keepB (by omega) fun j h1 h2=>kS j h1 (m1 j h2).2.2.1
    obtain⟨s4,d1,d2,d3,d4,d5⟩:=P1.appB (by omega) (.int .i64 ((a.fa.nx (c / b.fa.n) x:Nat):Int)) (.int .i64 ((b.fa.nx (c%b.fa.n) x:Nat):Int)) rfl rfl
    rw[d1]
    simp (maxSteps:=2000000) +contextual only[go_sem,↓reduceIte,q10,q13,Nat.mul_one,Nat.one_mul,appK_some,Nat.reducePow,hlS,hb1,hb2]
    have kQ:∀j,j<s1.next→j≠mp→¬isB2 pv' j→(s4.new (.cells [.int .i64 (i:Int),.int .i64 (x:Int)] 262 false 0 0)).get j=s1.get j:=fun j h1 h2 h3=>by rw[get_new,if_neg (by omega),d4 j (by omega) h3,kS j h1 h2]
    have P2:PrI (s4.new (.cells [.int .i64 (i:Int),.int .i64 (x:Int)] 262 false 0 0)) N 262 T'.length (scs (stp T')) sv':=V1.hs.keepB (by rw[next_new];omega) fun j h1 h2=>kQ j h1 (m2 j h2).2.2 fun h=>(m1 j h).2.2.2 h2
    obtain⟨s6,b1,b2,b3,b4,b5⟩:=P2.appB (by rw[next_new];omega) (.int .i64 (i:Int)) (.int .i64 (x:Int)) rfl rfl
    rw[b1]
    simp (maxSteps:=2000000) +contextual only[go_sem,↓reduceIte,q37,hw]
    rw[next_new] at b2 b3 b4
    have k6:∀j,j<s1.next→j≠mp→¬isB2 pv' j→¬isB2 sv' j→s6.get j=s1.get j:=fun j h1 h2 h3 h4=>by rw[b4 j (by omega) h4,kQ j h1 h2 h3]
    have hT2:0<T'.length:=by omega
    have nfp:∀j,fp g2' j∨j<N→j<s1.next→j≠mp∧¬isB2 pv' j∧¬isB2 sv' j:=fun j hj hl=>by
     rcases hj with hj|hj
     ·exact⟨fun e=>V1.fA.2.2.1 (e ▸ hj),fun h=>(V1.fp j h).1 hj,fun h=>V1.fs j h hj⟩
     ·exact⟨by omega,fun h=>by have:=(V1.hp.ltB h).1;omega,fun h=>by have:=(V1.hs.ltB h).1;omega⟩
    refine IH (x+1) _ _ (by omega) ⟨by omega,fun t h1 h2 h3=>?_,?_,fun j h1 h2=>?_,by omega,b5 ((d5 frS).new _),?_,T'++[(cn,i,x)],.sl S.next 0 (T'.length+1) none 2,.sl (s4.next+1) 0 (T'.length+1) none 2,g2',hrun,hT'.put lt3 hi' hd hin,by rw[List.length_append];omega,?_,?_,?_,Y.keep g2' s1 _ hci1 (by omega) (fun j h1 h2=>?_),hst1,hfp2⟩
    ·obtain⟨n9,n10,n15,n16,n37⟩:=hnt t h1 h2 h3
     simp +contextual only[go_sem,↓reduceIte,n9,n10,n15,n16,n37]
     exact hold t h1 h2 h3
    ·simp +contextual only[go_sem,↓reduceIte]
    ·obtain⟨a1,a2,a3⟩:=nfp j (.inr h1) (by omega)
     rw[k6 j (by omega) a1 a2 a3];exact hs2 j h1 h2
    ·rw[k6 pt l4 (fun e=>V1.np.2.2 e.symm) (fun h=>(V1.fp pt h).2 rfl) fun h=>blk_ne hpt1 (V1.hs.ltB h).2.2 (by decide) rfl];exact hpt1
    ·simp +contextual only[go_sem,↓reduceIte]
    ·simp +contextual only[go_sem,↓reduceIte]
    ·have hpc:pcell b.fa.n cn=[.int .i64 ((cn / b.fa.n:Nat):Int),.int .i64 ((cn%b.fa.n:Nat):Int)]:=rfl
     rw[hpn] at hpc
     rw[hpc] at d3
     refine V1.put hT2 (by omega) ?_ (d3.keepB (by omega) fun j h1 h2=>?_) b3 (by omega) (by omega) k6 hlt1
     ·rw[b4 mp (by omega) (fun h=>(m2 mp h).2.2 rfl),get_new,if_neg (by omega),d4 mp (by omega) fun h=>(m1 mp h).2.2.1 rfl];exact kSm
     ·rw[isB2_sl] at h2
      subst h2
      rw[b4 _ (by omega) fun h=>by have:=(V1.hs.ltB h).2.1;omega,get_new,if_neg (by omega)]
    ·obtain⟨a1,a2,a3⟩:=nfp j h2 h1
     exact k6 j h1 a1 a2 a3
 ·have hxe:x=2^a.lines.toNat:=by omega
  subst hxe
  rw[Nat.sub_self,visRow] at hrun
  subst hrun
  simp (maxSteps:=2000000) +contextual only[go_sem,↓reduceIte,r114_l0,q36,q37,nat_lt_dec,Nat.lt_irrefl]
  refine hk rfl _ _ pv' sv' g1 (fun t h1 h2 h3=>?_) ?_ ?_ V' hst hci' hs hnx hfp fr'
  ·have hne:∀k:Nat,37≤k→(k=t)=False:=fun k hk=>by simp;omega
   simp +contextual only[go_sem,↓reduceIte,hne]
   exact hold t (.inl h1) h2 h3
  ·simp +contextual only[go_sem,↓reduceIte,q9]
  ·simp +contextual only[go_sem,↓reduceIte,q10]
theorem Vis.pt {s s':St}{N:Nat}{a b:Auto}{f:Nat→Prop}{A0 B0 mp pt:Nat}{T:List Trip}{pv sv:AV}(h:Vis s N a b f A0 B0 mp pt T pv sv)(hn:s.next<s'.next)(hg:∀j,j<s.next→s'.get j=s.get j)(hfl:∀j,f j→j<s.next):Vis s' N a b f A0 B0 mp s.next T pv sv:=by
 obtain⟨gA,gB,gm,hp,hs,⟨l1,l2,l3,l4,l5,l6,l7,l8⟩,⟨f1,f2,f3,f4⟩,fp,fs,np⟩:=h
 exact⟨(hg _ l1).trans gA,(hg _ l2).trans gB,(hg _ l3).trans gm,hp.keepB (by omega) fun j h1 _=>hg j h1,hs.keepB (by omega) fun j h1 _=>hg j h1,⟨by omega,by omega,by omega,hn,l5,l6,l7,by omega⟩,⟨f1,f2,f3,fun h=>by have:=hfl _ h;omega⟩,fun j hj=>⟨(fp j hj).1,by have:=(hp.ltB hj).2.1;omega⟩,fs,⟨by omega,by omega,by omega⟩⟩
theorem Stps.trans {G:Type}{nxt:G→Nat→Nat→G→Prop}{g g1 g2:G}{l l':List (Nat×Nat)}(h:Stps nxt g l g1)(h':Stps nxt g1 l' g2):Stps nxt g (l++l') g2:=by
 induction h' with
 |nil=>rw[List.append_nil];exact h
 |snoc h1 h2 ih=>rw[←List.append_assoc];exact .snoc ih h2
theorem pcs_len (k:Nat):∀L:List Nat,(pcs k L).length=L.length*2
 |[]=>rfl
 |c::l=>by
  have:=pcs_len k l
  rw[pcs,List.flatMap_cons,List.length_append,List.length_cons]
  unfold pcs at this
  rw[this]
  show 2+_=_
  omega
theorem pcs_grab (k:Nat):∀(L:List Nat) (i:Nat) (h:i<L.length),grab 2 (i*2) (pcs k L)=some (pcell k L[i])
 |c::l,0,_=>by
  rw[pcs,List.flatMap_cons,Nat.zero_mul]
  simp[pcell,grab_head,grab_zero]
 |c::l,i+1,h=>by
  have:=pcs_grab k l i (by rw[List.length_cons] at h;omega)
  rw[pcs,List.flatMap_cons,show (i+1)*2=i*2+2 by omega]
  exact this
theorem l114b {β:Type}{fin:Fl→β}{ks:List K}{Post:β→Prop}{a b:Auto}(ha:a.ok)(hb:b.ok)(hlb:a.lines=b.lines){fn:AV}{N:Nat}{G:Type}{CI:G→St→Prop}{fp:G→Nat→Prop}{dom:Nat→Nat→Prop}{y:Nat→Nat→Bool}{nxt:G→Nat→Nat→G→Prop}
  (Y:Yld fn b.fa.n N G CI fp dom y nxt)(hdom:∀c x,c<(prodF a.fa b.fa).n→x<2^a.lines.toNat→dom c x){A0 B0 mp pt:Nat}{pv sv:AV}{g:G}
  {e:Env}{s:St}(g2:Env.get e 2=fn)(g3:Env.get e 3=.ptr A0 0)(g4:Env.get e 4=.ptr B0 0)(g8:Env.get e 8=.map mp)(g9:Env.get e 9=pv)(g10:Env.get e 10=sv)(g13:Env.get e 13=.int .i64 (0:Nat))
  (V:Vis s N a b (fp g) A0 B0 mp pt [(0,0,0)] pv sv)(hci:CI g s)(fr:Fr s)(hN:N≤s.next)
  (hk:(visAll (prodF a.fa b.fa) y).2=none→∀e' s' pv' sv' pt' g',Env.get e' 11=Env.get e 11→Env.get e' 12=Env.get e 12→Env.get e' 9=pv'→Env.get e' 10=sv'→Vis s' N a b (fp g') A0 B0 mp pt' (visAll (prodF a.fa b.fa) y).1 pv' sv'→Stps nxt g ((codes (visAll (prodF a.fa b.fa) y).1).flatMap fun c=>rowC c (2^a.lines.toNat)) g'→CI g' s'→(∀j,j<N→¬fp g j→s'.get j=s.get j)→s.next≤s'.next→(∀j,fp g' j→fp g j∨N≤j)→Fr s'→Post (goN U fin ks e' s'))
  (hx:∀k z,(visAll (prodF a.fa b.fa) y).2=some (k,z)→∀e' s' pv' sv' pt' w g',Env.get e' 9=pv'→Env.get e' 10=sv'→Env.get e' 11=.int .i64 (k:Nat)→Env.get e' 12=.sl w 0 1 (some 1) 1→s'.get w=some (.cells (nats [z]) 3 false 0 0)→N≤w→w<s'.next→¬fp g' w→Vis s' N a b (fp g') A0 B0 mp pt' (visAll (prodF a.fa b.fa) y).1 pv' sv'→CI g' s'→(∀j,j<N→¬fp g j→s'.get j=s.get j)→s.next≤s'.next→(∀j,fp g' j→fp g j∨N≤j)→Fr s'→Post (goN U fin ks e' s')) :
  Post (goL U fin (.bk 0::ks) r114_l1 e s):=by
 have hA:=prodF_ok ha.faok hb.faok (by show 2^a.lines.toNat=2^b.lines.toNat;rw[hlb])
 have hnn:(prodF a.fa b.fa).n≤262144:=Nat.mul_le_mul ha.few hb.few
 have hsh:=bin_shl1 U 3 true .i64 (n:=a.lines) (by have:=ha.lines;omega)
 have hpw:((2:Int)^a.lines.toNat)=((2^a.lines.toNat:Nat):Int):=by simp
 rw[hpw] at hsh
 refine loop_ex (σ:=Nat) (fun i=>(prodF a.fa b.fa).n-i) (fun i e' s'=>Env.get e' 2=fn∧Env.get e' 3=.ptr A0 0∧Env.get e' 4=.ptr B0 0∧Env.get e' 8=.map mp∧Env.get e' 11=Env.get e 11∧Env.get e' 12=Env.get e 12∧Env.get e' 13=.int .i64 (i:Nat) ∧
   (∀j,j<N→¬fp g j→s'.get j=s.get j)∧s.next≤s'.next∧Fr s' ∧
   ∃T' pv' sv' pt' g',visT (prodF a.fa b.fa) y ((prodF a.fa b.fa).n+1-i) i T'=visAll (prodF a.fa b.fa) y∧VisI (prodF a.fa b.fa) T'∧i≤T'.length∧Env.get e' 9=pv'∧Env.get e' 10=sv'∧Vis s' N a b (fp g') A0 B0 mp pt' T' pv' sv'∧CI g' s'∧Stps nxt g (((codes T').take i).flatMap fun c=>rowC c (2^a.lines.toNat)) g'∧(∀j,fp g' j→fp g j∨N≤j)) 0 ?_
  ⟨g2,g3,g4,g8,rfl,rfl,g13,fun _ _ _=>rfl,Nat.le_refl _,fr,[(0,0,0)],pv,sv,pt,g,rfl,visI0 hA,Nat.zero_le _,g9,g10,V,hci,.nil g,fun j hj=>.inl hj⟩
 rintro Lp i e' s' ⟨q2,q3,q4,q8,q11,q12,q13,hs,hnx,fr',T',pv',sv',pt',g1,hrun,hT',hi,q9,q10,V',hci',hst,hfp⟩ IH
 have hTl:=hT'.len
 have hlen:=V'.hp.lenA
 obtain⟨bp,cap,hpv,hp2,hp3,hp4,hp5,hp6⟩:=V'.hp
 rw[show (prodF a.fa b.fa).n+1-i=((prodF a.fa b.fa).n-i)+1 by omega,visT] at hrun
 by_cases hd:i<T'.length
 ·have hwr:=wrap_succ hd (by omega)
  rw[List.getElem?_eq_getElem hd] at hrun
  simp only at hrun
  have hc:T'[i].1<(prodF a.fa b.fa).n:=hT'.lt _ (List.getElem_mem hd)
  have hcx:(codes T')[i]'(by rw[codes_len];exact hd)=T'[i].1:=by simp[codes]
  have gr:=pcs_grab b.fa.n (codes T') i (by rw[codes_len];exact hd)
  rw[hcx] at gr
  have hg9:=q9.trans hpv
  have hlt1:=Y.lt g1 s' hci'
  have hgA:=V'.gA
  obtain⟨l1,l2,l3,l4,l5,l6,l7,l8⟩:=V'.lt
  have f1:(s'.next=A0)=False:=by simp;omega
  generalize hcd:T'[i].1=c at *
  unfold pcell at gr
  simp (maxSteps:=2000000) +contextual only[go_sem,↓reduceIte,r114_l1,q3,q13,hg9,nat_lt_dec,hd,hp3,gr,hgA,hsh,f1]
  obtain⟨S,hS⟩:∃S,S=(s'.new (.cells [.int .i64 0,.int .i64 0] 186 false 0 0)).put s'.next (.cells [.int .i64 ((c / b.fa.n:Nat):Int),.int .i64 ((c%b.fa.n:Nat):Int)] 186 false 0 0):=⟨_,rfl⟩
  rw[←hS]
  have hSn:S.next=s'.next+1:=by rw[hS,next_put,next_new]
  have kS:∀j,j<s'.next→S.get j=s'.get j:=fun j h1=>by rw[hS,get_put,if_neg (by omega),get_new,if_neg (by omega)]
  have hpt:S.get s'.next=some (.cells (pcell b.fa.n c) 186 false 0 0):=by rw[hS,get_put,if_pos rfl];rfl
  have frS:Fr S:=by rw[hS];exact (fr'.new _).put (by rw[next_new];omega) _
  have VS:Vis S N a b (fp g1) A0 B0 mp s'.next T' pv' sv':=V'.pt (by omega) kS hlt1
  have hciS:CI g1 S:=Y.keep g1 s' S hci' (by omega) fun j h1 _=>kS j h1
  have hVR:=visRow_spec hA hc (y c) (prodF a.fa b.fa).m 0 (T:=T') (i:=i) (by omega) hT' hd
  refine l114a (Post:=Post) ha hb hlb Y hc (fun x hx=>hdom c x hc hx) hT' hd (vr:=visRow ((prodF a.fa b.fa).nx c) (y c) i (2^a.lines.toNat) 0 T') rfl ?_ ?_ ?_ ?_ ?_ ?_ ?_ ?_ ?_ ?_ VS hpt hciS frS (by omega) ?_ ?_
  case refine_11 =>
   intro hnone e2 s2 pv2 sv2 g2' hold p9 p10 V2 hst2 hci2 hs2 hn2 hfp2 fr2
   have hm:(prodF a.fa b.fa).m=2^a.lines.toNat:=rfl
   rw[hm] at hrun hVR
   generalize visRow ((prodF a.fa b.fa).nx c) (y c) i (2^a.lines.toNat) 0 T'=v at *
   obtain⟨T2,o2⟩:=v
   simp only at hnone hrun V2 hVR
   subst hnone
   obtain⟨⟨i1,R,hR⟩,_,_⟩:=hVR
   have E2:∀t:Nat,t<14→t≠9→t≠10→Env.get e2 t=Env.get e' t:=fun t h1 h2 h3=>by
    rw[hold t (by omega) h2 h3]
    have hne:∀k:Nat,14≤k→(k=t)=False:=fun k hk=>by simp;omega
    simp +contextual only[go_sem,↓reduceIte,hne]
   have p2:=(E2 2 (by omega) (by omega) (by omega)).trans q2
   have p3:=(E2 3 (by omega) (by omega) (by omega)).trans q3
   have p4:=(E2 4 (by omega) (by omega) (by omega)).trans q4
   have p8:=(E2 8 (by omega) (by omega) (by omega)).trans q8
   have p11:=(E2 11 (by omega) (by omega) (by omega)).trans q11
   have p12:=(E2 12 (by omega) (by omega) (by omega)).trans q12
   have p13:=(E2 13 (by omega) (by omega) (by omega)).trans q13
   have hlT:i+1≤T2.length:=by rw[hR,List.length_append];omega
   have htk:(codes T2).take (i+1)=(codes T').take i++[c]:=by
    rw[hR]
    have e1:codes (T'++R)=codes T'++codes R:=by simp[codes]
    have hlc:=codes_len T'
    rw[e1,List.take_append_of_le_length (by omega),List.take_succ_eq_append_getElem (by omega),hcx]
   simp (maxSteps:=2000000) +contextual only[go_sem,↓reduceIte,p13,hwr]
   have hle2:=i1.len
   refine IH (i+1) _ _ (by omega) ⟨?_,?_,?_,?_,?_,?_,?_,fun j h1 h2=>?_,by omega,fr2,T2,pv2,sv2,s'.next,g2',?_,i1,hlT,?_,?_,V2,hci2,?_,fun j hj=>?_⟩
   case refine_8 =>
    rw[hs2 j h1 fun h=>by rcases hfp j h with h|h;exact h2 h;omega,kS j (by omega),hs j h1 h2]
   case refine_9=>rw[show (prodF a.fa b.fa).n+1-(i+1)=(prodF a.fa b.fa).n-i by omega];exact hrun
   case refine_12 =>
    rw[htk,List.flatMap_append,List.flatMap_singleton]
    exact hst.trans hst2
   case refine_13 =>
    rcases hfp2 j hj with h|h
    ·exact hfp j h
    ·exact .inr h
   all_goals simp +contextual only[go_sem,↓reduceIte,p2,p3,p4,p8,p9,p10,p11,p12]
  case refine_12 =>
   intro z hz e2 s2 pv2 sv2 w g2' hold p9 p10 p11 p12 hw hw1 hw2 hw3 V2 hst2 hci2 hs2 hn2 hfp2 fr2
   have hm:(prodF a.fa b.fa).m=2^a.lines.toNat:=rfl
   rw[hm] at hrun
   generalize visRow ((prodF a.fa b.fa).nx c) (y c) i (2^a.lines.toNat) 0 T'=v at *
   obtain⟨T2,o2⟩:=v
   simp only at hz hrun V2
   subst hz
   simp only at hrun
   rw[←hrun] at hx
   simp (maxSteps:=2000000) +contextual only[go_sem,↓reduceIte]
   refine hx i z rfl _ _ pv2 sv2 s'.next w g2' p9 p10 p11 p12 hw (by omega) hw2 hw3 V2 hci2 (fun j h1 h2=>?_) (by omega) (fun j hj=>?_) fr2
   ·rw[hs2 j h1 fun h=>by rcases hfp j h with h|h;exact h2 h;omega,kS j (by omega),hs j h1 h2]
   ·rcases hfp2 j hj with h|h
    ·exact hfp j h
    ·exact .inr h
  all_goals simp +contextual only[go_sem,↓reduceIte,q2,q3,q4,q8,q9,q10,q13]
  all_goals rfl
 ·have hie:i=T'.length:=by omega
  rw[List.getElem?_eq_none (by omega)] at hrun
  simp only at hrun
  have hle:decide ((i:Int)<(T'.length:Int))=false:=by rw[nat_lt_dec];simp;omega
  have hg9:=q9.trans hpv
  simp (maxSteps:=2000000) +contextual only[go_sem,↓reduceIte,r114_l1,q13,hg9,hle]
  rw[←hrun] at hk
  rw[List.take_of_length_le (by rw[codes_len];omega)] at hst
  refine hk rfl _ _ pv' sv' pt' g1 ?_ ?_ ?_ ?_ V' hst hci' hs hnx hfp fr'
  ·simp +contextual only[go_sem,↓reduceIte,q11]
  ·simp +contextual only[go_sem,↓reduceIte,q12]
  ·simp +contextual only[go_sem,↓reduceIte,q9]
  ·simp +contextual only[go_sem,↓reduceIte,q10]
theorem pcs_set (k:Nat):∀(L:List Nat) (i c:Nat),i<L.length→lay (i*2) (pcell k c) (pcs k L)=some (pcs k (L.set i c))
 |a::L,0,c,_=>by
  have e:pcs k (a::L)=.int .i64 ((a / k:Nat):Int)::.int .i64 ((a%k:Nat):Int)::pcs k L:=rfl
  rw[e,Nat.zero_mul,pcell,lay_zero,lay_zero,lay_nil]
  rfl
 |a::L,i+1,c,h=>by
  have:=pcs_set k L i c (by rw[List.length_cons] at h;omega)
  have e:pcs k (a::L)=.int .i64 ((a / k:Nat):Int)::.int .i64 ((a%k:Nat):Int)::pcs k L:=rfl
  rw[e,show (i+1)*2=i*2+1+1 by omega,pcell,lay_succ,lay_succ,←pcell,this]
  rfl
theorem wrap_pred {j:Nat}(h:j<2^62):IntKind.i64.wrap (((j+1:Nat):Int)-1)=(j:Int):=by
 rw[wrap_i64] <;> omega
theorem mid_get {P M S:List Nat}{i:Nat}(h:i<M.length):∃h':P.length+i<(P++M++S).length,(P++M++S)[P.length+i]=M[i]:=by
 refine⟨by simp;omega,?_⟩
 rw[List.getElem_append_left (by simp;omega),List.getElem_append_right (by omega)]
 simp
theorem mid_set {P M S:List Nat}{i c:Nat}(h:i<M.length):(P++M++S).set (P.length+i) c=P++M.set i c++S:=by
 rw[List.set_append_left _ _ (by simp;omega),List.set_append_right _ _ (by omega)]
 simp
theorem grabM (k:Nat){P M S:List Nat}{i:Nat}(h:i<M.length):grab 2 ((P.length+i)*2) (pcs k (P++M++S))=some [.int .i64 ((M[i] / k:Nat):Int),.int .i64 ((M[i]%k:Nat):Int)]:=by
 obtain⟨h',e⟩:=mid_get (P:=P) (S:=S) h
 have:=pcs_grab k (P++M++S) (P.length+i) h'
 rw[e] at this
 exact this
theorem layM (k:Nat){P M S:List Nat}{i:Nat}(c:Nat)(h:i<M.length):lay ((P.length+i)*2) [.int .i64 ((c / k:Nat):Int),.int .i64 ((c%k:Nat):Int)] (pcs k (P++M++S))=some (pcs k (P++M.set i c++S)):=by
 obtain⟨h',_⟩:=mid_get (P:=P) (S:=S) h
 rw[←mid_set h]
 exact pcs_set k (P++M++S) (P.length+i) c h'
def SrtR (k b:Nat)(s:St)(L:List Nat)(s':St):Prop:=s'.get b=some (.cells (pcs k L) 116 false 0 0)∧(∀j,j<s.next→j≠b→s'.get j=s.get j)∧s.next≤s'.next∧Fr s'
theorem SrtR.trans {k b:Nat}{s s1 s2:St}{L L':List Nat}(h:SrtR k b s L s1)(h':SrtR k b s1 L' s2):SrtR k b s L' s2 :=
 ⟨h'.1,fun j h1 h2=>(h'.2.1 j (by have:=h.2.2.1;omega) h2).trans (h.2.1 j h1 h2),by have:=h.2.2.1;have:=h'.2.2.1;omega,h'.2.2.2⟩
theorem l222a {β:Type}{fin:Fl→β}{ks:List K}{Post:β→Prop}{k n b i:Nat}{cap:Option Nat}{P M S:List Nat}(hk0:0<k)(hL:P.length+M.length+S.length=n)(hi:i<M.length)(hn:n≤2^20)
  {e:Env}{s:St}(g0:Env.get e 0=.sl b 0 n cap 2)(g1:Env.get e 1=.int .i64 (P.length:Nat))(g3:Env.get e 3=.fn (.func 142) [] [])(g9:Env.get e 9=.int .i64 (P.length+i:Nat))(gb:s.get b=some (.cells (pcs k (P++M++S)) 116 false 0 0))(hb:b<s.next)(fr:Fr s)
  (hk:∀e' s',(∀t:Nat,t<9→Env.get e' t=Env.get e t)→SrtR k b s (P++bub i M++S) s'→Post (goN U fin ks e' s')) :
  Post (goL U fin (.bk 2::ks) r222_l0 e s):=by
 refine loop_ex (σ:=Nat) (fun j=>j) (fun j e' s'=>j<M.length∧(∀t:Nat,t<9→Env.get e' t=Env.get e t)∧Env.get e' 9=.int .i64 (P.length+j:Nat) ∧
   ∃L',L'.length=M.length∧SrtR k b s (P++L'++S) s'∧bub j L'=bub i M) i ?_
  ⟨hi,fun _ _=>rfl,g9,M,rfl,⟨gb,fun _ _ _=>rfl,Nat.le_refl _,fr⟩,rfl⟩
 rintro Lp j e' s' ⟨hj,hold,q9,L',hL',⟨qb,hs,hnx,fr'⟩,hrun⟩ IH
 have q0:=(hold 0 (by omega)).trans g0
 have q1:=(hold 1 (by omega)).trans g1
 have q3:=(hold 3 (by omega)).trans g3
 have hne:∀t:Nat,t<9→∀k:Nat,9≤k→(k=t)=False:=fun t h1 k hk=>by simp;omega
 cases j with
 |zero =>
  rw[bub] at hrun
  subst hrun
  rw[Nat.add_zero] at q9
  have d0:decide (((P.length:Nat):Int)>((P.length:Nat):Int))=false:=decide_eq_false (by omega)
  simp (maxSteps:=2000000) +contextual only[go_sem,↓reduceIte,r222_l0,q0,q1,q3,q9,d0]
  refine hk _ _ (fun t h1=>?_) ⟨?_,fun i h1 h2=>?_,?_,?_⟩
  ·simp +contextual only[go_sem,↓reduceIte,hne t h1]
   exact hold t h1
  ·rw[upto_get];exact qb
  ·rw[upto_get];exact hs i h1 h2
  ·rw[upto_next];omega
  ·exact fr'.upto (by omega)
 |succ j =>
  have d0:decide (((P.length+(j+1):Nat):Int)>((P.length:Nat):Int))=true:=decide_eq_true (by omega)
  have w1:IntKind.i64.wrap (((P.length+(j+1):Nat):Int)-1)=((P.length+j:Nat):Int):=wrap_pred (j:=P.length+j) (by omega)
  have r1:=grabM k (P:=P) (M:=L') (S:=S) (i:=j+1) (by omega)
  have r2:=grabM k (P:=P) (M:=L') (S:=S) (i:=j) (by omega)
  have c1:=c142 ((L'[j+1] / k:Nat):Int) ((L'[j+1]%k:Nat):Int) ((L'[j] / k:Nat):Int) ((L'[j]%k:Nat):Int)
  have o1:=(ord_code (k:=k) (c:=L'[j+1]) (d:=L'[j]) hk0).1
  have hj1:P.length+(j+1)<n:=by omega
  have hj0:P.length+j<n:=by omega
  have b1:gt L' (j+1)=L'[j+1]:=gt_get (by omega)
  have b2:gt L' j=L'[j]:=gt_get (by omega)
  rw[bub,b1,b2] at hrun
  have y1:=layM k (P:=P) (M:=L') (S:=S) (i:=j+1) L'[j] (by omega)
  have y2:=layM k (P:=P) (M:=L'.set (j+1) L'[j]) (S:=S) (i:=j) L'[j+1] (by simp;omega)
  cases hd:decide (L'[j+1]<L'[j]) with
  |true =>
   rw[hd] at o1 hrun
   rw[cond_true] at hrun
   simp (maxSteps:=2000000) +contextual only[go_sem,↓reduceIte,r222_l0,q0,q1,q3,q9,d0,qb,w1,r1,r2,c1,o1,hj1,hj0,Nat.zero_add,y1,y2]
   refine IH j _ _ (by omega) ⟨by omega,fun t h1=>?_,?_,(L'.set (j+1) L'[j]).set j L'[j+1],by simp[hL'],⟨?_,fun i h1 h2=>?_,?_,?_⟩,hrun⟩
   ·simp +contextual only[go_sem,↓reduceIte,hne t h1]
    exact hold t h1
   ·simp +contextual only[go_sem,↓reduceIte]
   ·rw[get_put,if_pos rfl]
   ·rw[get_put,if_neg h2.symm,get_put,if_neg h2.symm,upto_get,upto_get];exact hs i h1 h2
   ·simp only[next_put,upto_next];omega
   ·repeat first|exact fr'|apply Fr.new|apply Fr.put|apply Fr.upto
    all_goals try simp only[next_put,next_new,upto_next]
    all_goals omega
  |false =>
   rw[hd] at o1 hrun
   rw[cond_false] at hrun
   simp (maxSteps:=2000000) +contextual only[go_sem,↓reduceIte,r222_l0,q0,q1,q3,q9,d0,qb,w1,r1,r2,c1,o1,hj1,hj0,Nat.zero_add]
   subst hrun
   refine hk _ _ (fun t h1=>?_) ⟨?_,fun i h1 h2=>?_,?_,?_⟩
   ·simp +contextual only[go_sem,↓reduceIte,hne t h1]
    exact hold t h1
   ·rw[upto_get];exact qb
   ·rw[upto_get];exact hs i h1 h2
   ·rw[upto_next];omega
   ·exact fr'.upto (by omega)
theorem c222 {k n b:Nat}{cap:Option Nat}{P M S:List Nat}(hk0:0<k)(hL:P.length+M.length+S.length=n)(hn:n≤2^20){s:St}(gb:s.get b=some (.cells (pcs k (P++M++S)) 116 false 0 0))(hb:b<s.next)(fr:Fr s) :
  ∃v s',cal U 222 [.sl b 0 n cap 2,.int .i64 (P.length:Nat),.int .i64 (P.length+M.length:Nat),.fn (.func 142) [] []] s=some (v,s')∧SrtR k b s (P++sortL M++S) s':=by
 suffices hgo:∃x,go U (finB U []) [] r222 (bindArgs 0 [.sl b 0 n cap 2,.int .i64 (P.length:Nat),.int .i64 (P.length+M.length:Nat),.fn (.func 142) [] []] .nil) s=some x∧SrtR k b s (P++sortL M++S) x.2 by
  obtain⟨x,h1,h2⟩:=hgo
  exact⟨x.1,x.2,kept_go k222 (by kernel_rfl) h1,h2⟩
 have w0:IntKind.i64.wrap (((P.length:Nat):Int)+1)=((P.length+1:Nat):Int):=by rw[wrap_i64] <;> omega
 simp (maxSteps:=2000000) +contextual only[go_sem,↓reduceIte,r222,w0]
 by_cases hM:M.length≤1
 ·have e:sortL M=M:=by
   unfold sortL
   rw[show M.length-1=0 by omega];rfl
  rw[e,goL_eq]
  have hd:¬P.length+1<P.length+M.length:=by omega
  simp (maxSteps:=2000000) +contextual only[go_sem,↓reduceIte,r222_l1,nat_lt_dec,hd]
  exact⟨_,rfl,gb,fun _ _ _=>rfl,Nat.le_refl _,fr⟩
 refine loop_ex (Post:=fun (o:Option (AV×St))=>∃x,o=some x∧SrtR k b s (P++sortL M++S) x.2) (σ:=Nat) (fun i=>M.length-i) (fun i e' s'=>1≤i∧i≤M.length∧Env.get e' 0=.sl b 0 n cap 2∧Env.get e' 1=.int .i64 (P.length:Nat)∧Env.get e' 2=.int .i64 (P.length+M.length:Nat)∧Env.get e' 3=.fn (.func 142) [] []∧Env.get e' 8=.int .i64 (P.length+i:Nat) ∧
   ∃L',L'.length=M.length∧SrtR k b s (P++L'++S) s'∧isort (M.length-i) i L'=sortL M) 1 ?_
  ⟨Nat.le_refl _,by omega,?_,?_,?_,?_,?_,M,rfl,⟨gb,fun _ _ _=>rfl,Nat.le_refl _,fr⟩,rfl⟩
 ·rintro Lp i e' s' ⟨hi1,hi,q0,q1,q2,q3,q8,L',hL',hR,hrun⟩ IH
  obtain⟨qb,hs,hnx,fr'⟩:=id hR
  by_cases hd:i<M.length
  ·have hd':P.length+i<P.length+M.length:=by omega
   have hw:IntKind.i64.wrap (((P.length+i:Nat):Int)+1)=((P.length+(i+1):Nat):Int):=by rw[wrap_i64] <;> omega
   rw[show M.length-i=(M.length-(i+1))+1 by omega,isort] at hrun
   simp (maxSteps:=2000000) +contextual only[go_sem,↓reduceIte,r222_l1,q2,q8,nat_lt_dec,hd']
   refine l222a (Post:=fun (o:Option (AV×St))=>∃x,o=some x∧SrtR k b s (P++sortL M++S) x.2) hk0 (P:=P) (M:=L') (S:=S) (n:=n) (i:=i) (by omega) (by omega) hn (b:=b) (cap:=cap) ?_ ?_ ?_ ?_ qb (by omega) fr' fun e2 s2 h2a hR2=>?_
   case refine_5 =>
    have E2:∀t:Nat,t<9→Env.get e2 t=Env.get e' t:=fun t ht=>by
     rw[h2a t ht]
     have hne:∀k:Nat,9≤k→(k=t)=False:=fun k hk=>by simp;omega
     simp +contextual only[go_sem,↓reduceIte,hne]
    have p0:=(E2 0 (by omega)).trans q0
    have p1:=(E2 1 (by omega)).trans q1
    have p2:=(E2 2 (by omega)).trans q2
    have p3:=(E2 3 (by omega)).trans q3
    have p8:=(E2 8 (by omega)).trans q8
    simp (maxSteps:=2000000) +contextual only[go_sem,↓reduceIte,p8,hw]
    refine IH (i+1) _ _ (by omega) ⟨by omega,by omega,?_,?_,?_,?_,?_,bub i L',by rw[bub_len];exact hL',hR.trans hR2,hrun⟩
    all_goals simp +contextual only[go_sem,↓reduceIte,p0,p1,p2,p3]
   all_goals simp +contextual only[go_sem,↓reduceIte,q0,q1,q3,q8]
  ·have hie:i=M.length:=by omega
   subst hie
   rw[Nat.sub_self,isort] at hrun
   subst hrun
   simp (maxSteps:=2000000) +contextual only[go_sem,↓reduceIte,r222_l1,q2,q8,nat_lt_dec,Nat.lt_irrefl]
   exact⟨_,rfl,hR⟩
 all_goals simp +contextual only[go_sem,↓reduceIte]
end Go.Am
namespace Go.Am
open Go
def swp (M:List Nat)(i j:Nat):List Nat:=(M.set i (gt M j)).set j (gt M i)
theorem swp_len (M:List Nat)(i j:Nat):(swp M i j).length=M.length:=by simp[swp]
theorem gt_setH {M:List Nat}{i c x:Nat}(hi:i<M.length):gt (M.set i c) x=if x=i then c else gt M x:=by
 unfold gt
 rw[List.getD_eq_getElem?_getD,List.getD_eq_getElem?_getD,List.getElem?_set]
 by_cases h:i=x
 ·subst h;simp[hi]
 ·simp[h]
  intro e
  exact absurd e.symm h
theorem gt_swp {M:List Nat}{i j x:Nat}(hi:i<M.length)(hj:j<M.length):gt (swp M i j) x=if x=j then gt M i else if x=i then gt M j else gt M x:=by
 unfold swp
 rw[gt_setH (by simpa using hj),gt_setH hi]
theorem swp_perm {M:List Nat}{i j:Nat}(hi:i<M.length)(hj:j<M.length):(swp M i j).Perm M:=by
 rw[List.perm_iff_count]
 intro x
 unfold swp
 rw[List.count_set (by simpa using hj),List.count_set hi]
 have e1:gt M i=M[i]:=gt_get hi
 have e2:gt M j=M[j]:=gt_get hj
 rw[e1,e2,List.getElem_set]
 have hci:0<M.count M[i]:=List.count_pos_iff.2 (List.getElem_mem hi)
 have hcj:0<M.count M[j]:=List.count_pos_iff.2 (List.getElem_mem hj)
 by_cases hij:i=j
 ·subst hij
  simp only[if_true]
  by_cases hx:M[i]=x
  ·subst hx;simp <;> omega
  ·simp[hx]
 ·rw[if_neg hij]
  by_cases hx:M[i]=x
  ·subst hx
   by_cases hy:M[j]=M[i]
   ·simp[hy] <;> omega
   ·have hy':¬M[i]=M[j]:=fun e=>hy e.symm
    simp[hy] <;> omega
  ·by_cases hy:M[j]=x
   ·subst hy
    simp[hx]
   ·simp[hx,hy]
def sift:Nat→Nat→Nat→List Nat→List Nat
 |0,_,_,M=>M
 |f+1,r,hi,M=>bif decide (hi≤2*r+1) then M else
   bif decide (gt M r<gt M (bif decide (2*r+2<hi)&&decide (gt M (2*r+1)<gt M (2*r+2)) then 2*r+2 else 2*r+1)) then
    sift f (bif decide (2*r+2<hi)&&decide (gt M (2*r+1)<gt M (2*r+2)) then 2*r+2 else 2*r+1) hi (swp M r (bif decide (2*r+2<hi)&&decide (gt M (2*r+1)<gt M (2*r+2)) then 2*r+2 else 2*r+1))
   else M
def Hp (M:List Nat)(hi i:Nat):Prop:=∀c,(c=2*i+1∨c=2*i+2)→c<hi→gt M c≤gt M i
theorem sift_spec:∀(f r hi lo:Nat) (M:List Nat),hi≤M.length→hi≤f+r→lo≤r→r<hi→(∀i,lo≤i→i≠r→Hp M hi i) →
  (∀p,lo≤p→(r=2*p+1∨r=2*p+2)→∀c,(c=2*r+1∨c=2*r+2)→c<hi→gt M c≤gt M p) →
  (sift f r hi M).Perm M∧(∀i,lo≤i→Hp (sift f r hi M) hi i)∧(∀x,(x<r∨hi≤x)→gt (sift f r hi M) x=gt M x)
 |0,r,hi,lo,M,_,h1,_,h3,_,_=>by omega
 |f+1,r,hi,lo,M,h0,h1,h2,h3,hH,hG=>by
  rw[sift]
  cases hd:decide (hi≤2*r+1) with
  |true =>
   have hd:=of_decide_eq_true hd
   rw[cond_true]
   refine⟨List.Perm.refl _,fun i hi' c hc hch=>?_,fun _ _=>rfl⟩
   by_cases he:i=r
   ·subst he;omega
   ·exact hH i hi' he c hc hch
  |false =>
   have hd:=of_decide_eq_false hd
   rw[cond_false]
   obtain⟨c,hc⟩:∃c,c=bif decide (2*r+2<hi)&&decide (gt M (2*r+1)<gt M (2*r+2)) then 2*r+2 else 2*r+1:=⟨_,rfl⟩
   rw[←hc]
   have hcs:(c=2*r+1∨c=2*r+2)∧c<hi∧∀d,(d=2*r+1∨d=2*r+2)→d<hi→gt M d≤gt M c:=by
    cases hb:decide (2*r+2<hi)&&decide (gt M (2*r+1)<gt M (2*r+2)) with
    |true =>
     rw[hb,cond_true] at hc
     rw[Bool.and_eq_true,decide_eq_true_iff,decide_eq_true_iff] at hb
     refine⟨.inr hc,by omega,fun d hd' _=>?_⟩
     rcases hd' with rfl|rfl <;> rw[hc] <;> omega
    |false =>
     rw[hb,cond_false] at hc
     rw[Bool.and_eq_false_iff,decide_eq_false_iff_not,decide_eq_false_iff_not] at hb
     refine⟨.inl hc,by omega,fun d hd' hdh=>?_⟩
     rcases hd' with rfl|rfl
     ·rw[hc];exact Nat.le_refl _
     ·rw[hc];rcases hb with hb|hb <;> omega
   obtain⟨hc1,hc2,hc3⟩:=hcs
   cases hlt:decide (gt M r<gt M c) with
   |false =>
    have hlt:=of_decide_eq_false hlt
    rw[cond_false]
    refine⟨List.Perm.refl _,fun i hi' d hd' hdh=>?_,fun _ _=>rfl⟩
    by_cases he:i=r
    ·subst he
     have:=hc3 d hd' hdh
     omega
    ·exact hH i hi' he d hd' hdh
   |true =>
    have hlt:=of_decide_eq_true hlt
    rw[cond_true]
    have hr:r<M.length:=by omega
    have hcl:c<M.length:=by omega
    have g:=fun x=>gt_swp (M:=M) (i:=r) (j:=c) (x:=x) hr hcl
    obtain⟨p1,p2,p3⟩:=sift_spec f c hi lo (swp M r c) (by rw[swp_len];exact h0) (by omega) (by omega) hc2 (fun i hi' hne d hd' hdh=>by
     by_cases he:i=r
     ·subst he
      rw[g d,g i,if_neg (by omega:¬i=c),if_pos rfl]
      by_cases hdc:d=c
      ·rw[if_pos hdc];omega
      ·rw[if_neg hdc,if_neg (by omega)]
       exact hc3 d hd' hdh
     ·have hb:=hH i hi' he d hd' hdh
      rw[g d,g i,if_neg hne,if_neg he]
      by_cases hdr:d=r
      ·subst hdr
       rw[if_neg (by omega),if_pos rfl]
       exact hG i hi' hd' c hc1 hc2
      ·rw[if_neg (by omega:¬d=c),if_neg hdr]
       exact hb) (fun p hp hpc d hd' hdh=>by
     have hpr:p=r:=by omega
     subst hpr
     rw[g d,g p,if_neg (by omega),if_neg (by omega),if_neg (by omega),if_pos rfl]
     exact hH c (by omega) (by omega) d hd' hdh)
    refine⟨p1.trans (swp_perm hr hcl),p2,fun x hx=>?_⟩
    rw[p3 x (by omega),g x,if_neg (by omega),if_neg (by omega)]
def hbuild:Nat→Nat→List Nat→List Nat
 |0,_,M=>M
 |i+1,hi,M=>hbuild i hi (sift hi i hi M)
def hpop:Nat→List Nat→List Nat
 |0,M=>M
 |i+1,M=>hpop i (sift i 0 i (swp M 0 i))
def hsort (M:List Nat):List Nat:=hpop M.length (hbuild ((M.length-1) / 2+1) M.length M)
theorem sift_len:∀(f r hi:Nat) (M:List Nat),(sift f r hi M).length=M.length
 |0,_,_,_=>rfl
 |f+1,r,hi,M=>by
  rw[sift]
  cases decide (hi≤2*r+1) with
  |true=>rfl
  |false =>
   rw[cond_false]
   cases decide (gt M r<gt M (bif decide (2*r+2<hi)&&decide (gt M (2*r+1)<gt M (2*r+2)) then 2*r+2 else 2*r+1)) with
   |true=>rw[cond_true,sift_len,swp_len]
   |false=>rfl
theorem hbuild_spec:∀(i:Nat) (M:List Nat),i≤M.length→(∀j,i≤j→Hp M M.length j)→(hbuild i M.length M).Perm M∧∀j,Hp (hbuild i M.length M) M.length j
 |0,M,_,h=>⟨List.Perm.refl _,fun j=>h j (Nat.zero_le _)⟩
 |i+1,M,hi,h=>by
  obtain⟨p1,p2,_⟩:=sift_spec M.length i M.length i M (Nat.le_refl _) (by omega) (Nat.le_refl _) (by omega) (fun j hj hne=>h j (by omega)) (fun p hp hpr=>by omega)
  have hl:=sift_len M.length i M.length M
  rw[hbuild]
  have:=hbuild_spec i (sift M.length i M.length M) (by omega) (by rw[hl];exact p2)
  rw[hl] at this
  exact⟨this.1.trans p1,this.2⟩
theorem heap_top {M:List Nat}{hi:Nat}(h:∀j,Hp M hi j):∀x,x<hi→gt M x≤gt M 0:=by
 intro x
 induction x using Nat.strongRecOn with
 |ind x ih =>
  intro hx
  by_cases h0:x=0
  ·subst h0;exact Nat.le_refl _
  ·have h1:=h ((x-1) / 2) x (by omega) hx
   have h2:=ih ((x-1) / 2) (by omega) (by omega)
   omega
theorem hpop_spec:∀(i:Nat) (M:List Nat),i≤M.length→(∀j,Hp M i j)→(∀x y,x<y→i≤y→y<M.length→gt M x≤gt M y)→(hpop i M).Perm M∧∀x y,x<y→y<M.length→gt (hpop i M) x≤gt (hpop i M) y
 |0,M,_,_,h=>⟨List.Perm.refl _,fun x y hxy hy=>h x y hxy (Nat.zero_le _) hy⟩
 |i+1,M,hi,hH,hS=>by
  rw[hpop]
  have h0:0<M.length:=by omega
  have hil:i<M.length:=by omega
  have g:=fun x=>gt_swp (M:=M) (i:=0) (j:=i) (x:=x) h0 hil
  have top:=heap_top hH
  have pw:=swp_perm (M:=M) (i:=0) (j:=i) h0 hil
  have hl:(sift i 0 i (swp M 0 i)).length=M.length:=by rw[sift_len,swp_len]
  by_cases hi0:i=0
  ·subst hi0
   rw[sift]
   have gx:∀x,gt (swp M 0 0) x=gt M x:=fun x=>by
    rw[g x]
    by_cases h:x=0
    ·subst h;rfl
    ·rw[if_neg h,if_neg h]
   refine⟨?_,fun x y hxy hy=>?_⟩
   ·rw[hpop];exact pw
   ·rw[hpop,gx,gx]
    exact hS x y hxy (by omega) hy
  obtain⟨p1,p2,p3⟩:=sift_spec i 0 i 0 (swp M 0 i) (by rw[swp_len];omega) (by omega) (Nat.le_refl _) (by omega) (fun j _ hne c hc hch=>by
   rw[g c,g j,if_neg (by omega),if_neg (by omega)]
   by_cases hj:j=i
   ·subst hj;omega
   ·rw[if_neg hj,if_neg hne]
    exact hH j c hc (by omega)) (fun p _ hp=>by omega)
  have hdr:(sift i 0 i (swp M 0 i)).drop i=(swp M 0 i).drop i:=by
   refine List.ext_getElem (by rw[List.length_drop,List.length_drop,hl,swp_len]) fun x h1 h2=>?_
   rw[List.length_drop] at h1 h2
   rw[List.getElem_drop,List.getElem_drop,←gt_get,←gt_get]
   exact p3 (i+x) (.inr (by omega))
  have htk:((sift i 0 i (swp M 0 i)).take i).Perm ((swp M 0 i).take i):=by
   have e1:=List.take_append_drop i (sift i 0 i (swp M 0 i))
   have e2:=List.take_append_drop i (swp M 0 i)
   have h:((sift i 0 i (swp M 0 i)).take i++(swp M 0 i).drop i).Perm ((swp M 0 i).take i++(swp M 0 i).drop i):=by
    rw[←hdr,e1,hdr,e2]
    exact p1
   exact (List.perm_append_right_iff _).1 h
  have big:∀x,x<i→gt (sift i 0 i (swp M 0 i)) x≤gt M 0:=fun x hxi=>by
   have hm:gt (sift i 0 i (swp M 0 i)) x∈(sift i 0 i (swp M 0 i)).take i:=by
    rw[gt_get (by omega)]
    exact List.mem_take_iff_getElem.2 ⟨x,by omega,rfl⟩
   obtain⟨y,hy,he⟩:=List.mem_take_iff_getElem.1 (htk.mem_iff.1 hm)
   rw[swp_len] at hy
   rw[←he,←gt_get,g y,if_neg (by omega)]
   by_cases h:y=0
   ·rw[if_pos h];exact top i (by omega)
   ·rw[if_neg h];exact top y (by omega)
  obtain⟨q1,q2⟩:=hpop_spec i (sift i 0 i (swp M 0 i)) (by omega) (fun j=>p2 j (Nat.zero_le _)) fun x y hxy hy hyl=>by
   rw[hl] at hyl
   rw[p3 y (.inr hy),g y]
   by_cases hyi:y=i
   ·rw[if_pos hyi]
    exact big x (by omega)
   ·rw[if_neg hyi,if_neg (by omega)]
    by_cases hxi:x<i
    ·exact Nat.le_trans (big x hxi) (hS 0 y (by omega) (by omega) hyl)
    ·rw[p3 x (.inr (by omega)),g x]
     by_cases hx:x=i
     ·rw[if_pos hx];exact hS 0 y (by omega) (by omega) hyl
     ·rw[if_neg hx,if_neg (by omega)]
      exact hS x y hxy (by omega) hyl
  exact⟨(q1.trans p1).trans pw,fun x y hxy hy=>q2 x y hxy (by rw[hl];exact hy)⟩
theorem hsort_spec (M:List Nat):(hsort M).Perm M∧(hsort M).Pairwise (·≤·):=by
 unfold hsort
 by_cases h0:M.length=0
 ·have:M=[]:=List.length_eq_zero_iff.1 h0
  subst this
  exact⟨List.Perm.refl _,List.Pairwise.nil⟩
 obtain⟨b1,b2⟩:=hbuild_spec ((M.length-1) / 2+1) M (by omega) (fun j hj c hc hch=>by omega)
 have hl:(hbuild ((M.length-1) / 2+1) M.length M).length=M.length:=b1.length_eq
 obtain⟨p1,p2⟩:=hpop_spec M.length (hbuild ((M.length-1) / 2+1) M.length M) (by omega) b2 (fun x y _ h1 h2=>by omega)
 refine⟨p1.trans b1,?_⟩
 rw[List.pairwise_iff_getElem]
 intro i j hi hj hij
 have hpl:=p1.length_eq
 have:=p2 i j hij (by omega)
 rwa [gt_get hi,gt_get hj] at this
end Go.Am
namespace Go.Am
open Go
variable [MaxLen]
set_option maxRecDepth 100000
set_option maxHeartbeats 8000000
def PSrt (k b:Nat)(s:St)(L:List Nat)(o:Option (AV×St)):Prop:=∃x,o=some x∧SrtR k b s L x.2
theorem srt_put2 {k b:Nat}{s s':St}{L L':List Nat}{m:Nat}{X:Blk}(hR:SrtR k b s L s')(hb:b<s.next)(hm:s'.next≤m):SrtR k b s L' (((s'.upto m).put b X).put b (.cells (pcs k L') 116 false 0 0)):=by
 obtain⟨_,hs,hnx,fr'⟩:=hR
 refine⟨by rw[get_put,if_pos rfl],fun i h1 h2=>?_,?_,?_⟩
 ·rw[get_put,if_neg h2.symm,get_put,if_neg h2.symm,upto_get];exact hs i h1 h2
 ·simp only[next_put,upto_next];omega
 ·exact ((fr'.upto hm).put (by rw[upto_next];omega) _).put (by simp only[next_put,upto_next];omega) _
theorem srt_upto {k b:Nat}{s s':St}{L:List Nat}{m:Nat}(hR:SrtR k b s L s')(hm:s'.next≤m):SrtR k b s L (s'.upto m) :=
 ⟨by rw[upto_get];exact hR.1,fun i h1 h2=>by rw[upto_get];exact hR.2.1 i h1 h2,by rw[upto_next];have:=hR.2.2.1;omega,hR.2.2.2.upto hm⟩
theorem wrapN {a:Int}{n:Nat}(h:a=(n:Int))(hn:n<2^62):IntKind.i64.wrap a=(n:Int):=by
 subst h
 rw[wrap_i64] <;> omega
theorem c253 {k n b:Nat}{cap:Option Nat}{P M S:List Nat}(hk0:0<k)(hL:P.length+M.length+S.length=n)(hn:n≤2^20){s:St}(gb:s.get b=some (.cells (pcs k (P++M++S)) 116 false 0 0))(hb:b<s.next)(fr:Fr s){f r hi:Nat}(hhi:hi≤M.length)(hf:hi≤f+r)(hr:r≤2^20) :
  ∃v s',cal U 253 [.sl b 0 n cap 2,.int .i64 (r:Nat),.int .i64 (hi:Nat),.int .i64 (P.length:Nat),.fn (.func 142) [] []] s=some (v,s')∧SrtR k b s (P++sift f r hi M++S) s':=by
 suffices hgo:PSrt k b s (P++sift f r hi M++S) (go U (finB U []) [] r253 (bindArgs 0 [.sl b 0 n cap 2,.int .i64 (r:Nat),.int .i64 (hi:Nat),.int .i64 (P.length:Nat),.fn (.func 142) [] []] .nil) s) by
  obtain⟨x,h1,h2⟩:=hgo
  exact⟨x.1,x.2,kept_go k253 (by kernel_rfl) h1,h2⟩
 simp (maxSteps:=2000000) +contextual only[go_sem,↓reduceIte,r253]
 refine loop_ex (Post:=PSrt k b s (P++sift f r hi M++S)) (σ:=Nat×Nat) (fun p=>p.1) (fun p e' s'=>Env.get e' 0=.sl b 0 n cap 2∧Env.get e' 2=.int .i64 (hi:Nat)∧Env.get e' 3=.int .i64 (P.length:Nat)∧Env.get e' 4=.fn (.func 142) [] []∧Env.get e' 10=.int .i64 (p.2:Nat)∧hi≤p.1+p.2∧p.2≤2^20 ∧
   ∃L',L'.length=M.length∧SrtR k b s (P++L'++S) s'∧sift p.1 p.2 hi L'=sift f r hi M) (f,r) ?_
  ⟨?_,?_,?_,?_,?_,hf,hr,M,rfl,⟨gb,fun _ _ _=>rfl,Nat.le_refl _,fr⟩,rfl⟩
 ·rintro Lp ⟨g,q⟩ e' s' ⟨q0,q2,q3,q4,q10,hg,hq,L',hL',hR,hrun⟩ IH
  simp only at q10 hg hq hrun
  obtain⟨qb,hs,hnx,fr'⟩:=id hR
  have w1:IntKind.i64.wrap (2*((q:Nat):Int))=((2*q:Nat):Int):=wrapN (by omega) (by omega)
  have w2:IntKind.i64.wrap (((2*q:Nat):Int)+1)=((2*q+1:Nat):Int):=wrapN (by omega) (by omega)
  by_cases hd:hi≤2*q+1
  ·have hge:decide (((2*q+1:Nat):Int)≥((hi:Nat):Int))=true:=decide_eq_true (by omega)
   have e:sift g q hi L'=L':=by
    cases g with
    |zero=>rfl
    |succ g=>rw[sift,decide_eq_true hd,cond_true]
   rw[e] at hrun
   subst hrun
   simp (maxSteps:=2000000) +contextual only[go_sem,↓reduceIte,r253_l0,q2,q10,w1,w2,hge]
   exact⟨_,rfl,hR⟩
  ·obtain⟨g,rfl⟩:∃g',g=g'+1:=⟨g-1,by omega⟩
   have hge:decide (((2*q+1:Nat):Int)≥((hi:Nat):Int))=false:=decide_eq_false (by omega)
   rw[sift,decide_eq_false hd,cond_false] at hrun
   have w3:IntKind.i64.wrap (((2*q+1:Nat):Int)+1)=((2*q+2:Nat):Int):=wrapN (by omega) (by omega)
   have w4:IntKind.i64.wrap (((P.length:Nat):Int)+((2*q+1:Nat):Int))=((P.length+(2*q+1):Nat):Int):=wrapN (by omega) (by omega)
   have w5:IntKind.i64.wrap (((P.length+(2*q+1):Nat):Int)+1)=((P.length+(2*q+2):Nat):Int):=wrapN (by omega) (by omega)
   have second:∀(c:Nat) (E:Env) (s2:St),c<hi→(c=2*q+1∨c=2*q+2)→(bif decide (gt L' q<gt L' c) then sift g c hi (swp L' q c) else L')=sift f r hi M→SrtR k b s (P++L'++S) s2→Env.get E 0=.sl b 0 n cap 2→Env.get E 2=.int .i64 (hi:Nat)→Env.get E 3=.int .i64 (P.length:Nat)→Env.get E 4=.fn (.func 142) [] []→Env.get E 10=.int .i64 (q:Nat)→Env.get E 11=.int .i64 (c:Nat) →
     PSrt k b s (P++sift f r hi M++S) (go U (finB U []) [.bk 1,.lp Lp,.bk 0] r253_b E s2):=by
    intro c E s2 hch hcq hrun hR2 p0 p2 p3 p4 p10 p11
    obtain⟨pb,hs2,hn2,fr2⟩:=id hR2
    have hc:c<L'.length:=by omega
    have hq':q<L'.length:=by omega
    have v1:IntKind.i64.wrap (((P.length:Nat):Int)+((q:Nat):Int))=((P.length+q:Nat):Int):=wrapN (by omega) (by omega)
    have v2:IntKind.i64.wrap (((P.length:Nat):Int)+((c:Nat):Int))=((P.length+c:Nat):Int):=wrapN (by omega) (by omega)
    have r1:=grabM k (P:=P) (M:=L') (S:=S) hq'
    have r2:=grabM k (P:=P) (M:=L') (S:=S) hc
    have c1:=c142 ((L'[q] / k:Nat):Int) ((L'[q]%k:Nat):Int) ((L'[c] / k:Nat):Int) ((L'[c]%k:Nat):Int)
    have o1:=(ord_code (k:=k) (c:=L'[q]) (d:=L'[c]) hk0).1
    have h1:P.length+q<n:=by omega
    have h2:P.length+c<n:=by omega
    rw[gt_get hq',gt_get hc] at hrun
    have y1:=layM k (P:=P) (M:=L') (S:=S) (i:=q) L'[c] hq'
    have y2:=layM k (P:=P) (M:=L'.set q L'[c]) (S:=S) (i:=c) L'[q] (by simpa using hc)
    cases hlt:decide (L'[q]<L'[c]) with
    |true =>
     rw[hlt] at o1 hrun
     rw[cond_true] at hrun
     simp (maxSteps:=2000000) +contextual only[go_sem,↓reduceIte,r253_b,p0,p3,p4,p10,p11,pb,v1,v2,r1,r2,c1,o1,h1,h2,Nat.zero_add,y1,y2]
     have hsw:swp L' q c=(L'.set q L'[c]).set c L'[q]:=by unfold swp;rw[gt_get hq',gt_get hc]
     rw[hsw] at hrun
     refine IH (g,c) _ _ (by simp only;omega) ⟨?_,?_,?_,?_,?_,by simp only;omega,by simp only;omega,(L'.set q L'[c]).set c L'[q],by simp[hL'],srt_put2 (srt_upto hR2 (by omega)) hb (by rw[upto_next];omega),hrun⟩
     all_goals simp +contextual only[go_sem,↓reduceIte,p0,p2,p3,p4]
    |false =>
     rw[hlt] at o1 hrun
     rw[cond_false] at hrun
     subst hrun
     simp (maxSteps:=2000000) +contextual only[go_sem,↓reduceIte,r253_b,p0,p3,p4,p10,p11,pb,v1,v2,r1,r2,c1,o1,h1,h2,Nat.zero_add]
     exact⟨_,rfl,srt_upto hR2 (by omega)⟩
   by_cases hD:2*q+2<hi
   ·have hlt:decide (((2*q+2:Nat):Int)<((hi:Nat):Int))=true:=decide_eq_true (by omega)
    have a1:2*q+1<L'.length:=by omega
    have a2:2*q+2<L'.length:=by omega
    have r1:=grabM k (P:=P) (M:=L') (S:=S) a1
    have r2:=grabM k (P:=P) (M:=L') (S:=S) a2
    have c1:=c142 ((L'[2*q+1] / k:Nat):Int) ((L'[2*q+1]%k:Nat):Int) ((L'[2*q+2] / k:Nat):Int) ((L'[2*q+2]%k:Nat):Int)
    have o1:=(ord_code (k:=k) (c:=L'[2*q+1]) (d:=L'[2*q+2]) hk0).1
    have h1:P.length+(2*q+1)<n:=by omega
    have h2:P.length+(2*q+2)<n:=by omega
    rw[decide_eq_true hD,Bool.true_and,gt_get a1,gt_get a2] at hrun
    cases hE:decide (L'[2*q+1]<L'[2*q+2]) with
    |true =>
     rw[hE] at o1
     rw[hE,cond_true] at hrun
     simp (maxSteps:=2000000) +contextual only[go_sem,↓reduceIte,r253_l0,q0,q2,q3,q4,q10,w1,w2,w3,w4,w5,hge,hlt,qb,r1,r2,c1,o1,h1,h2,Nat.zero_add]
     refine second (2*q+2) _ _ hD (.inr rfl) hrun (srt_upto hR (by omega)) ?_ ?_ ?_ ?_ ?_ ?_
     all_goals simp +contextual only[go_sem,↓reduceIte,q0,q2,q3,q4,q10]
    |false =>
     rw[hE] at o1
     rw[hE,cond_false] at hrun
     simp (maxSteps:=2000000) +contextual only[go_sem,↓reduceIte,r253_l0,q0,q2,q3,q4,q10,w1,w2,w3,w4,w5,hge,hlt,qb,r1,r2,c1,o1,h1,h2,Nat.zero_add]
     refine second (2*q+1) _ _ (by omega) (.inl rfl) hrun (srt_upto hR (by omega)) ?_ ?_ ?_ ?_ ?_ ?_
     all_goals simp +contextual only[go_sem,↓reduceIte,q0,q2,q3,q4,q10]
   ·have hlt:decide (((2*q+2:Nat):Int)<((hi:Nat):Int))=false:=decide_eq_false (by omega)
    rw[decide_eq_false hD,Bool.false_and,cond_false] at hrun
    simp (maxSteps:=2000000) +contextual only[go_sem,↓reduceIte,r253_l0,q0,q2,q3,q4,q10,w1,w2,w3,w4,w5,hge,hlt,qb,Nat.zero_add]
    refine second (2*q+1) _ _ (by omega) (.inl rfl) hrun (srt_upto hR (by omega)) ?_ ?_ ?_ ?_ ?_ ?_
    all_goals simp +contextual only[go_sem,↓reduceIte,q0,q2,q3,q4,q10]
 all_goals simp +contextual only[go_sem,↓reduceIte]
end Go.Am
