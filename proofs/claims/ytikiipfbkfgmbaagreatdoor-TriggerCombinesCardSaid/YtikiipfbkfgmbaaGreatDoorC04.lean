/- A part of the proof of a statement of this seat: the machine on which the program is read, and what it computes; for every input. -/
import Derived.Test.YtikiipfbkfgmbaaGreatDoorC02
import Derived.Test.YtikiipfbkfgmbaaGreatDoorC03
import Derived.Test.YtikiipfbkfgmbaaGreatDoorC00
import Derived.Laws.BitsLemmas
set_option linter.all false
namespace Go.Am
open Go
abbrev Str:=List UInt8
inductive Cond where
 |mk (kind:Str) (a b mi ma:Int) (pat:Str) (nl:Bool) (kids:List Cond)
def encS (nl:Bool)(l:List AV):AV:=match nl,l with
 |true,[]=>.nils
 |_,l=>.fz l
mutual
def encC:Cond→AV
 |.mk k a b mi ma p nl kids=>.agg [.str k,.int .i64 a,.int .i64 b,.int .i64 mi,.int .i64 ma,.str p,encS nl (encL kids)]
def encL:List Cond→List AV
 |[]=>[]
 |c::l=>encC c::encL l
end
def Cond.kind:Cond→Str|.mk k _ _ _ _ _ _ _=>k
def Cond.a:Cond→Int|.mk _ a _ _ _ _ _ _=>a
def Cond.b:Cond→Int|.mk _ _ b _ _ _ _ _=>b
def Cond.mi:Cond→Int|.mk _ _ _ m _ _ _ _=>m
def Cond.ma:Cond→Int|.mk _ _ _ _ m _ _ _=>m
def Cond.pat:Cond→Str|.mk _ _ _ _ _ p _ _=>p
def Cond.nl:Cond→Bool|.mk _ _ _ _ _ _ n _=>n
def Cond.kids:Cond→List Cond|.mk _ _ _ _ _ _ _ l=>l
def Cond.cells (c:Cond):List AV:=[.str c.kind,.int .i64 c.a,.int .i64 c.b,.int .i64 c.mi,.int .i64 c.ma,.str c.pat,encS c.nl (encL c.kids)]
structure Step where
 cond:Cond
 times:Int
 within:Int
def Step.cells (s:Step):List AV:=s.cond.cells++[.int .i64 s.times,.int .i64 s.within]
structure Prog where
 lines:Int
 nl:Bool
 steps:List Step
def ints (l:List Int):List AV:=l.map (.int .i64 ·)
def zM (l:List Bool):List AV:=l.map .bool
structure Auto where
 lines:Int
 nNl:Bool
 next:List (Bool×List Int)
 fNl:Bool
 fires:List (Bool×List Bool)
def zG (r:Bool×List Int):AV:=encS r.1 (ints r.2)
def zC (r:Bool×List Bool):AV:=encS r.1 (zM r.2)
def encA (a:Auto):AV:=.agg [.int .i64 a.lines,encS a.nNl (a.next.map zG),encS a.fNl (a.fires.map zC)]
theorem encS_fz (l:List AV):encS false l=.fz l:=by cases l <;> rfl
theorem encS_cons (nl:Bool)(x:AV)(l:List AV):encS nl (x::l)=.fz (x::l):=by cases nl <;> rfl
theorem still_encS (nl:Bool)(l:List AV):still (encS nl l)=true:=by
 cases nl <;> cases l <;> simp[encS,still]
theorem zH (nl:Bool)(l:List AV):noAgg (encS nl l)=true:=by
 cases nl <;> cases l <;> simp[encS,noAgg]
theorem zD (nl:Bool)(l:List AV):(encS nl l).cells=[encS nl l]:=by
 cases nl <;> cases l <;> simp[encS,AV.cells]
theorem zX (nl:Bool)(l:List AV):lenRL (encS nl l)=some (.int .i64 l.length):=by
 cases nl <;> cases l <;> simp[encS,lenRL]
theorem frz_encS (X:Cx)(s:St)(d:Nat)(nl:Bool)(l:List AV):frz X s (d+1) (encS nl l)=some (encS nl l):=by
 cases nl <;> cases l <;> simp[encS,frz]
theorem ixa_encS (n:Nat)(nl:Bool)(l:List AV)(k:IntKind)(i:Int)(x:AV)(h0:0≤i)(hx:l[i.toNat]? = some x)(hc:x.cells.length=n)(hn:n≠0):ixRA n (encS nl l) (.int k i)=some (.fp x.cells 0):=by
 have hl:l≠[]:=by intro h;rw[h] at hx;simp at hx
 have:encS nl l=.fz l:=by cases l with
  |nil=>exact absurd rfl hl
  |cons y l=>exact encS_cons ..
 rw[this,ixa_fz]
 simp[h0,hx,ixF,hc,hn]
theorem wrap_i64 {n:Int}(h0 : -2^63≤n)(h1:n<2^63):IntKind.i64.wrap n=n:=by
 rw[IntKind.wrap_i64]
 omega
end Go.Am
namespace Go.Am
open Go Go.Proofs
variable [MaxLen]
set_option maxRecDepth 100000
instance seatStat:Stat:=⟨fun m c=>∃n,n≤m∧okC U n c=true∧noRF c=true,fun t=>Nat.beq t 207⟩
theorem U_und (t:TypeId):U.und t=Tryz.prog.underlying t:=by unfold U;rfl
theorem U_inf (t:TypeId):U.inf t=Tryz.prog.info? t:=by unfold U;rfl
theorem U_ext (f:FuncId):U.ext f=extU f:=by unfold U;rfl
theorem U_pure (f:FuncId):U.pure f=!keeps.contains f:=by unfold U;rfl
theorem U_gbase (g:Nat):U.gbase g=gbU g:=by unfold U;rfl
theorem U_glob:U.glob=8:=by unfold U;rfl
theorem U_fn (f:FuncId):U.fn f=bif Nat.beq f 75 then none else Tryz.prog.funcs[f]? := by unfold U;rfl
noncomputable def fnRC (f:FuncId):Option (List ResultVar×RC):=match U.fn f with
 |some fn=>match fn.body with
  |some c=>some (fn.results.toList,rc U c)
  |none=>none
 |none=>none
theorem fnRC_some {f:FuncId}{rs:List ResultVar}{r:RC}(h:fnRC f=some (rs,r)):∃fn c,U.fn f=some fn∧fn.body=some c∧fn.results.toList=rs∧rc U c=r:=by
 unfold fnRC at h
 split at h
 ·rename_i fn hf
  split at h
  ·rename_i c hb
   cases h
   exact⟨fn,c,hf,hb,rfl,rfl⟩
  ·cases h
 ·cases h
def isPure (f:FuncId):Bool:=!keeps.contains f&&(extU f).isNone
def isKept (f:FuncId):Bool:=keeps.contains f&&(extU f).isNone
theorem isPure_of {f:FuncId}(h:isPure f=true):U.pure f=true∧U.ext f=none:=by
 rw[isPure,Bool.and_eq_true,Option.isNone_iff_eq_none] at h
 rw[U_pure,U_ext];exact h
theorem isKept_of {f:FuncId}(h:isKept f=true):U.pure f=false∧U.ext f=none:=by
 rw[isKept,Bool.and_eq_true,Option.isNone_iff_eq_none] at h
 rw[U_pure,U_ext,h.1];exact⟨rfl,h.2⟩
theorem yB {f:FuncId}{rs:List ResultVar}{r:RC}(h:fnRC f=some (rs,r))(hp:isPure f=true){args:List AV}(hst:zS args=true){v:AV}
  (hg:go U (finP U rs) [] r (yG 0 args .nil) (ownSt U)=some v):calV U f args=some v:=by
 obtain⟨fn,c,h1,h2,h3,h4⟩:=fnRC_some h
 obtain⟨p1,p2⟩:=isPure_of hp
 exact calV_pure U p2 p1 h1 h2 h3 h4 hst hg
theorem kept_go {f:FuncId}{rs:List ResultVar}{r:RC}(h:fnRC f=some (rs,r))(hp:isKept f=true){args:List AV}{s:St}{x:AV×St}
  (hg:go U (finB U rs) [] r (yG 0 args .nil) s=some x):cal U f args s=some x:=by
 obtain⟨fn,c,h1,h2,h3,h4⟩:=fnRC_some h
 obtain⟨p1,p2⟩:=isKept_of hp
 unfold cal callF
 rw[p2,p1]
 exact callB_go U h1 h2 h3 h4 hg
theorem z_of {f:FuncId}(hp:isPure f=true){args:List AV}(s:St)(hst:zS args=false):callK U (calV U f args) f args s=calZ U f (mapO (frz U s 40) args) s :=
 cal_calZ U s (isPure_of hp).2 (isPure_of hp).1 hst
def gateZ (p:Bool)(x:Option (AV×St))(s:St):Option (AV×St):=bif p then x else some (undef,s)
theorem gateZ_true (x:Option (AV×St))(s:St):gateZ true x s=x:=(fun h=>h) rfl
theorem zg_of {f:FuncId}(hp:isPure f=true){p:Bool}{args:List AV}(s:St)(hst:zS args=false):gateC U p (calV U f args) f args s=gateZ p (calZ U f (mapO (frz U s 40) args) s) s:=by
 unfold gateC gateZ
 rw[z_of hp s hst]
theorem flat_frz (s:St):∀(d:Nat) (v v':AV),frz U s d v=some v'→flat v'=true→v=v':=by
 intro d
 induction d with
 |zero=>intro v v' h;simp[frz] at h
 |succ d ih =>
  intro v v' h hf
  have hl:∀(l l':List AV),mapO (frz U s d) l=some l'→flats l'=true→l=l':=by
   intro l
   induction l with
   |nil=>intro l' h _;simp only[mapO] at h;cases h;rfl
   |cons x l ihl =>
    intro l' h hf
    simp only[mapO] at h
    split at h
    ·rename_i y r h1 h2
     cases h
     simp only[flats,Bool.and_eq_true] at hf
     rw[ih _ _ h1 hf.1,ihl _ h2 hf.2]
    ·cases h
  cases v with
  |ptr b o =>
   rw[frz_ptr] at h
   unfold frzP at h
   split at h
   ·simp only[fpK,Option.map_eq_some_iff] at h
    obtain⟨_,_,rfl⟩:=h
    simp[flat] at hf
   ·cases h
  |sl b o len cap esz =>
   rw[frz_sl] at h
   unfold frzS frzT fzK at h
   split at h
   ·split at h
    ·split at h
     ·simp only[Option.map_eq_some_iff] at h
      obtain⟨_,_,rfl⟩:=h
      simp[flat] at hf
     ·cases h
    ·cases h
   ·cases h
  |map r =>
   simp only[frz] at h
   split at h
   ·split at h
    ·cases h;simp[flat] at hf
    ·cases h
   ·cases h
  |fn f x y =>
   simp only[frz] at h
   split at h
   ·split at h
    ·rename_i x' y' h1 h2
     cases h
     simp only[flat,Bool.and_eq_true] at hf
     rw[hl _ _ h1 hf.1.2,hl _ _ h2 hf.2]
    ·cases h
   ·cases h
  |iface t x =>
   simp only[frz] at h
   split at h
   ·rename_i x' h1
    cases h
    simp only[flat] at hf
    rw[ih _ _ h1 hf]
   ·cases h
  |agg cs =>
   simp only[frz] at h
   split at h
   ·rename_i x' h1
    cases h
    simp only[flat] at hf
    rw[hl _ _ h1 hf]
   ·cases h
  |tup cs =>
   simp only[frz] at h
   split at h
   ·rename_i x' h1
    cases h
    simp only[flat] at hf
    rw[hl _ _ h1 hf]
   ·cases h
  |_=>simp only[frz] at h;cases h;rfl
theorem v_of_q {f:FuncId}(hp:isPure f=true){args:List AV}(hst:zS args=true){v:AV}(h:callQ U (execL U) f args true=some v):calV U f args=some v:=by
 refine calV_of fun s=>?_
 obtain⟨p1,p2⟩:=isPure_of hp
 unfold cal callF
 rw[p2]
 simp only[p1,if_true,callP,frzArgs,hst,h]
theorem ag_3:isAggT U 3=some false:=by kernel_rfl
theorem sz_3:size U 3=some 1:=by kernel_rfl
theorem ag_4:isAggT U 4=some false:=by kernel_rfl
theorem sz_4:size U 4=some 1:=by kernel_rfl
theorem sz_5:size U 5=some 1:=by kernel_rfl
theorem ag_26:isAggT U 26=some false:=by kernel_rfl
theorem sz_26:size U 26=some 1:=by kernel_rfl
theorem ag_40:isAggT U 40=some false:=by kernel_rfl
theorem sz_40:size U 40=some 1:=by kernel_rfl
theorem ag_43:isAggT U 43=some false:=by kernel_rfl
theorem sz_43:size U 43=some 1:=by kernel_rfl
theorem ag_69:isAggT U 69=some true:=by kernel_rfl
theorem sz_69:size U 69=some 3:=by kernel_rfl
theorem ag_72:isAggT U 72=some true:=by kernel_rfl
theorem sz_72:size U 72=some 3:=by kernel_rfl
attribute [go_sem ↓] gateZ_true
attribute [go_sem] Int.reduceBEq Int.reduceBNe Int.reduceAdd U_glob ag_3 sz_3 ag_4 sz_4 sz_5 ag_26 sz_26 ag_40 sz_40 ag_43 sz_43 ag_69 sz_69 ag_72 sz_72
abbrev o (d:Nat)(r:ROp):RO:=⟨some d,none,none,false,r⟩
abbrev oS (r:ROp):RO:=⟨none,none,none,false,r⟩
abbrev om (d t:Nat):RO:=⟨some d,none,none,false,.mov (.t t)⟩
abbrev oF (d g:Nat)(r:ROp):RO:=⟨some d,some (g,false),none,false,r⟩
abbrev oT (d g:Nat)(r:ROp):RO:=⟨some d,some (g,true),none,false,r⟩
end Go.Am
namespace Go.Am
open Go
structure Pb where
 lo:Nat
 hi:Nat
 e:Env
 op:ROp
 v:AV
def pb1 (v:AV)(x:Option (AV×St)):Bool:=match x with
 |some (u,_)=>same u v
 |none=>false
section
variable (X:Cx)
noncomputable def pbL (base:Nat)(e:Env)(op:ROp)(v:AV):List St→Bool
 |[]=>true
 |s::l=>pb1 v (rop X base none e s op)&&pbL base e op v l
noncomputable def pbsOk (base:Nat)(H:List St):List Pb→Bool
 |[]=>true
 |p::P=>pbL X base p.e p.op p.v ((H.take (p.hi+1)).drop p.lo)&&pbsOk base H P
abbrev ROC:=RO×Option (Nat×Nat)
def noneC (base:Nat)(s:St)(l:List ROC):Bool:=noneR base s (l.map Prod.fst)
def addP (c:Option (Nat×Nat))(e:Env)(op:ROp)(v:AV)(P:List Pb):List Pb:=match c with
 |some (lo,hi)=>⟨lo,hi,e,op,v⟩::P
 |none=>P
noncomputable def ropsC (base:Nat):List ROC→Env→St→List St→List Pb→Option (Env×St)
 |[],e,s,H,P=>bif pbsOk X base H P then some (e,s) else none
 |(o,c)::l,e,s,H,P=>match (bif wantR e o.g then rop X base o.at_ e s o.op else some (undef,s)) with
  |some (v,s')=>bif !o.w||noneC base s' l then ropsC base l (setDst e o.d v) s' (bif o.w then H++[s'] else H) (addP c e o.op v P) else none
  |none=>none
def calmI (ops:Array Oper)(i:Nat):Bool :=
 (aIdx X 0 ops.toList).all (fun k=>!decide (k<i)||bef ops k i)&&(wIdx X ops 0 ops.toList).all (fun k=>bef ops k i||bef ops i k)
def opC (ops:Array Oper)(i:Nat):Option (Nat×Nat):=match ops[i]? with
 |some o=>if ((cls X o.op).isR||(match cls X o.op with|.q=>true|_=>false))&&!calmI X ops i then
   some (countL (fun j=>bef ops j i) (wIdx X ops 0 ops.toList),countL (fun j=>!bef ops i j) (wIdx X ops 0 ops.toList)) else none
 |none=>none
def csD (ops:Array Oper):List (Option (Nat×Nat)):=(List.range ops.size).map (opC X ops)
def openD (ops:Array Oper):Bool :=
 !lateReg X ops&&(List.range ops.size).all fun i=>match ops[i]? with
  |some o=>!((cls X o.op).isR||(match cls X o.op with|.q=>true|_=>false))||calmI X ops i ||
   ((cls X o.op).isR&&(o.guard.isNone&&(aIdx X 0 ops.toList).all fun k=>!bef ops k i))
  |none=>true
def rcDrc:Code→Option (Nat×List ROC)
 |.region _ ops d=>if d&&openD X ops&&okD X ops then match rcOps X ops true 0 ops.toList with
   |some l=>some (ops.size,l.zip (csD X ops))
   |none=>none
   else none
 |_=>none
end
section
variable [Stat]
variable {X:Cx}{ops:Array Oper}{base:Nat}
theorem rcOps_length {b:Bool}:∀(l:List Oper) (i:Nat) (r:List RO),rcOps X ops b i l=some r→r.length=l.length
 |[],i,r,h=>by simp only[rcOps] at h;cases h;rfl
 |o::l,i,r,h=>by
  simp only[rcOps] at h
  split at h
  ·rename_i g r' h1 h2
   cases h
   simp[rcOps_length l (i+1) r' h2]
  ·cases h
theorem ropsC_D {r:Env×St}:∀(l:List ROC) (e:Env) (s:St) (H:List St) (P:List Pb),ropsC X base l e s H P=some r→ropsD X base (l.map Prod.fst) e s=some r
 |[],e,s,H,P,h=>by
  simp only[ropsC] at h
  cases hb:pbsOk X base H P with
  |true=>rw[hb] at h;exact h
  |false=>rw[hb] at h;cases h
 |(o,c)::l,e,s,H,P,h=>by
  simp only[ropsC] at h
  simp only[List.map_cons,ropsD]
  split at h
  ·rename_i v s' hv
   rw[hv]
   simp only
   cases hb:(!o.w||noneC base s' l) with
   |false=>rw[hb] at h;cases h
   |true =>
    rw[hb] at h
    rw[if_pos (by exact hb)]
    exact ropsC_D l _ _ _ _ h
  ·cases h
theorem roStep {i:Nat}{o:Oper}{g:Option (Nat×Bool)}{e:Env}{s s1:St}{v:AV}(h1:rcG ops o.guard=some g)
  (hr:(bif wantR e g then rop X base (if true&&(cls X o.op).isA then some i else none) e s (rcOp X o.op) else some (undef,s))=some (v,s1)) :
  stepD X (execL X) ops base i o e s=some (setDst e o.dst v,s1):=by
 have hwant:=rcG_spec h1 e
 cases hw:wantR e g with
 |false =>
  rw[hw] at hr hwant
  simp only[cond_false] at hr
  cases hr
  simp only[stepD,←hwant,Bool.false_eq_true,if_false]
 |true =>
  rw[hw] at hr hwant
  simp only[cond_true,Bool.true_and] at hr
  simp only[stepD,←hwant,if_true]
  by_cases ha:(cls X o.op).isA=true
  ·rw[if_pos ha] at hr
   obtain⟨s2,e1,e2⟩:=rop_at (isA_iff.1 ha) hr
   rw[isA_iff.1 ha]
   simp only[e1,e2]
  ·rw[if_neg ha] at hr
   have:=rop_spec hr
   cases hk:cls X o.op <;> rw[hk] at ha <;> first|exact absurd rfl ha|simp only[this]
theorem addA_no {i m:Nat}{tr:List (Env×St)}{s:St}:∀(l:List Nat),(∀k∈l,bef ops k i=false)→addA ops base i m tr l s=s
 |[],_=>rfl
 |j::l,h=>by
  unfold addA
  rw[if_neg (by simp[h j (List.mem_cons_self ..)])]
  exact addA_no l fun k hk=>h k (List.mem_cons_of_mem _ hk)
theorem pbsOk_mem {H:List St}:∀(P:List Pb),pbsOk X base H P=true→∀p∈P,pbL X base p.e p.op p.v ((H.take (p.hi+1)).drop p.lo)=true
 |[],_,p,hp=>by simp at hp
 |q::P,h,p,hp=>by
  simp only[pbsOk,Bool.and_eq_true] at h
  rcases List.mem_cons.1 hp with rfl|hp
  ·exact h.1
  ·exact pbsOk_mem P h.2 p hp
theorem pbL_mem {e:Env}{op:ROp}{v:AV}:∀(l:List St),pbL X base e op v l=true→∀s∈l,pb1 v (rop X base none e s op)=true
 |[],_,s,hs=>by simp at hs
 |x::l,h,s,hs=>by
  simp only[pbL,Bool.and_eq_true] at h
  rcases List.mem_cons.1 hs with rfl|hs
  ·exact h.1
  ·exact pbL_mem l h.2 s hs
theorem probes (hlr:lateReg X ops=false):∀(l:List Oper) (i:Nat) (l':List ROC) (e:Env) (s:St) (H:List St) (P:List Pb) (r:Env×St) (tr:List (Env×St)),
  rcOps X ops true i l=some (l'.map Prod.fst)→ropsC X base l' e s H P=some r→goD X (execL X) ops base i l e s=some tr →
  ∃P',pbsOk X base (H++(wIdx X ops i l).map (fun j=>trS tr (j+1-i))) P'=true∧(∀p∈P,p∈P') ∧
   ∀(k:Nat) o q lo hi,l[k]? = some o→l'[k]? = some (q,some (lo,hi))→o.guard=none→cls X o.op=.r →
    ∃v,opA X (execL X) (trE tr k) o.op (trS tr k)=some (v,trS tr (k+1))∧(⟨lo,hi,trE tr k,rcOp X o.op,v⟩:Pb)∈P'
 |[],i,l',e,s,H,P,r,tr,h1,h2,h3=>by
  have hl':l'=[]:=by
   simp only[rcOps] at h1
   cases l' with
   |nil=>rfl
   |cons x y=>simp at h1
  subst hl'
  simp only[ropsC] at h2
  refine⟨P,?_,fun p hp=>hp,fun k o q lo hi hk=>by simp at hk⟩
  simp only[wIdx,List.map_nil,List.append_nil]
  cases hb:pbsOk X base H P with
  |true=>rfl
  |false=>rw[hb] at h2;cases h2
 |o::l,i,l',e,s,H,P,r,tr,h1,h2,h3=>by
  simp only[rcOps] at h1
  split at h1
  ·rename_i g r' e1 e2
   cases l' with
   |nil=>simp at h1
   |cons x l2 =>
    obtain⟨ro,c⟩:=x
    simp only[List.map_cons,Option.some.injEq,List.cons.injEq] at h1
    obtain⟨rfl,rfl⟩:=h1
    simp only[ropsC] at h2
    split at h2
    ·rename_i v s1 hv
     have hst:=roStep e1 hv
     simp only[goD,hst] at h3
     split at h3
     ·rename_i tr' g1
      cases h3
      cases hb:(!(true&&(cls X o.op).isW)||noneC base s1 l2) with
      |false=>rw[hb] at h2;cases h2
      |true =>
       rw[hb] at h2
       simp only[cond_true] at h2
       obtain⟨P',q1,q2,q3⟩:=probes hlr l (i+1) l2 _ s1 _ _ r tr' e2 h2 g1
       obtain⟨k1,k2,_⟩:=goD_spec _ _ _ _ _ g1
       have hts:∀n,trS ((e,s)::tr') (n+1)=trS tr' n:=fun n=>by simp[trS]
       have hte:∀n,trE ((e,s)::tr') (n+1)=trE tr' n:=fun n=>by simp[trE]
       have hs1:trS tr' 0=s1:=by simp[trS,k2]
       have hmap:(wIdx X ops (i+1) l).map (fun j=>trS ((e,s)::tr') (j+1-i))=(wIdx X ops (i+1) l).map (fun j=>trS tr' (j+1-(i+1))):=by
        refine List.map_congr_left fun j hj=>?_
        obtain⟨k,_,_,hjk,_⟩:=(wIdx_mem l (i+1) j).1 hj
        rw[show j+1-i=(j+1-(i+1))+1 by omega,hts]
       refine⟨P',?_,fun p hp=>q2 p (by unfold addP;split <;> simp[hp]),fun k o' q lo hi hk1 hk2 hg hc=>?_⟩
       ·have hlt:late X ops i=false:=by simp[late,hlr]
        simp only[wIdx,hlt,Bool.not_false,Bool.and_true]
        cases hw:(cls X o.op).isW with
        |true =>
         rw[hw] at q1
         simp only[if_true,List.map_cons]
         rw[hmap,show i+1-i=0+1 by omega,hts,hs1]
         simpa using q1
        |false =>
         rw[hw] at q1
         simp only[Bool.false_eq_true,if_false]
         rw[hmap]
         simpa using q1
       ·cases k with
        |zero =>
         simp at hk1 hk2
         obtain⟨_,rfl⟩:=hk2
         subst hk1
         have hgn:g=none:=by rw[hg] at e1;simp[rcG] at e1;exact e1.symm
         subst hgn
         simp only[wantR,cond_true,hc,Cls.isA,Bool.and_false,Bool.false_eq_true,if_false] at hv
         have:=rop_spec hv
         refine⟨v,?_,?_⟩
         ·rw[hts,hs1];exact this
         ·exact q2 _ (by simp[addP,trE])
        |succ k =>
         obtain⟨v',w1,w2⟩:=q3 k o' q lo hi (by simpa using hk1) (by simpa using hk2) hg hc
         refine⟨v',?_,?_⟩
         ·rw[hte,hts,hts];exact w1
         ·rw[hte];exact w2
     ·cases h3
    ·cases h2
  ·cases h1
theorem drc_spec {l:List RO}{e:Env}{s:St}{r:Env×St}(hrc:rcOps X ops true 0 ops.toList=some l)(hopen:openD X ops=true)(hokd:okD X ops=true)(hn:noneR s.next s l=true)
  (hrC:ropsC X s.next (l.zip (csD X ops)) e { s with next:=s.next+ops.size } [{ s with next:=s.next+ops.size }] []=some r):drawA X (execL X) ops e s=some r:=by
 have hok:=okD_ok hokd
 have hlen:l.length=ops.size:=by rw[rcOps_length _ _ _ hrc];simp
 have hz1:(l.zip (csD X ops)).map Prod.fst=l:=by rw[List.map_fst_zip];rw[hlen];simp[csD]
 have hr:ropsD X s.next l e { s with next:=s.next+ops.size }=some r:=by
  have:=ropsC_D _ _ _ _ _ hrC
  rw[hz1] at this;exact this
 unfold openD at hopen
 simp only[Bool.and_eq_true,Bool.not_eq_true',List.all_eq_true,List.mem_range] at hopen
 obtain⟨hlr,hall⟩:=hopen
 obtain⟨tr,g1,g2,g3⟩:=ropsD_go _ _ _ _ _ hrc hr
 obtain⟨P',hP1,_,hP2⟩:=probes hlr ops.toList 0 (l.zip (csD X ops)) e _ _ [] r tr (by rw[hz1];exact hrc) hrC g1
 obtain⟨k1,k2,k3⟩:=goD_spec _ _ _ _ _ g1
 have k1:tr.length=ops.size+1:=by simpa using k1
 have ht:Tr0 X (execL X) ops s.next (trE tr) (trS tr):=⟨fun i o ho=>by
  have:=k3 i o (by simpa using ho)
  simpa using this⟩
 have hS0:trS tr 0={ s with next:=s.next+ops.size }:=by simp[trS,k2]
 have hlate:∀i,late X ops i=false:=fun i=>by simp[late,hlr]
 have wmem:∀j,j∈wIdx X ops 0 ops.toList↔∃o,ops[j]? = some o∧cls X o.op=.w:=by
  intro j
  rw[wIdx_mem]
  constructor
  ·rintro⟨k,o,h1,rfl,h3⟩
   simp only[Bool.and_eq_true] at h3
   exact⟨o,by simpa using h1,isW_iff.1 h3.1⟩
  ·rintro⟨o,h1,h3⟩
   exact⟨j,o,by simpa using h1,by omega,by simp[isW_iff.2 h3,hlate]⟩
 have amem:∀j,kA X ops j→j∈aIdx X 0 ops.toList:=by
  have:∀(l:List Oper) (i k:Nat) o,l[k]? = some o→cls X o.op=.a→i+k∈aIdx X i l:=by
   intro l
   induction l with
   |nil=>intro i k o h;simp at h
   |cons x l ih =>
    intro i k o h hc
    unfold aIdx
    cases k with
    |zero=>simp at h;subst h;rw[if_pos (isA_iff.2 hc)];exact List.mem_cons_self ..
    |succ k =>
     have:=ih (i+1) k o (by simpa using h) hc
     rw[show i+(k+1)=i+1+k by omega]
     split
     ·exact List.mem_cons_of_mem _ this
     ·exact this
  rintro j ⟨o,ho,hc⟩
  have:=this ops.toList 0 j o (by simpa using ho) hc
  simpa using this
 have hsts:=statesD_ok (tr:=tr) (wIdx X ops 0 ops.toList) fun j hj=>by
  obtain⟨o,ho,_⟩:=(wmem j).1 hj
  have:=(Array.getElem?_eq_some_iff.1 ho).1
  omega
 unfold drawA
 rw[g1]
 simp only[hsts]
 have hnoneM:∀m,m=0∨(∃j,m=j+1∧j∈wIdx X ops 0 ops.toList)→∀i,m≤i→kA X ops i→(trS tr m).get (s.next+i)=none:=by
  rintro m (rfl|⟨j,rfl,hj⟩) i hi ⟨o,ho,hc⟩
  ·rw[hS0]
   have:=noneR_start _ _ _ hrc hn i o (by simpa using ho) (isA_iff.2 hc)
   rw[Nat.zero_add] at this
   exact this
  ·obtain⟨oj,hoj,hcj⟩:=(wmem j).1 hj
   have:=g3 j oj (by simpa using hoj) (isW_iff.2 hcj) i (by omega) o (by simpa using ho) (isA_iff.2 hc)
   simpa using this
 have hss:∀m s1,(m,s1)∈(0,({ s with next:=s.next+ops.size }:St))::((wIdx X ops 0 ops.toList).map fun j=>(j+1,trS tr (j+1)))→(m=0∨∃j,m=j+1∧j∈wIdx X ops 0 ops.toList)∧s1=trS tr m:=by
  intro m s1 hm
  rcases List.mem_cons.1 hm with e|hm
  ·cases e;exact⟨.inl rfl,hS0.symm⟩
  ·obtain⟨j,hj,e⟩:=List.mem_map.1 hm
   cases e
   exact⟨.inr ⟨j,rfl,hj⟩,rfl⟩
 have hnA:noneAll X ops s.next ((0,({ s with next:=s.next+ops.size }:St))::((wIdx X ops 0 ops.toList).map fun j=>(j+1,trS tr (j+1))))=true:=noneAll_of _ fun m s1 hm i hi hk=>by
  obtain⟨h1,rfl⟩:=hss m s1 hm
  exact hnoneM m h1 i hi hk
 have hchk:checkR X (execL X) ops s.next (wIdx X ops 0 ops.toList) (aIdx X 0 ops.toList) ((0,({ s with next:=s.next+ops.size }:St))::((wIdx X ops 0 ops.toList).map fun j=>(j+1,trS tr (j+1)))) tr 0 ops.toList tr=true:=by
  refine checkR_of _ _ _ fun i o es ho htr hw=>?_
  have ho':ops[i]? = some o:=by simpa using ho
  have hi:i<ops.size:=(Array.getElem?_eq_some_iff.1 ho').1
  have hes:es=(trE tr i,trS tr i):=by simp[trE,trS,htr]
  subst hes
  simp only at hw
  rw[Nat.zero_add]
  have hop:cls X o.op≠.a→∃v,opA X (execL X) (trE tr i) o.op (trS tr i)=some (v,trS tr (i+1)):=fun hne=>by
   rcases stepD_cases (ht.step i o ho') with⟨h1,_⟩|⟨_,v,_,⟨hc,_⟩|⟨_,h3⟩⟩
   ·rw[hw] at h1;cases h1
   ·exact absurd (isA_iff.1 hc) hne
   ·exact⟨v,h3⟩
  have hone:(cls X o.op=.r∨cls X o.op=.q)→calmI X ops i=true→∃m,rangeR ops (wIdx X ops 0 ops.toList) ((0,({ s with next:=s.next+ops.size }:St))::((wIdx X ops 0 ops.toList).map fun j=>(j+1,trS tr (j+1)))) i=[(m,trS tr m)] ∧
    addA ops s.next i m tr (aIdx X 0 ops.toList) (trS tr m)=trS tr i:=by
   intro hk hst'
   unfold calmI at hst'
   rw[Bool.and_eq_true] at hst'
   obtain⟨ha,hwb⟩:=hst'
   rw[List.all_eq_true] at ha hwb
   have hab:∀k,k<i→kA X ops k→bef ops k i=true:=fun k hki hka=>by
    have:=ha k (amem k hka)
    simpa[hki] using this
   have hbw:∀k∈wIdx X ops 0 ops.toList,(bef ops k i=true↔k<i)∧(bef ops i k=true↔i<k):=by
    intro k hkm
    have:=hwb k hkm
    simp only[Bool.or_eq_true] at this
    rcases this with h1|h1
    ·have:=hok.bef_lt i k h1
     refine⟨⟨fun _=>this,fun _=>h1⟩,⟨fun h2=>?_,fun h2=>by omega⟩⟩
     have:=hok.bef_lt k i h2;omega
    ·have:=hok.bef_lt k i h1
     refine⟨⟨fun h2=>?_,fun h2=>by omega⟩,⟨fun _=>this,fun _=>h1⟩⟩
     have:=hok.bef_lt i k h2;omega
   have hne:∀k∈wIdx X ops 0 ops.toList,k≠i:=fun k hkm e=>by
    obtain⟨o2,ho2,hc2⟩:=(wmem k).1 hkm
    rw[e,ho'] at ho2;cases ho2
    rcases hk with hk|hk <;> rw[hk] at hc2 <;> cases hc2
   have hcnt:countL (fun j=>!bef ops i j) (wIdx X ops 0 ops.toList)=countL (fun j=>bef ops j i) (wIdx X ops 0 ops.toList):=by
    refine Nat.le_antisymm (countL_mono _ fun x hx h=>?_) (countL_mono _ fun x hx h=>?_)
    ·have h1:bef ops i x=false:=by simpa using h
     refine ((hbw x hx).1).2 (Nat.lt_of_not_le fun hle=>?_)
     have:=((hbw x hx).2).2 (by have:=hne x hx;omega)
     rw[h1] at this;cases this
    ·have h1:=((hbw x hx).1).1 h
     simp only[Bool.not_eq_true']
     cases hb:bef ops i x with
     |false=>rfl
     |true=>have:=((hbw x hx).2).1 hb;omega
   unfold rangeR
   rw[hcnt]
   generalize hq:countL (fun j=>bef ops j i) (wIdx X ops 0 ops.toList)=q
   have hsort:=List.pairwise_iff_getElem.1 (wIdx_sorted (X:=X) (ops:=ops) ops.toList 0)
   have hql:q≤(wIdx X ops 0 ops.toList).length:=by
    rw[←hq]
    generalize wIdx X ops 0 ops.toList=L
    induction L with
    |nil=>exact Nat.le_refl _
    |cons x L ih=>simp only[countL,List.length_cons];split <;> omega
   have hfirst:∀n (hn:n<(wIdx X ops 0 ops.toList).length),(n<q↔(wIdx X ops 0 ops.toList)[n]<i):=by
    obtain⟨p,hp1,hp2,hp3⟩:∃p,p≤(wIdx X ops 0 ops.toList).length∧(∀n (hn:n<(wIdx X ops 0 ops.toList).length),n<p→(wIdx X ops 0 ops.toList)[n]<i)∧(∀n (hn:n<(wIdx X ops 0 ops.toList).length),p≤n→¬(wIdx X ops 0 ops.toList)[n]<i):=by
     rcases last_of (fun n=>∃hn:n<(wIdx X ops 0 ops.toList).length,(wIdx X ops 0 ops.toList)[n]<i) (wIdx X ops 0 ops.toList).length with h|⟨n0,h1,⟨h2,h3⟩,h4⟩
     ·exact⟨0,Nat.zero_le _,fun n _ hn=>by omega,fun n hn _ hlt=>h n hn ⟨hn,hlt⟩⟩
     ·refine⟨n0+1,h1,fun n hn hlt=>?_,fun n hn hle hlt=>h4 n (by omega) hn ⟨hn,hlt⟩⟩
      by_cases e:n=n0
      ·subst e;exact h3
      ·have:=hsort n n0 hn h2 (by omega);omega
    have hpq:p=q:=by
     rw[←hq]
     refine (countL_split _ p hp1 (fun x hx=>?_) (fun x hx=>?_)).symm
     ·obtain⟨n,hn,rfl⟩:=List.mem_iff_getElem.1 hx
      rw[List.getElem_take]
      have hn':n<p∧n<(wIdx X ops 0 ops.toList).length:=by rw[List.length_take] at hn;omega
      exact ((hbw _ (List.getElem_mem hn'.2)).1).2 (hp2 n hn'.2 hn'.1)
     ·obtain⟨n,hn,rfl⟩:=List.mem_iff_getElem.1 hx
      rw[List.getElem_drop]
      rw[List.length_drop] at hn
      have:=hp3 (p+n) (by omega) (by omega)
      cases hb:bef ops (wIdx X ops 0 ops.toList)[p+n] i with
      |false=>rfl
      |true=>exact absurd (((hbw _ (List.getElem_mem (by omega))).1).1 hb) this
    subst hpq
    exact fun n hn=>⟨hp2 n hn,fun hlt=>Nat.lt_of_not_le fun hle=>hp3 n hn hle hlt⟩
   have fin:∀m,(m=0∨∃j,m=j+1∧j∈wIdx X ops 0 ops.toList)→m≤i→(∀k∈wIdx X ops 0 ops.toList,k<i→k<m) →
     addA ops s.next i m tr (aIdx X 0 ops.toList) (trS tr m)=trS tr i:=fun m hm hmi hwm =>
    addA_here ht k1 hok hi hmi (fun k ok h1 h2 hok' hc=>by
     have:=hwm k ((wmem k).2 ⟨ok,hok',hc⟩) h2;omega) hab (fun k h1 h2=>hnoneM m hm k h1 h2)
   cases q with
   |zero =>
    refine⟨0,by simp[hS0],fin 0 (.inl rfl) (Nat.zero_le _) fun k hkm hki=>?_⟩
    obtain⟨n,hn,rfl⟩:=List.mem_iff_getElem.1 hkm
    have:=(hfirst n hn).2 hki;omega
   |succ q =>
    have hqn:q<(wIdx X ops 0 ops.toList).length:=by omega
    have hqi:=(hfirst q hqn).1 (by omega)
    refine⟨(wIdx X ops 0 ops.toList)[q]+1,?_,fin _ (.inr ⟨_,rfl,List.getElem_mem _⟩) (by omega) fun k hkm hki=>?_⟩
    ·rw[List.drop_take]
     rw[show q+1+1-(q+1)=1 by omega,List.drop_succ_cons,List.drop_eq_getElem_cons (by simpa using hqn)]
     simp
    ·obtain⟨n,hn,rfl⟩:=List.mem_iff_getElem.1 hkm
     have hnq:=(hfirst n hn).2 hki
     by_cases e:n=q
     ·subst e;omega
     ·have:=hsort n q hn hqn (by omega);omega
  have hcase:=hall i hi
  rw[ho'] at hcase
  simp only at hcase
  refine⟨fun hk=>?_,fun hk=>?_⟩
  ·cases hcm:calmI X ops i with
   |true =>
    obtain⟨v,hv⟩:=hop (by rw[hk];simp)
    obtain⟨m,hm1,hm2⟩:=hone (.inl hk) hcm
    refine⟨v,_,hv,?_⟩
    rw[hm1]
    simp only[readsSame,hm2,hv,same_refl,Bool.and_self]
   |false =>
    rw[hk,hcm] at hcase
    simp only[Cls.isR,Bool.true_or,Bool.not_true,Bool.false_or,Bool.true_and,Bool.and_eq_true,Option.isNone_iff_eq_none,List.all_eq_true,Bool.not_eq_true'] at hcase
    obtain⟨hgn,hno⟩:=hcase
    have hcs:(l.zip (csD X ops))[i]? = some ((l[i]'(by omega)),some (countL (fun j=>bef ops j i) (wIdx X ops 0 ops.toList),countL (fun j=>!bef ops i j) (wIdx X ops 0 ops.toList))):=by
     rw[List.getElem?_zip_eq_some]
     refine⟨by simp[List.getElem?_eq_getElem (show i<l.length by omega)],?_⟩
     simp only[csD,List.getElem?_map,List.getElem?_range hi,Option.map_some,opC,ho',hk,hcm,Cls.isR]
     rfl
    obtain⟨v,hv,hmem⟩:=hP2 i o _ _ _ (by simpa using ho') hcs hgn hk
    refine⟨v,_,hv,?_⟩
    have hpl:=pbsOk_mem _ hP1 _ hmem
    simp only at hpl
    have hrng:∀x∈rangeR ops (wIdx X ops 0 ops.toList) ((0,({ s with next:=s.next+ops.size }:St))::((wIdx X ops 0 ops.toList).map fun j=>(j+1,trS tr (j+1)))) i,pb1 v (rop X s.next none (trE tr i) x.2 (rcOp X o.op))=true:=by
     intro x hx
     refine pbL_mem _ hpl x.2 ?_
     have:(([{ s with next:=s.next+ops.size }]:List St)++(wIdx X ops 0 ops.toList).map (fun j=>trS tr (j+1-0)))=((0,({ s with next:=s.next+ops.size }:St))::((wIdx X ops 0 ops.toList).map fun j=>(j+1,trS tr (j+1)))).map Prod.snd:=by
      simp[Function.comp_def]
     rw[this,←List.map_take,←List.map_drop]
     exact List.mem_map_of_mem hx
    generalize rangeR ops (wIdx X ops 0 ops.toList) ((0,({ s with next:=s.next+ops.size }:St))::((wIdx X ops 0 ops.toList).map fun j=>(j+1,trS tr (j+1)))) i=L at hrng
    induction L with
    |nil=>rfl
    |cons x L ih =>
     obtain⟨m,s1⟩:=x
     have h0:=hrng (m,s1) (List.mem_cons_self ..)
     simp only[readsSame]
     rw[addA_no _ hno]
     unfold pb1 at h0
     split at h0
     ·rename_i u s2 hu
      simp only at hu
      simp only[rop_spec hu,h0,Bool.true_and]
      exact ih fun x hx=>hrng x (List.mem_cons_of_mem _ hx)
     ·cases h0
  ·cases hcm:calmI X ops i with
   |true =>
    obtain⟨v,hv⟩:=hop (by rw[hk];simp)
    obtain⟨m,hm1,hm2⟩:=hone (.inr hk) hcm
    obtain⟨_,c,vs,us,e1,e2,e3,_⟩:=cls_c hk hv
    refine⟨c,vs,us,e1,e2,e3,?_⟩
    rw[hm1]
    simp only[argsSame,hm2,e3,sames_refl,Bool.and_self]
   |false =>
    rw[hk,hcm] at hcase
    simp[Cls.isR] at hcase
 rw[lateIds_nil hlr]
 simp only[lateOk,hchk,hnA,Bool.and_self,if_true]
 exact g2
end
section
variable (X:Cx){β:Type}(back:β)(fin:Fl→β)(ks:List K)
noncomputable def goC (base:Nat)(l:List ROC)(e:Env)(s:St)(H:List St)(P:List Pb):β:=match ropsC X base l e s H P with
 |some (e,s)=>goN X fin ks e s
 |none=>back
noncomputable def bndC (base:Nat)(x:Option (AV×St))(d:Option Nat)(w:Bool)(c:Option (Nat×Nat))(op:ROp)(l:List ROC)(e:Env)(H:List St)(P:List Pb):β:=match x with
 |some (v,s)=>bif !w||noneC base s l then goC X back fin ks base l (setDst e d v) s (bif w then H++[s] else H) (addP c e op v P) else back
 |none=>back
noncomputable def backC (c:Code)(e:Env)(s:St):β:=pop X fin ks (execL X c e s)
variable (base:Nat)(e:Env)(s:St)(H:List St)(P:List Pb)(l:List ROC)
theorem goC_nil:goC X back fin ks base [] e s H P=bif pbsOk X base H P then goN X fin ks e s else back:=by
 simp only[goC,ropsC]
 cases pbsOk X base H P <;> rfl
theorem goC_cons (d:Option Nat)(a:Option Nat)(w:Bool)(op:ROp)(c:Option (Nat×Nat)) :
  goC X back fin ks base ((⟨d,none,a,w,op⟩,c)::l) e s H P=bndC X back fin ks base (rop X base a e s op) d w c op l e H P:=by
 simp only[goC,ropsC,bndC,wantR,cond_true]
 cases rop X base a e s op with
 |none=>rfl
 |some x =>
  simp only
  cases (!w||noneC base x.2 l) <;> rfl
theorem bndC_some0 (v:AV)(d:Option Nat)(op:ROp):bndC X back fin ks base (some (v,s)) d false none op l e H P=goC X back fin ks base l (setDst e d v) s H P:=(fun h=>h) rfl
theorem bndC_some0c (v:AV)(d:Option Nat)(lo hi:Nat)(op:ROp):bndC X back fin ks base (some (v,s)) d false (some (lo,hi)) op l e H P=goC X back fin ks base l (setDst e d v) s H (⟨lo,hi,e,op,v⟩::P):=(fun h=>h) rfl
theorem bndC_some1 (v:AV)(d:Option Nat)(op:ROp):bndC X back fin ks base (some (v,s)) d true none op l e H P=bif noneC base s l then goC X back fin ks base l (setDst e d v) s (H++[s]) P else back:=(fun h=>h) rfl
theorem noneC_nil:noneC base s []=true:=(fun h=>h) rfl
theorem noneC_cons0 (d:Option Nat)(g:Option (Nat×Bool))(w:Bool)(op:ROp)(c:Option (Nat×Nat)):noneC base s ((⟨d,g,none,w,op⟩,c)::l)=noneC base s l:=by
 simp[noneC,noneR]
theorem noneC_cons1 (i:Nat)(d:Option Nat)(g:Option (Nat×Bool))(w:Bool)(op:ROp)(c:Option (Nat×Nat)):noneC base s ((⟨d,g,some i,w,op⟩,c)::l)=((s.get (base+i)).isNone&&noneC base s l):=by
 simp[noneC,noneR]
theorem pbsOk_nil:pbsOk X base H []=true:=(fun h=>h) rfl
theorem pbsOk_cons (lo hi:Nat)(op:ROp)(v:AV):pbsOk X base H (⟨lo,hi,e,op,v⟩::P)=(pbL X base e op v ((H.take (hi+1)).drop lo)&&pbsOk X base H P):=(fun h=>h) rfl
theorem pbL_nil (op:ROp)(v:AV):pbL X base e op v []=true:=(fun h=>h) rfl
theorem pbL_cons (op:ROp)(v:AV)(L:List St):pbL X base e op v (s::L)=(pb1 v (rop X base none e s op)&&pbL X base e op v L):=(fun h=>h) rfl
def pbO (v:AV)(x:Option AV):Bool:=match x with
 |some u=>same u v
 |none=>false
theorem pb1_pure (v:AV)(x:Option AV):pb1 v (yA x s)=pbO v x:=by cases x <;> rfl
theorem pbO_some (u v:AV):pbO v (some u)=same u v:=(fun h=>h) rfl
theorem pb_ld1 (v:AV)(x:Opd):pb1 v (rop X base none e s (.ld1 x))=pbO v (ld1 (evO e x) s):=pb1_pure s v _
theorem pb_ldn (v:AV)(n:Nat)(x:Opd):pb1 v (rop X base none e s (.ldn n x))=pbO v (ldn n (evO e x) s):=pb1_pure s v _
theorem pb_lenL (v:AV)(x:Opd):pb1 v (rop X base none e s (.lenL x))=pbO v (lenRL (evO e x)):=pb1_pure s v _
theorem app_cons {α:Type}(x:α)(l m:List α):(x::l)++m=x::(l++m):=(fun h=>h) rfl
theorem app_nil {α:Type}(m:List α):([]:List α)++m=m:=(fun h=>h) rfl
theorem go_drc [Stat] {c:Code}{n:Nat}{l:List ROC}(h:rcDrc X c=some (n,l))(fin:Fl→β)(ks:List K)(e:Env)(s:St):go X fin ks (.raw c) e s =
  bif noneC s.next s l then goC X (backC X fin ks c e s) fin ks s.next l e { s with next:=s.next+n } [{ s with next:=s.next+n }] [] else backC X fin ks c e s:=by
 unfold rcDrc at h
 split at h
 ·rename_i id ops d
  split at h
  ·rename_i hc
   simp only[Bool.and_eq_true] at hc
   split at h
   ·rename_i l0 hl
    cases h
    have hz:noneC s.next s (l0.zip (csD X ops))=noneR s.next s l0:=by
     unfold noneC
     rw[List.map_fst_zip]
     rw[rcOps_length _ _ _ hl];simp[csD]
    rw[hz]
    cases hn:noneR s.next s l0 with
    |false=>rfl
    |true =>
     simp only[cond_true,goC]
     split
     ·rename_i e1 s1 h1
      have:=drc_spec hl hc.1.2 hc.2 hn h1
      simp only[go,den,goN]
      rw[execL_eq]
      simp only[stepA,hc.1.1,if_true,this]
     ·rfl
   ·cases h
  ·cases h
 ·cases h
end
@[congr] theorem bndC_congr {X:Cx} {β:Type} {back:β} {fin:Fl→β} {ks:List K} {base:Nat} {x x':Option (AV×St)} {d:Option Nat} {w:Bool} {c:Option (Nat×Nat)} {op:ROp} {l:List ROC} {e:Env} {H:List St} {P:List Pb} (h:x=x'):bndC X back fin ks base x d w c op l e H P=bndC X back fin ks base x' d w c op l e H P:=by rw[h]
attribute [go_sem ↓] goC_nil goC_cons bndC_some0 bndC_some0c bndC_some1 noneC_nil noneC_cons0 noneC_cons1 pbsOk_nil pbsOk_cons pbL_nil pbL_cons pb_ld1 pb_ldn pb_lenL app_cons app_nil List.take_succ_cons List.take_zero List.drop_succ_cons List.drop_zero
attribute [go_sem] pbO_some same_refl
end Go.Am
namespace Go.Am
open Go
variable [MaxLen]
set_option maxRecDepth 100000
set_option maxHeartbeats 8000000
def raws:RC→List Code
 |.seq a b=>raws a++raws b
 |.cond _ a b=>raws a++raws b
 |.block _ b=>raws b
 |.loop b=>raws b
 |.raw c=>[c]
 |_=>[]
noncomputable def rawAt (f k:Nat):Code:=match U.fn f with
 |some fn=>match fn.body with
  |some c=>((raws (rc U c))[k]?).getD .skip
  |none=>.skip
 |none=>.skip
def r36:RC:=(.seq (.ops [o 8 (.mov (.v (.bool false)))]) (.seq (.seq (.ops [om 9 2,o 10 (.bin .neq 3 true (.t 9) (.v (.int .i64 0)))]) (.cond (.t 10) (.seq (.ops [om 11 0,o 12 (.lenL (.t 11)),o 13 (.bin .eql 3 true (.t 12) (.v (.int .i64 0))),om 14 13,oT 15 14 (.mov (.t 1)),oT 16 14 (.mov (.t 2)),oT 17 14 (.bin .eql 3 false (.t 15) (.t 16)),o 18 (.pick (.t 14) (.t 17) (.v (.bool false))),om 8 18]) .ret) .skip)) (.seq (.ops [om 19 1,o 20 (.bin .eql 26 true (.t 19) (.v (.int .i64 0))),om 21 20,oT 22 21 (.mov (.t 0)),oT 23 21 (.mov (.t 3)),oT 24 21 (.call 56 [(.t 22),(.t 23)]),o 25 (.pick (.t 21) (.t 24) (.v (.bool false))),om 8 25]) .ret)))
theorem k36:fnRC 36=some ([.tmp 8],r36):=by kernel_rfl
def r54:RC:=(.seq (.ops [o 8 (.mov (.v (.bool false)))]) (.seq (.seq (.ops [om 9 2,o 10 (.bin .neq 3 true (.t 9) (.v (.int .i64 0)))]) (.cond (.t 10) (.seq (.ops [om 11 0,o 12 (.bin .eql 3 true (.t 11) (.v (.int .i64 0))),om 13 12,oT 14 13 (.mov (.t 1)),oT 15 13 (.mov (.t 2)),oT 16 13 (.bin .eql 3 false (.t 14) (.t 15)),o 17 (.pick (.t 13) (.t 16) (.v (.bool false))),om 8 17]) .ret) .skip)) (.seq (.ops [om 18 1,o 19 (.bin .eql 26 true (.t 18) (.v (.int .i64 0))),om 20 19,oT 21 20 (.mov (.t 0)),oT 22 20 (.mov (.t 3)),oT 23 20 (.bin .eql 3 false (.t 21) (.t 22)),o 24 (.pick (.t 20) (.t 23) (.v (.bool false))),om 8 24]) .ret)))
theorem k54:fnRC 54=some ([.tmp 8],r54):=by kernel_rfl
def r56:RC:=(.seq (.ops [o 4 (.mov (.v (.bool false)))]) (.seq (.ops [om 5 0,om 6 1,o 7 (.call 109 [(.t 5),(.t 6)]),om 4 7]) .ret))
theorem k56:fnRC 56=some ([.tmp 4],r56):=by kernel_rfl
def r109_l0:RC:=(.seq (.seq (.ops [om 11 5,om 12 0,o 13 (.lenL (.t 12)),o 14 (.bin .lss 3 false (.t 11) (.t 13))]) (.cond (.t 14) .skip (.exit 0))) (.seq (.block 1 (.seq (.drw 9 [om 17 0,om 18 5,o 19 (.ixa 1 (.t 17) (.t 18)),o 20 (.ld1 (.t 19)),om 21 1,om 22 5,o 23 (.ixa 1 (.t 21) (.t 22)),o 24 (.ld1 (.t 23)),o 25 (.bin .neq 3 false (.t 20) (.t 24))]) (.cond (.t 25) (.seq (.ops [o 4 (.mov (.v (.bool false)))]) .ret) .skip))) (.ops [om 15 5,o 16 (.bin .add 3 true (.t 15) (.v (.int .i64 1))),om 5 16])))
def r109:RC:=(.seq (.ops [o 4 (.mov (.v (.bool false)))]) (.seq (.seq (.ops [om 6 0,o 7 (.lenL (.t 6)),om 8 1,o 9 (.lenL (.t 8)),o 10 (.bin .neq 3 false (.t 7) (.t 9))]) (.cond (.t 10) (.seq (.ops [o 4 (.mov (.v (.bool false)))]) .ret) .skip)) (.seq (.seq (.ops [o 5 (.mov (.v (.int .i64 0)))]) (.block 0 (.loop r109_l0))) (.seq (.ops [o 4 (.mov (.v (.bool true)))]) .ret))))
theorem k109:fnRC 109=some ([.tmp 4],r109):=by kernel_rfl
def r125:RC:=(.seq (.ops [o 4 (.mov (.v (.bool false)))]) (.seq (.ops [om 5 0,om 6 1,o 7 (.call 179 [(.t 5),(.t 6)]),o 8 (.bin .geq 3 true (.t 7) (.v (.int .i64 0))),om 4 8]) .ret))
theorem k125:fnRC 125=some ([.tmp 4],r125):=by kernel_rfl
def r179_l0:RC:=(.seq (.ops [o 9 (.bin .lss 3 false (.t 8) (.t 7))]) (.seq (.cond (.t 9) .skip (.exit 0)) (.seq (.block 1 (.seq (.ops [om 10 8,om 5 10]) (.seq (.ops [om 11 1,om 12 0,om 13 5,o 14 (.ixa 1 (.t 12) (.t 13)),o 15 (.ld1 (.t 14)),o 16 (.callv (.t 11) [(.t 15)])]) (.cond (.t 16) (.seq (.ops [om 17 5,om 4 17]) .ret) .skip)))) (.ops [o 18 (.bin .add 3 true (.t 8) (.v (.int .i64 1))),om 8 18]))))
def r179:RC:=(.seq (.ops [o 4 (.mov (.v (.int .i64 0)))]) (.seq (.seq (.ops [om 6 0,o 7 (.lenL (.t 6)),o 8 (.mov (.v (.int .i64 0)))]) (.block 0 (.loop r179_l0))) (.seq (.ops [o 4 (.mov (.v (.int .i64 (-1))))]) .ret)))
theorem k179:fnRC 179=some ([.tmp 4],r179):=by kernel_rfl
def r41_l0:RC:=(.seq (.seq (.ops [om 34 9,om 35 7,o 36 (.lenL (.t 35)),o 37 (.bin .lss 3 false (.t 34) (.t 36))]) (.cond (.t 37) .skip (.exit 2))) (.seq (.block 3 (.seq (.drw 15 [om 40 3,o 41 (.fa 1 (.t 1)),o 42 (.ld1 (.t 41)),om 43 4,om 44 6,o 45 (.ixa 1 (.t 43) (.t 44)),o 46 (.ld1 (.t 45)),o 47 (.ixa 1 (.t 42) (.t 46)),o 48 (.ld1 (.t 47)),om 49 9,o 50 (.ixa 1 (.t 48) (.t 49)),o 51 (.ld1 (.t 50)),o 52 (.ixa 1 (.t 40) (.t 51)),o 53 (.ld1 (.t 52)),om 10 53]) (.seq (.seq (.ops [om 54 4,om 55 10,o 56 (.call 107 [(.t 54),(.t 55)]),o 57 (.bin .lss 3 true (.t 56) (.v (.int .i64 0)))]) (.cond (.t 57) (.ops [om 58 4,om 59 10,o 60 (.bsl 3 1 1 [(.int .i64 0)] [(0,1,(.t 59))]),o 61 (.app 3 1 8 (.t 58) (.t 60)),om 4 61]) .skip)) (.seq (.ops [om 62 7,om 63 9,om 64 4,om 65 10,o 66 (.call 107 [(.t 64),(.t 65)]),o 67 (.ixa 1 (.t 62) (.t 63)),oS (.st 1 (.t 67) (.t 66))]) (.drw 15 [om 68 8,om 69 9,o 70 (.fa 2 (.t 1)),o 71 (.ld1 (.t 70)),om 72 4,om 73 6,o 74 (.ixa 1 (.t 72) (.t 73)),o 75 (.ld1 (.t 74)),o 76 (.ixa 1 (.t 71) (.t 75)),o 77 (.ld1 (.t 76)),om 78 9,o 79 (.ixa 1 (.t 77) (.t 78)),o 80 (.ld1 (.t 79)),o 81 (.ixa 1 (.t 68) (.t 69)),
 ⟨none,none,none,true,.st 1 (.t 81) (.t 80)⟩]))))) (.ops [om 38 9,o 39 (.bin .add 3 true (.t 38) (.v (.int .i64 1))),om 9 39])))
def r41_l1:RC:=(.seq (.seq (.ops [om 20 6,om 21 4,o 22 (.lenL (.t 21)),o 23 (.bin .lss 3 false (.t 20) (.t 22))]) (.cond (.t 23) .skip (.exit 0))) (.seq (.block 1 (.seq (.ops [o 26 (.fa 0 (.t 1)),o 27 (.ld1 (.t 26)),o 28 (.bin .shl 3 true (.v (.int .i64 1)) (.t 27)),o 29 (.raw (.makeSlice 40 (.tmp 28) (.tmp 28))),om 7 29]) (.seq (.ops [o 30 (.fa 0 (.t 1)),o 31 (.ld1 (.t 30)),o 32 (.bin .shl 3 true (.v (.int .i64 1)) (.t 31)),o 33 (.raw (.makeSlice 43 (.tmp 32) (.tmp 32))),om 8 33]) (.seq (.seq (.ops [o 9 (.mov (.v (.int .i64 0)))]) (.block 2 (.loop r41_l0))) (.seq (.ops [o 82 (.fa 1 (.t 5)),o 83 (.ld1 (.t 82)),om 84 7,o 85 (.bsl 40 1 1 [.nils] [(0,1,(.t 84))]),o 86 (.app 40 1 24 (.t 83) (.t 85)),o 87 (.fa 1 (.t 5)),oS (.st 1 (.t 87) (.t 86))]) (.ops [o 88 (.fa 2 (.t 5)),o 89 (.ld1 (.t 88)),om 90 8,o 91 (.bsl 43 1 1 [.nils] [(0,1,(.t 90))]),o 92 (.app 43 1 24 (.t 89) (.t 91)),o 93 (.fa 2 (.t 5)),oS (.st 1 (.t 93) (.t 92))])))))) (.ops [om 24 6,o 25 (.bin .add 3 true (.t 24) (.v (.int .i64 1))),om 6 25])))
def r41:RC:=(.seq (.ops [o 1 (.box 72 (.t 0)),o 2 (.al [(.int .i64 0),.nils,.nils] 72)]) (.seq (.ops [o 11 (.ldn 3 (.t 1)),o 12 (.call 106 [(.t 11)]),om 3 12]) (.seq (.ops [om 13 3,o 14 (.ixa 1 (.t 13) (.v (.int .i64 0))),o 15 (.ld1 (.t 14)),o 16 (.bsl 3 1 1 [(.int .i64 0)] [(0,1,(.t 15))]),om 4 16]) (.seq (.ops [o 17 (.fa 0 (.t 1)),o 18 (.ld1 (.t 17)),o 19 (.bld [(.int .i64 0),.nils,.nils] [(0,1,(.t 18))]),o 5 (.al [(.int .i64 0),.nils,.nils] 72),oS (.st 3 (.t 5) (.t 19))]) (.seq (.seq (.ops [o 6 (.mov (.v (.int .i64 0)))]) (.block 0 (.loop r41_l1))) (.seq (.ops [o 94 (.ldn 3 (.t 5)),oS (.st 3 (.t 2) (.t 94))]) .ret))))))
theorem k41:fnRC 41=some ([.cell 2 72],r41):=by kernel_rfl
def r43:RC:=(.seq (.ops [o 4 (.box 69 (.t 0)),o 7 (.box 72 (.t 3)),o 8 (.mov (.v (.bool false)))]) (.seq (.seq (.ops [om 9 2,o 10 (.bin .neq 3 true (.t 9) (.v (.int .i64 0)))]) (.cond (.t 10) (.seq (.ops [o 11 (.ldn 3 (.t 4)),o 12 (.bld [(.int .i64 0),.nils,.nils] []),o 13 (.call 60 [(.t 11),(.t 12)]),om 14 13,oT 15 14 (.mov (.t 1)),oT 16 14 (.mov (.t 2)),oT 17 14 (.bin .eql 3 false (.t 15) (.t 16)),o 18 (.pick (.t 14) (.t 17) (.v (.bool false))),om 8 18]) .ret) .skip)) (.seq (.ops [om 19 1,o 20 (.bin .eql 26 true (.t 19) (.v (.int .i64 0))),om 21 20,oT 22 21 (.ldn 3 (.t 4)),oT 23 21 (.ldn 3 (.t 7)),oT 24 21 (.call 60 [(.t 22),(.t 23)]),o 25 (.pick (.t 21) (.t 24) (.v (.bool false))),om 8 25]) .ret)))
theorem k43:fnRC 43=some ([.tmp 8],r43):=by kernel_rfl
def r44_l0:RC:=(.seq (.seq (.ops [om 30 5,o 31 (.fa 1 (.t 2)),o 32 (.ld1 (.t 31)),o 33 (.lenL (.t 32)),o 34 (.bin .lss 3 false (.t 30) (.t 33))]) (.cond (.t 34) .skip (.exit 0))) (.seq (.block 1 (.seq (.ops [o 37 (.fa 1 (.t 2)),o 38 (.ld1 (.t 37)),om 39 5,o 40 (.ixa 1 (.t 38) (.t 39)),o 41 (.ld1 (.t 40)),o 42 (.lenL (.t 41)),o 43 (.bin .gtr 3 true (.t 42) (.v (.int .i64 18)))]) (.cond (.t 43) (.seq (.ops [o 4 (.mov (.v (.bool false)))]) .ret) .skip))) (.ops [om 35 5,o 36 (.bin .add 3 true (.t 35) (.v (.int .i64 1))),om 5 36])))
def r44_l1:RC:=(.seq (.seq (.ops [om 44 6,o 45 (.fa 2 (.t 2)),o 46 (.ld1 (.t 45)),o 47 (.lenL (.t 46)),o 48 (.bin .lss 3 false (.t 44) (.t 47))]) (.cond (.t 48) .skip (.exit 2))) (.seq (.block 3 (.seq (.ops [o 51 (.fa 2 (.t 2)),o 52 (.ld1 (.t 51)),om 53 6,o 54 (.ixa 1 (.t 52) (.t 53)),o 55 (.ld1 (.t 54)),o 56 (.lenL (.t 55)),o 57 (.bin .gtr 3 true (.t 56) (.v (.int .i64 18)))]) (.cond (.t 57) (.seq (.ops [o 4 (.mov (.v (.bool false)))]) .ret) .skip))) (.ops [om 49 6,o 50 (.bin .add 3 true (.t 49) (.v (.int .i64 1))),om 6 50])))
def r44:RC:=(.seq (.ops [o 2 (.box 72 (.t 0)),o 4 (.mov (.v (.bool false)))]) (.seq (.seq (.ops [o 7 (.fa 1 (.t 2)),o 8 (.ld1 (.t 7)),o 9 (.lenL (.t 8)),om 10 1,o 11 (.bin .gtr 3 false (.t 9) (.t 10)),om 12 11,oT 13 12 (.fa 1 (.t 2)),oT 14 12 (.ld1 (.t 13)),oT 15 12 (.lenL (.t 14)),oT 16 12 (.bin .leq 3 true (.t 15) (.v (.int .i64 256))),o 17 (.pick (.t 12) (.t 16) (.v (.bool false))),om 18 17,oF 19 18 (.fa 1 (.t 2)),oF 20 18 (.ld1 (.t 19)),oF 21 18 (.lenL (.t 20)),oF 22 18 (.bin .gtr 3 true (.t 21) (.v (.int .i64 258))),o 23 (.pick (.t 18) (.v (.bool true)) (.t 22)),om 24 23,oF 25 24 (.fa 2 (.t 2)),oF 26 24 (.ld1 (.t 25)),oF 27 24 (.lenL (.t 26)),oF 28 24 (.bin .gtr 3 true (.t 27) (.v (.int .i64 260))),o 29 (.pick (.t 24) (.v (.bool true)) (.t 28))]) (.cond (.t 29) (.seq (.ops [o 4 (.mov (.v (.bool false)))]) .ret) .skip)) (.seq (.seq (.ops [o 5 (.mov (.v (.int .i64 0)))]) (.block 0 (.loop r44_l0))) (.seq (.seq (.ops [o 6 (.mov (.v (.int .i64 0)))]) (.block 2 (.loop r44_l1))) (.seq (.ops [o 4 (.mov (.v (.bool true)))]) .ret)))))
theorem k44:fnRC 44=some ([.tmp 4],r44):=by kernel_rfl
def r50_l0:RC:=(.seq (.seq (.ops [om 52 4,o 53 (.fa 1 (.t 1)),o 54 (.ld1 (.t 53)),om 55 3,o 56 (.ixa 1 (.t 54) (.t 55)),o 57 (.ld1 (.t 56)),o 58 (.lenL (.t 57)),o 59 (.bin .lss 3 false (.t 52) (.t 58))]) (.cond (.t 59) .skip (.exit 2))) (.seq (.block 3 (.seq (.drw 13 [o 62 (.fa 1 (.t 1)),o 63 (.ld1 (.t 62)),om 64 3,o 65 (.ixa 1 (.t 63) (.t 64)),o 66 (.ld1 (.t 65)),om 67 4,o 68 (.ixa 1 (.t 66) (.t 67)),o 69 (.ld1 (.t 68)),o 70 (.fa 1 (.t 1)),o 71 (.ld1 (.t 70)),o 72 (.lenL (.t 71)),o 73 (.bin .sub 3 true (.t 72) (.v (.int .i64 1))),o 74 (.call 94 [(.t 69),(.v (.int .i64 0)),(.t 73)])]) (.cond (.t 74) (.seq (.ops [o 2 (.mov (.v (.int .i64 10)))]) .ret) .skip))) (.ops [om 60 4,o 61 (.bin .add 3 true (.t 60) (.v (.int .i64 1))),om 4 61])))
def r50_l1:RC:=(.seq (.seq (.ops [om 23 3,o 24 (.fa 1 (.t 1)),o 25 (.ld1 (.t 24)),o 26 (.lenL (.t 25)),o 27 (.bin .lss 3 false (.t 23) (.t 26))]) (.cond (.t 27) .skip (.exit 0))) (.seq (.block 1 (.seq (.seq (.drw 22 [o 30 (.fa 1 (.t 1)),o 31 (.ld1 (.t 30)),om 32 3,o 33 (.ixa 1 (.t 31) (.t 32)),o 34 (.ld1 (.t 33)),o 35 (.lenL (.t 34)),o 36 (.fa 0 (.t 1)),o 37 (.ld1 (.t 36)),o 38 (.bin .shl 3 true (.v (.int .i64 1)) (.t 37)),o 39 (.bin .neq 3 false (.t 35) (.t 38)),om 40 39,oF 41 40 (.fa 2 (.t 1)),oF 42 40 (.ld1 (.t 41)),oF 43 40 (.mov (.t 3)),oF 44 40 (.ixa 1 (.t 42) (.t 43)),oF 45 40 (.ld1 (.t 44)),oF 46 40 (.lenL (.t 45)),oF 47 40 (.fa 0 (.t 1)),oF 48 40 (.ld1 (.t 47)),oF 49 40 (.bin .shl 3 true (.v (.int .i64 1)) (.t 48)),oF 50 40 (.bin .neq 3 false (.t 46) (.t 49)),o 51 (.pick (.t 40) (.v (.bool true)) (.t 50))]) (.cond (.t 51) (.seq (.ops [o 2 (.mov (.v (.int .i64 2)))]) .ret) .skip)) (.seq (.ops [o 4 (.mov (.v (.int .i64 0)))]) (.block 2 (.loop r50_l0))))) (.ops [om 28 3,o 29 (.bin .add 3 true (.t 28) (.v (.int .i64 1))),om 3 29])))
def r50:RC:=(.seq (.ops [o 1 (.box 72 (.t 0)),o 2 (.mov (.v (.int .i64 0)))]) (.seq (.seq (.ops [o 5 (.fa 0 (.t 1)),o 6 (.ld1 (.t 5)),o 7 (.call 94 [(.t 6),(.v (.int .i64 1)),(.v (.int .i64 4))])]) (.cond (.t 7) (.seq (.ops [o 2 (.mov (.v (.int .i64 3)))]) .ret) .skip)) (.seq (.seq (.ops [o 8 (.fa 1 (.t 1)),o 9 (.ld1 (.t 8)),o 10 (.lenL (.t 9)),o 11 (.bin .eql 3 true (.t 10) (.v (.int .i64 0)))]) (.cond (.t 11) (.seq (.ops [o 2 (.mov (.v (.int .i64 12)))]) .ret) .skip)) (.seq (.seq (.ops [o 12 (.fa 1 (.t 1)),o 13 (.ld1 (.t 12)),o 14 (.lenL (.t 13)),o 15 (.bin .gtr 3 true (.t 14) (.v (.int .i64 256)))]) (.cond (.t 15) (.seq (.ops [o 2 (.mov (.v (.int .i64 5)))]) .ret) .skip)) (.seq (.seq (.ops [o 16 (.fa 2 (.t 1)),o 17 (.ld1 (.t 16)),o 18 (.lenL (.t 17)),o 19 (.fa 1 (.t 1)),o 20 (.ld1 (.t 19)),o 21 (.lenL (.t 20)),o 22 (.bin .neq 3 false (.t 18) (.t 21))]) (.cond (.t 22) (.seq (.ops [o 2 (.mov (.v (.int .i64 2)))]) .ret) .skip)) (.seq (.seq (.ops [o 3 (.mov (.v (.int .i64 0)))]) (.block 0 (.loop r50_l1))) (.seq (.ops [o 2 (.mov (.v (.int .i64 0)))]) .ret)))))))
theorem k50:fnRC 50=some ([.tmp 2],r50):=by kernel_rfl
def r58_l0:RC:=(.seq (.ops [o 39 (.bin .lss 3 false (.t 38) (.t 37))]) (.seq (.cond (.t 39) .skip (.exit 0)) (.seq (.block 1 (.seq (.ops [om 40 38,o 41 (.ixa 1 (.t 36) (.t 38)),o 42 (.ld1 (.t 41)),om 4 40,om 5 42]) (.seq (.drw 19 [om 43 5,o 44 (.lenL (.t 43)),o 45 (.fa 0 (.t 1)),o 46 (.ld1 (.t 45)),o 47 (.bin .shl 3 true (.v (.int .i64 1)) (.t 46)),o 48 (.bin .neq 3 false (.t 44) (.t 47)),om 49 48,oF 50 49 (.fa 2 (.t 1)),oF 51 49 (.ld1 (.t 50)),oF 52 49 (.mov (.t 4)),oF 53 49 (.ixa 1 (.t 51) (.t 52)),oF 54 49 (.ld1 (.t 53)),oF 55 49 (.lenL (.t 54)),oF 56 49 (.fa 0 (.t 1)),oF 57 49 (.ld1 (.t 56)),oF 58 49 (.bin .shl 3 true (.v (.int .i64 1)) (.t 57)),oF 59 49 (.bin .neq 3 false (.t 55) (.t 58)),o 60 (.pick (.t 49) (.v (.bool true)) (.t 59)),om 6 60]) (.seq (.ops [om 61 5,o 62 (.mkf 126 [] [(.t 1)]),o 63 (.call 125 [(.t 61),(.t 62)]),om 7 63]) (.seq (.ops [om 64 6,o 65 (.call 116 [(.t 64),(.v (.int .i64 2))]),om 66 7,o 67 (.call 116 [(.t 66),(.v (.int .i64 10))]),o 68 (.bsl 26 1 2 [(.int .i64 0),(.int .i64 0)] [(0,1,(.t 65)),(1,1,(.t 67))]),o 69 (.call 89 [(.t 68)]),om 8 69]) (.seq (.ops [om 70 8,o 71 (.bin .neq 26 true (.t 70) (.v (.int .i64 0)))]) (.cond (.t 71) (.seq (.ops [om 72 8,om 2 72]) .ret) .skip))))))) (.ops [o 73 (.bin .add 3 true (.t 38) (.v (.int .i64 1))),om 38 73]))))
def r58:RC:=(.seq (.ops [o 1 (.box 69 (.t 0)),o 2 (.mov (.v (.int .i64 0)))]) (.seq (.seq (.drw 24 [o 9 (.fa 0 (.t 1)),o 10 (.ld1 (.t 9)),o 11 (.call 124 [(.t 10),(.v (.int .i64 1)),(.v (.int .i64 4))]),o 12 (.fa 1 (.t 1)),o 13 (.ld1 (.t 12)),o 14 (.lenL (.t 13)),o 15 (.bin .eql 3 true (.t 14) (.v (.int .i64 0))),o 16 (.call 116 [(.t 15),(.v (.int .i64 12))]),o 17 (.fa 1 (.t 1)),o 18 (.ld1 (.t 17)),o 19 (.lenL (.t 18)),o 20 (.bin .gtr 3 true (.t 19) (.v (.int .i64 256))),o 21 (.call 116 [(.t 20),(.v (.int .i64 5))]),o 22 (.fa 2 (.t 1)),o 23 (.ld1 (.t 22)),o 24 (.lenL (.t 23)),o 25 (.fa 1 (.t 1)),o 26 (.ld1 (.t 25)),o 27 (.lenL (.t 26)),o 28 (.bin .neq 3 false (.t 24) (.t 27)),o 29 (.call 116 [(.t 28),(.v (.int .i64 2))]),
 ⟨some 30,none,some 21,false,.bsl 26 1 4 [(.int .i64 0),(.int .i64 0),(.int .i64 0),(.int .i64 0)] [(0,1,(.t 11)),(1,1,(.t 16)),(2,1,(.t 21)),(3,1,(.t 29))]⟩,o 31 (.call 89 [(.t 30)]),om 3 31]) (.seq (.ops [om 32 3,o 33 (.bin .neq 26 true (.t 32) (.v (.int .i64 0)))]) (.cond (.t 33) (.seq (.ops [om 34 3,om 2 34]) .ret) .skip))) (.seq (.seq (.ops [o 35 (.fa 1 (.t 1)),o 36 (.ld1 (.t 35)),o 37 (.lenL (.t 36)),o 38 (.mov (.v (.int .i64 0)))]) (.block 0 (.loop r58_l0))) (.seq (.ops [o 2 (.mov (.v (.int .i64 0)))]) .ret))))
theorem k58:fnRC 58=some ([.tmp 2],r58):=by kernel_rfl
def r60_l0:RC:=(.seq (.seq (.ops [om 31 5,o 32 (.fa 1 (.t 2)),o 33 (.ld1 (.t 32)),o 34 (.lenL (.t 33)),o 35 (.bin .lss 3 false (.t 31) (.t 34))]) (.cond (.t 35) .skip (.exit 0))) (.seq (.block 1 (.seq (.drw 12 [o 38 (.fa 1 (.t 2)),o 39 (.ld1 (.t 38)),om 40 5,o 41 (.ixa 1 (.t 39) (.t 40)),o 42 (.ld1 (.t 41)),o 43 (.fa 1 (.t 3)),o 44 (.ld1 (.t 43)),om 45 5,o 46 (.ixa 1 (.t 44) (.t 45)),o 47 (.ld1 (.t 46)),o 48 (.call 109 [(.t 42),(.t 47)]),o 49 (.un .not (.t 48))]) (.cond (.t 49) (.seq (.ops [o 4 (.mov (.v (.bool false)))]) .ret) .skip))) (.ops [om 36 5,o 37 (.bin .add 3 true (.t 36) (.v (.int .i64 1))),om 5 37])))
def r60_l1:RC:=(.seq (.seq (.ops [om 70 7,o 71 (.fa 2 (.t 2)),o 72 (.ld1 (.t 71)),om 73 6,o 74 (.ixa 1 (.t 72) (.t 73)),o 75 (.ld1 (.t 74)),o 76 (.lenL (.t 75)),o 77 (.bin .lss 3 false (.t 70) (.t 76))]) (.cond (.t 77) .skip (.exit 4))) (.seq (.block 5 (.seq (.drw 17 [o 80 (.fa 2 (.t 2)),o 81 (.ld1 (.t 80)),om 82 6,o 83 (.ixa 1 (.t 81) (.t 82)),o 84 (.ld1 (.t 83)),om 85 7,o 86 (.ixa 1 (.t 84) (.t 85)),o 87 (.ld1 (.t 86)),o 88 (.fa 2 (.t 3)),o 89 (.ld1 (.t 88)),om 90 6,o 91 (.ixa 1 (.t 89) (.t 90)),o 92 (.ld1 (.t 91)),om 93 7,o 94 (.ixa 1 (.t 92) (.t 93)),o 95 (.ld1 (.t 94)),o 96 (.bin .neq 4 false (.t 87) (.t 95))]) (.cond (.t 96) (.seq (.ops [o 4 (.mov (.v (.bool false)))]) .ret) .skip))) (.ops [om 78 7,o 79 (.bin .add 3 true (.t 78) (.v (.int .i64 1))),om 7 79])))
def r60_l2:RC:=(.seq (.seq (.ops [om 50 6,o 51 (.fa 2 (.t 2)),o 52 (.ld1 (.t 51)),o 53 (.lenL (.t 52)),o 54 (.bin .lss 3 false (.t 50) (.t 53))]) (.cond (.t 54) .skip (.exit 2))) (.seq (.block 3 (.seq (.seq (.drw 13 [o 57 (.fa 2 (.t 2)),o 58 (.ld1 (.t 57)),om 59 6,o 60 (.ixa 1 (.t 58) (.t 59)),o 61 (.ld1 (.t 60)),o 62 (.lenL (.t 61)),o 63 (.fa 2 (.t 3)),o 64 (.ld1 (.t 63)),om 65 6,o 66 (.ixa 1 (.t 64) (.t 65)),o 67 (.ld1 (.t 66)),o 68 (.lenL (.t 67)),o 69 (.bin .neq 3 false (.t 62) (.t 68))]) (.cond (.t 69) (.seq (.ops [o 4 (.mov (.v (.bool false)))]) .ret) .skip)) (.seq (.ops [o 7 (.mov (.v (.int .i64 0)))]) (.block 4 (.loop r60_l1))))) (.ops [om 55 6,o 56 (.bin .add 3 true (.t 55) (.v (.int .i64 1))),om 6 56])))
def r60:RC:=(.seq (.ops [o 2 (.box 72 (.t 0)),o 3 (.box 72 (.t 1)),o 4 (.mov (.v (.bool false)))]) (.seq (.seq (.ops [o 8 (.fa 0 (.t 2)),o 9 (.ld1 (.t 8)),o 10 (.fa 0 (.t 3)),o 11 (.ld1 (.t 10)),o 12 (.bin .neq 3 false (.t 9) (.t 11)),om 13 12,oF 14 13 (.fa 1 (.t 2)),oF 15 13 (.ld1 (.t 14)),oF 16 13 (.lenL (.t 15)),oF 17 13 (.fa 1 (.t 3)),oF 18 13 (.ld1 (.t 17)),oF 19 13 (.lenL (.t 18)),oF 20 13 (.bin .neq 3 false (.t 16) (.t 19)),o 21 (.pick (.t 13) (.v (.bool true)) (.t 20)),om 22 21,oF 23 22 (.fa 2 (.t 2)),oF 24 22 (.ld1 (.t 23)),oF 25 22 (.lenL (.t 24)),oF 26 22 (.fa 2 (.t 3)),oF 27 22 (.ld1 (.t 26)),oF 28 22 (.lenL (.t 27)),oF 29 22 (.bin .neq 3 false (.t 25) (.t 28)),o 30 (.pick (.t 22) (.v (.bool true)) (.t 29))]) (.cond (.t 30) (.seq (.ops [o 4 (.mov (.v (.bool false)))]) .ret) .skip)) (.seq (.seq (.ops [o 5 (.mov (.v (.int .i64 0)))]) (.block 0 (.loop r60_l0))) (.seq (.seq (.ops [o 6 (.mov (.v (.int .i64 0)))]) (.block 2 (.loop r60_l2))) (.seq (.ops [o 4 (.mov (.v (.bool true)))]) .ret)))))
theorem k60:fnRC 60=some ([.tmp 4],r60):=by kernel_rfl
def r106_l0:RC:=(.seq (.seq (.ops [om 38 10,o 39 (.fa 0 (.t 1)),o 40 (.ld1 (.t 39)),o 41 (.bin .shl 3 true (.v (.int .i64 1)) (.t 40)),o 42 (.bin .lss 3 false (.t 38) (.t 41))]) (.cond (.t 42) .skip (.exit 6))) (.seq (.block 7 (.drw 46 [om 45 9,om 46 45,oT 47 46 (.fa 2 (.t 1)),oT 48 46 (.ld1 (.t 47)),oT 49 46 (.mov (.t 7)),oT 50 46 (.ixa 1 (.t 48) (.t 49)),oT 51 46 (.ld1 (.t 50)),oT 52 46 (.mov (.t 10)),oT 53 46 (.ixa 1 (.t 51) (.t 52)),oT 54 46 (.ld1 (.t 53)),oT 55 46 (.fa 2 (.t 1)),oT 56 46 (.ld1 (.t 55)),oT 57 46 (.mov (.t 8)),oT 58 46 (.ixa 1 (.t 56) (.t 57)),oT 59 46 (.ld1 (.t 58)),oT 60 46 (.mov (.t 10)),oT 61 46 (.ixa 1 (.t 59) (.t 60)),oT 62 46 (.ld1 (.t 61)),oT 63 46 (.bin .eql 4 false (.t 54) (.t 62)),o 64 (.pick (.t 46) (.t 63) (.v (.bool false))),om 65 64,oT 66 65 (.mov (.t 4)),oT 67 65 (.fa 1 (.t 1)),oT 68 65 (.ld1 (.t 67)),oT 69 65 (.mov (.t 7)),oT 70 65 (.ixa 1 (.t 68) (.t 69)),oT 71 65 (.ld1 (.t 70)),oT 72 65 (.mov (.t 10)),oT 73 65 (.ixa 1 (.t 71) (.t 72)),oT 74 65 (.ld1 (.t 73)),oT 75 65 (.ixa 1 (.t 66) (.t 74)),oT 76 65 (.ld1 (.t 75)),oT 77 65 (.mov (.t 4)),oT 78 65 (.fa 1 (.t 1)),oT 79 65 (.ld1 (.t 78)),oT 80 65 (.mov (.t 8)),oT 81 65 (.ixa 1 (.t 79) (.t 80)),oT 82 65 (.ld1 (.t 81)),oT 83 65 (.mov (.t 10)),oT 84 65 (.ixa 1 (.t 82) (.t 83)),oT 85 65 (.ld1 (.t 84)),oT 86 65 (.ixa 1 (.t 77) (.t 85)),oT 87 65 (.ld1 (.t 86)),oT 88 65 (.bin .eql 3 false (.t 76) (.t 87)),o 89 (.pick (.t 65) (.t 88) (.v (.bool false))),om 9 89])) (.ops [om 43 10,o 44 (.bin .add 3 true (.t 43) (.v (.int .i64 1))),om 10 44])))
def r106_l1:RC:=(.seq (.seq (.ops [om 34 8,o 35 (.bin .geq 3 true (.t 34) (.v (.int .i64 0)))]) (.cond (.t 35) .skip (.exit 4))) (.seq (.block 5 (.seq (.ops [o 9 (.mov (.v (.bool true)))]) (.seq (.seq (.ops [o 10 (.mov (.v (.int .i64 0)))]) (.block 6 (.loop r106_l0))) (.seq (.ops [om 90 9]) (.cond (.t 90) (.ops [om 91 6,om 92 7,om 93 8,o 94 (.ixa 1 (.t 91) (.t 92)),oS (.st 1 (.t 94) (.t 93))]) .skip))))) (.ops [om 36 8,o 37 (.bin .sub 3 true (.t 36) (.v (.int .i64 1))),om 8 37])))
def r106_l2:RC:=(.seq (.seq (.ops [om 23 7,om 24 3,o 25 (.bin .lss 3 false (.t 23) (.t 24))]) (.cond (.t 25) .skip (.exit 2))) (.seq (.block 3 (.seq (.ops [om 28 6,om 29 7,om 30 7,o 31 (.ixa 1 (.t 28) (.t 29)),oS (.st 1 (.t 31) (.t 30))]) (.seq (.ops [om 32 7,o 33 (.bin .sub 3 true (.t 32) (.v (.int .i64 1))),om 8 33]) (.block 4 (.loop r106_l1))))) (.ops [om 26 7,o 27 (.bin .add 3 true (.t 26) (.v (.int .i64 1))),om 7 27])))
def r106_l3:RC:=(.seq (.seq (.ops [om 16 5,om 17 3,o 18 (.bin .leq 3 false (.t 16) (.t 17))]) (.cond (.t 18) .skip (.exit 0))) (.seq (.block 1 (.seq (.ops [om 21 3,o 22 (.raw (.makeSlice 40 (.tmp 21) (.tmp 21))),om 6 22]) (.seq (.seq (.ops [o 7 (.mov (.v (.int .i64 0)))]) (.block 2 (.loop r106_l2))) (.seq (.seq (.ops [om 95 6,om 96 4,o 97 (.call 109 [(.t 95),(.t 96)])]) (.cond (.t 97) (.seq (.ops [om 98 4,om 2 98]) .ret) .skip)) (.ops [om 99 6,om 4 99]))))) (.ops [om 19 5,o 20 (.bin .add 3 true (.t 19) (.v (.int .i64 1))),om 5 20])))
def r106:RC:=(.seq (.ops [o 1 (.box 72 (.t 0)),o 2 (.mov (.v .nils))]) (.seq (.ops [o 11 (.fa 1 (.t 1)),o 12 (.ld1 (.t 11)),o 13 (.lenL (.t 12)),om 3 13]) (.seq (.ops [om 14 3,o 15 (.raw (.makeSlice 40 (.tmp 14) (.tmp 14))),om 4 15]) (.seq (.seq (.ops [o 5 (.mov (.v (.int .i64 0)))]) (.block 0 (.loop r106_l3))) (.seq (.ops [om 100 4,om 2 100]) .ret)))))
theorem k106:fnRC 106=some ([.tmp 2],r106):=by kernel_rfl
def r107_l0:RC:=(.seq (.seq (.ops [om 6 5,om 7 0,o 8 (.lenL (.t 7)),o 9 (.bin .lss 3 false (.t 6) (.t 8))]) (.cond (.t 9) .skip (.exit 0))) (.seq (.block 1 (.seq (.ops [om 12 0,om 13 5,o 14 (.ixa 1 (.t 12) (.t 13)),o 15 (.ld1 (.t 14)),om 16 1,o 17 (.bin .eql 3 false (.t 15) (.t 16))]) (.cond (.t 17) (.seq (.ops [om 18 5,om 4 18]) .ret) .skip))) (.ops [om 10 5,o 11 (.bin .add 3 true (.t 10) (.v (.int .i64 1))),om 5 11])))
def r107:RC:=(.seq (.ops [o 4 (.mov (.v (.int .i64 0)))]) (.seq (.seq (.ops [o 5 (.mov (.v (.int .i64 0)))]) (.block 0 (.loop r107_l0))) (.seq (.ops [o 4 (.mov (.v (.int .i64 (-1))))]) .ret)))
theorem k107:fnRC 107=some ([.tmp 4],r107):=by kernel_rfl
def r126:RC:=(.seq (.ops [o 3 (.mov (.v (.bool false)))]) (.seq (.ops [om 4 0,o 5 (.bin .lss 3 true (.t 4) (.v (.int .i64 0))),om 6 5,oF 7 6 (.mov (.t 0)),oF 8 6 (.fa 1 (.t 1)),oF 9 6 (.ld1 (.t 8)),oF 10 6 (.lenL (.t 9)),oF 11 6 (.bin .geq 3 false (.t 7) (.t 10)),o 12 (.pick (.t 6) (.v (.bool true)) (.t 11)),om 3 12]) .ret))
theorem k126:fnRC 126=some ([.tmp 3],r126):=by kernel_rfl
def r173:RC:=(.seq (.ops [o 2 (.mov (.v .nils))]) (.seq (.seq (.ops [om 3 0,o 4 (.bin .eql 43 true (.t 3) (.v .nils))]) (.cond (.t 4) (.seq (.ops [o 2 (.mov (.v .nils))]) .ret) .skip)) (.seq (.ops [o 5 (.bsl 4 1 0 [] []),om 6 0,o 7 (.app 4 1 1 (.t 5) (.t 6)),om 2 7]) .ret)))
theorem k173:fnRC 173=some ([.tmp 2],r173):=by kernel_rfl
def r215:RC:=(.seq (.ops [o 2 (.mov (.v .nils))]) (.seq (.seq (.ops [om 3 0,o 4 (.bin .eql 40 true (.t 3) (.v .nils))]) (.cond (.t 4) (.seq (.ops [o 2 (.mov (.v .nils))]) .ret) .skip)) (.seq (.ops [o 5 (.bsl 3 1 0 [] []),om 6 0,o 7 (.app 3 1 8 (.t 5) (.t 6)),om 2 7]) .ret)))
theorem k215:fnRC 215=some ([.tmp 2],r215):=by kernel_rfl
def r216:RC:=(.seq (.ops [o 4 (.mov (.v (.bool false)))]) (.seq (.ops [om 9 0,o 10 (.raw (.nilCheck (.tmp 9))),o 11 (.fa 2 (.t 10)),o 12 (.ld1 (.t 11)),om 13 1,o 14 (.ixa 1 (.t 12) (.t 13)),o 15 (.ld1 (.t 14)),om 5 15]) (.seq (.drw 24 [om 16 0,o 17 (.raw (.nilCheck (.tmp 16))),o 18 (.fa 1 (.t 17)),o 19 (.ld1 (.t 18)),om 20 1,o 21 (.ixa 1 (.t 19) (.t 20)),o 22 (.ld1 (.t 21)),om 23 0,o 24 (.raw (.nilCheck (.tmp 23))),o 25 (.fa 3 (.t 24)),o 26 (.ld1 (.t 25)),om 27 5,o 28 (.ixa 1 (.t 26) (.t 27)),o 29 (.ld1 (.t 28)),om 30 0,o 31 (.raw (.nilCheck (.tmp 30))),o 32 (.fa 5 (.t 31)),o 33 (.ld1 (.t 32)),om 34 5,o 35 (.ixa 1 (.t 33) (.t 34)),o 36 (.ld1 (.t 35)),o 37 (.bin .add 3 false (.t 29) (.t 36)),om 6 22,om 7 37]) (.seq (.seq (.ops [om 38 6,om 39 7,o 40 (.bin .lss 3 false (.t 38) (.t 39))]) (.cond (.t 40) (.seq (.ops [o 4 (.mov (.v (.bool false)))]) .ret) .skip)) (.seq (.ops [om 41 0,o 42 (.raw (.nilCheck (.tmp 41))),o 43 (.fa 0 (.t 42)),o 44 (.ld1 (.t 43)),om 45 7,o 46 (.ixa 1 (.t 44) (.t 45)),o 47 (.ld1 (.t 46)),om 8 47]) (.seq (.drw 16 [om 48 0,o 49 (.raw (.nilCheck (.tmp 48))),o 50 (.fa 0 (.t 49)),o 51 (.ld1 (.t 50)),om 52 6,om 53 0,o 54 (.raw (.nilCheck (.tmp 53))),o 55 (.fa 0 (.t 54)),o 56 (.ld1 (.t 55)),om 57 7,om 58 8,om 59 1,o 60 (.ixa 1 (.t 51) (.t 52)),
 ⟨none,none,none,true,.st 1 (.t 60) (.t 58)⟩,o 61 (.ixa 1 (.t 56) (.t 57)),
 ⟨none,none,none,true,.st 1 (.t 61) (.t 59)⟩]) (.seq (.drw 16 [om 62 0,o 63 (.raw (.nilCheck (.tmp 62))),o 64 (.fa 1 (.t 63)),o 65 (.ld1 (.t 64)),om 66 8,om 67 0,o 68 (.raw (.nilCheck (.tmp 67))),o 69 (.fa 1 (.t 68)),o 70 (.ld1 (.t 69)),om 71 1,om 72 6,om 73 7,o 74 (.ixa 1 (.t 65) (.t 66)),
 ⟨none,none,none,true,.st 1 (.t 74) (.t 72)⟩,o 75 (.ixa 1 (.t 70) (.t 71)),
 ⟨none,none,none,true,.st 1 (.t 75) (.t 73)⟩]) (.seq (.ops [om 76 0,o 77 (.raw (.nilCheck (.tmp 76))),o 78 (.fa 5 (.t 77)),o 79 (.ld1 (.t 78)),om 80 5,o 81 (.ixa 1 (.t 79) (.t 80)),o 82 (.ld1 (.t 81)),o 83 (.bin .add 3 true (.t 82) (.v (.int .i64 1))),o 84 (.ixa 1 (.t 79) (.t 80)),oS (.st 1 (.t 84) (.t 83))]) (.seq (.ops [om 85 0,o 86 (.raw (.nilCheck (.tmp 85))),o 87 (.fa 5 (.t 86)),o 88 (.ld1 (.t 87)),om 89 5,o 90 (.ixa 1 (.t 88) (.t 89)),o 91 (.ld1 (.t 90)),o 92 (.bin .eql 3 true (.t 91) (.v (.int .i64 1))),om 4 92]) .ret)))))))))
theorem k216:fnRC 216=some ([.tmp 4],r216):=by kernel_rfl
end Go.Am
namespace Go.Am
open Go
variable [MaxLen]
set_option maxRecDepth 100000
def r94:RC:=(.seq (.ops [o 6 (.mov (.v (.bool false)))]) (.seq (.ops [om 7 0,om 8 1,o 9 (.bin .lss 3 false (.t 7) (.t 8)),om 10 9,oF 11 10 (.mov (.t 0)),oF 12 10 (.mov (.t 2)),oF 13 10 (.bin .gtr 3 false (.t 11) (.t 12)),o 14 (.pick (.t 10) (.v (.bool true)) (.t 13)),om 6 14]) .ret))
theorem k94:fnRC 94=some ([.tmp 6],r94):=by kernel_rfl
def r116:RC:=(.seq (.ops [o 4 (.mov (.v (.int .i64 0)))]) (.seq (.seq (.ops [om 5 0]) (.cond (.t 5) (.seq (.ops [om 6 1,om 4 6]) .ret) .skip)) (.seq (.ops [o 4 (.mov (.v (.int .i64 0)))]) .ret)))
theorem k116:fnRC 116=some ([.tmp 4],r116):=by kernel_rfl
def r124:RC:=(.seq (.ops [o 6 (.mov (.v (.int .i64 0)))]) (.seq (.ops [om 7 0,om 8 1,o 9 (.bin .lss 3 false (.t 7) (.t 8)),om 10 9,oF 11 10 (.mov (.t 0)),oF 12 10 (.mov (.t 2)),oF 13 10 (.bin .gtr 3 false (.t 11) (.t 12)),o 14 (.pick (.t 10) (.v (.bool true)) (.t 13)),o 15 (.call 116 [(.t 14),(.v (.int .i64 3))]),om 6 15]) .ret))
theorem k124:fnRC 124=some ([.tmp 6],r124):=by kernel_rfl
def r89_l0:RC:=(.seq (.ops [o 8 (.bin .lss 3 false (.t 7) (.t 6))]) (.seq (.cond (.t 8) .skip (.exit 0)) (.seq (.block 1 (.seq (.ops [o 9 (.ixa 1 (.t 5) (.t 7)),o 10 (.ld1 (.t 9)),om 4 10]) (.seq (.ops [om 11 4,o 12 (.bin .neq 26 true (.t 11) (.v (.int .i64 0)))]) (.cond (.t 12) (.seq (.ops [om 13 4,om 2 13]) .ret) .skip)))) (.ops [o 14 (.bin .add 3 true (.t 7) (.v (.int .i64 1))),om 7 14]))))
def r89:RC:=(.seq (.ops [o 2 (.mov (.v (.int .i64 0)))]) (.seq (.seq (.ops [om 5 0,o 6 (.lenL (.t 5)),o 7 (.mov (.v (.int .i64 0)))]) (.block 0 (.loop r89_l0))) (.seq (.ops [o 2 (.mov (.v (.int .i64 0)))]) .ret)))
theorem k89:fnRC 89=some ([.tmp 2],r89):=by kernel_rfl
end Go.Am
namespace Go.Am
open Go Go.Proofs
variable [MaxLen]
set_option maxRecDepth 100000
theorem ld_69 (a:AV)(s:St):loadA U 69 a s=ldn 3 a s:=loadA_n U ag_69 sz_69 a s
theorem ld_72 (a:AV)(s:St):loadA U 72 a s=ldn 3 a s:=loadA_n U ag_72 sz_72 a s
theorem gateV_false (x:Option AV)(s:St):gateV false x s=some (undef,s):=(fun h=>h) rfl
theorem gateC_false (X:Cx)(x:Option AV)(f:FuncId)(args:List AV)(s:St):gateC X false x f args s=some (undef,s):=(fun h=>h) rfl
theorem gateV_true (x:Option AV)(s:St):gateV true x s=yA x s:=(fun h=>h) rfl
def St.upto (s:St)(k:Nat):St:={ s with next:=k }
theorem zJ (s:St)(k j:Nat):(s.upto k).get j=s.get j:=(fun h=>h) rfl
theorem zB (s:St)(k:Nat):(s.upto k).next=k:=(fun h=>h) rfl
theorem go_drw_upto {X:Cx}{β:Type}(fin:Fl→β)(ks:List K)(e:Env)(s:St)(n:Nat)(l:List RO):go X fin ks (.drw n l) e s=bif noneR s.next s l then goD' X fin ks s.next l e (s.upto (s.next+n)) else stuck X fin ks:=go_drw X fin ks e s n l
theorem gb_none {n:Nat}(h:4≤n):U.gbase n=none:=by
 rw[U_gbase];unfold gbU gcell
 match n,h with
 |n+4,_=>rfl
def Fr (s:St):Prop:=∀j,s.next≤j→s.get j=none
theorem Fr.at {s:St}(h:Fr s)(k:Nat):s.get (s.next+k)=none:=h _ (by omega)
theorem Fr.own:Fr (ownSt U):=fun j hj=>by
 rw[own_get];rw[own_next,U_glob] at hj;exact gb_none (by omega)
theorem Fr.new {s:St}(h:Fr s)(x:Blk):Fr (s.new x):=fun j hj=>by
 rw[next_new] at hj;rw[get_new,if_neg (by omega)];exact h j (by omega)
theorem Fr.put {s:St}(h:Fr s){k:Nat}(hk:k<s.next)(x:Blk):Fr (s.put k x):=fun j hj=>by
 rw[next_put] at hj;rw[get_put,if_neg (by omega)];exact h j (by omega)
theorem Fr.upto {s:St}(h:Fr s){k:Nat}(hk:s.next≤k):Fr (s.upto k):=fun j hj=>by
 rw[zB] at hj;rw[zJ];exact h j (by omega)
attribute [go_sem ↓ high] go_drw_upto
attribute [go_sem ↓] zJ zB
attribute [go_sem] gb_none Option.isNone_none
attribute [go_sem ↓] gateV_false gateC_false gateV_true
attribute [go_sem] ld_69 ld_72
end Go.Am
namespace Go.Am
open Go
inductive Kd where
 |high|low|rise|fall|pattern|enter|pulse|gap|idle|setup|runt|not_|all_|any_|other
 deriving DecidableEq
structure Uses where
 a:Bool
 b:Bool
 mi:Bool
 ma:Bool
 pat:Bool
 kids:Bool
def Kd.known:Kd→Bool
 |.other=>false
 |_=>true
def outside (n a b:Int):Bool:=decide (n<a)||decide (n>b)
def firstOf:List Int→Int
 |[]=>0
 |e::l=>br (e != 0) e (firstOf l)
def within (n a b:Int):Int:=br (decide (n<a)||decide (n>b)) 3 0
theorem br_r {β:Type}{p:Bool}{x y y':β}(h:p=false→y=y'):br p x y=br p x y':=by
 cases p
 ·rw[h rfl]
 ·rfl
end Go.Am
namespace Go.Am
open Go
variable [MaxLen]
set_option maxRecDepth 100000
set_option maxHeartbeats 4000000
theorem br_int (k:IntKind)(p:Bool)(x y:Int):br p (AV.int k x) (AV.int k y)=.int k (br p x y):=by cases p <;> rfl
theorem br_bool (p x y:Bool):br p (AV.bool x) (AV.bool y)=.bool (br p x y):=by cases p <;> rfl
attribute [go_sem] br_int br_bool
theorem c94 (n a b:Int):calV U 94 [.int .i64 n,.int .i64 a,.int .i64 b]=some (.bool (outside n a b)):=by
 refine yB k94 (by kernel_rfl) rfl ?_
 simp +contextual only[go_sem,↓reduceIte,r94]
 rfl
theorem c116 (p:Bool)(n:Int):calV U 116 [.bool p,.int .i64 n]=some (.int .i64 (br p n 0)):=by
 refine yB k116 (by kernel_rfl) rfl ?_
 simp +contextual only[go_sem,↓reduceIte,r116]
theorem c124 (n a b:Int):calV U 124 [.int .i64 n,.int .i64 a,.int .i64 b]=some (.int .i64 (within n a b)):=by
 refine yB k124 (by kernel_rfl) rfl ?_
 simp +contextual only[go_sem,↓reduceIte,r124,c116]
 rfl
theorem loop_to {X:Cx}{β:Type}{fin:Fl→β}{ks:List K} [Stat] {b:RC}{σ:Type}(m:σ→Nat)(R:σ→β)(I:σ→Env→St→Prop)(x:σ){r:β}{e:Env}{s:St}
  (h:∀(L:RC) (x:σ) (e:Env) (s:St),I x e s→(∀(y:σ) (e':Env) (s':St),m y<m x→I y e' s'→goL X fin ks L e' s'=R y)→go X fin (.lp L::ks) b e s=R x)
  (hr:R x=r)(hI:I x e s):goL X fin ks b e s=r:=by
 rw[←hr];exact loop_rule X fin ks m I R h x hI
theorem ints_len (l:List Int):(ints l).length=l.length:=by simp[ints]
theorem ints_get (l:List Int)(i:Nat):(ints l)[i]? = (l[i]?).map (.int .i64 ·):=by simp[ints]
theorem zA (a b:Nat):decide ((a:Int)<(b:Int))=decide (a<b):=by congr 1;apply propext;omega
theorem g89 (l:List Int)(hlen:l.length<2^62):go U (finP U [.tmp 2]) [] r89 (yG 0 [.fz (ints l)] .nil) (ownSt U)=some (.int .i64 (firstOf l)):=by
 simp +contextual only[go_sem,↓reduceIte,r89]
 refine loop_to (σ:=Nat) (fun i=>l.length-i) (fun i=>some (AV.int .i64 (firstOf (l.drop i)))) (fun i e s=>i≤l.length∧Env.get e 5=.fz (ints l)∧Env.get e 6=.int .i64 l.length∧Env.get e 7=.int .i64 i) 0 ?_ rfl ?_
 ·rintro L i e s ⟨hi,h5,h6,h7⟩ ih
  by_cases hd:i<l.length
  ·have hx:(ints l)[i]? = some (.int .i64 l[i]):=by rw[ints_get,List.getElem?_eq_getElem hd];rfl
   have hw:IntKind.i64.wrap ((i:Int)+1)=((i+1:Nat):Int):=by rw[wrap_i64] <;> omega
   simp +contextual only[go_sem,↓reduceIte,r89_l0,h5,h6,h7,zA,hd,hx]
   rw[List.drop_eq_getElem_cons hd,firstOf]
   cases hb:l[i] != 0
   ·simp only[go_sem,hw]
    refine ih (i+1) _ _ (by omega) ⟨by omega,?_,?_,?_⟩ <;> simp +contextual only[go_sem,↓reduceIte,h5,h6,h7,hw]
   ·simp only[go_sem]
  ·have:i=l.length:=by omega
   subst this
   simp +contextual only[go_sem,↓reduceIte,r89_l0,h5,h6,h7,zA,Nat.lt_irrefl]
   rw[List.drop_length];rfl
 ·refine⟨Nat.zero_le _,?_,?_,?_⟩ <;> simp +contextual only[go_sem,↓reduceIte,ints_len] <;> rfl
theorem Cond.ind {P:Cond→Prop}(h:∀k a b mi ma p nl kids,(∀x∈kids,P x)→P (.mk k a b mi ma p nl kids)):∀c,P c:=by
 intro c
 exact Cond.rec (motive_1:=P) (motive_2:=fun l=>∀x∈l,P x) (fun k a b mi ma p nl kids ih=>h k a b mi ma p nl kids ih) (fun x hx=>by cases hx)
  (fun c l h1 h2 x hx=>by
   rcases List.mem_cons.1 hx with rfl|hx
   ·exact h1
   ·exact h2 x hx) c
theorem zR {i n:Nat}(h:i<n)(hn:n<2^62):IntKind.i64.wrap ((i:Int)+1)=((i+1:Nat):Int):=by rw[wrap_i64] <;> omega
end Go.Am
namespace Go.Am
open Go
variable [MaxLen]
set_option maxRecDepth 100000
set_option maxHeartbeats 8000000
theorem brI_some (k:IntKind)(p:Bool)(x y:Int):some (AV.int k (br p x y))=br p (some (.int k x)) (some (.int k y)):=by cases p <;> rfl
end Go.Am
namespace Go.Am
open Go
variable [MaxLen]
set_option maxRecDepth 100000
end Go.Am
namespace Go.Am
open Go
variable [MaxLen]
set_option maxRecDepth 100000
set_option maxHeartbeats 8000000
def lookK (X:Cx)(t:TypeId)(ok:Bool)(m k:Option AV)(s:St):Option (AV×St):=match m,k with
 |some m,some k=>yA (lookupA X t m k ok s) s
 |_,_=>none
theorem opA_lookup (X:Cx)(ex:Ex)(e:Env)(s:St)(t:TypeId)(m k:Operand)(ok:Bool):opA X ex e (.lookup t m k ok) s=lookK X t ok (eval X e m) (eval X e k) s:=by
 unfold lookK
 simp only[opA]
 rfl
theorem lookK_some (X:Cx)(t:TypeId)(ok:Bool)(m k:AV)(s:St):lookK X t ok (some m) (some k) s=yA (lookupA X t m k ok s) s:=(fun h=>h) rfl
attribute [go_sem] opA_lookup lookK_some
theorem cz_of {f:FuncId}{us:List AV}{v:AV}(h:calV U f us=some v)(hp:isPure f=true)(hst:zS us=true)(hf:flat v=true)(s:St):calZ U f (some us) s=some (v,s):=by
 have h:=calV_eq h (ownSt U)
 obtain⟨p1,p2⟩:=isPure_of hp
 unfold cal callF at h
 rw[p2] at h
 simp only[p1,if_true,callP,frzArgs,hst] at h
 split at h
 ·rename_i w hq
  cases h
  refine calZ_some U s ?_
  unfold callQ at hq ⊢
  split at hq
  ·rename_i v0 s' hB
   simp only[if_true] at hq
   have:=flat_frz s' _ _ _ hq hf
   subst this
   simp[hf]
  ·cases hq
 ·cases h
theorem cz89 (l:List Int)(hl:l.length<2^62)(s:St):calZ U 89 (some [.fz (ints l)]) s=some (.int .i64 (firstOf l),s) :=
 cz_of (yB k89 (by kernel_rfl) (by simp[zS,still]) (g89 l hl)) (by kernel_rfl) (by simp[zS,still]) rfl s
theorem cz89_2 (a b:Int)(s:St):calZ U 89 (some [.fz [.int .i64 a,.int .i64 b]]) s=some (.int .i64 (firstOf [a,b]),s):=cz89 [a,b] (by simp) s
theorem cz89_3 (a b c:Int)(s:St):calZ U 89 (some [.fz [.int .i64 a,.int .i64 b,.int .i64 c]]) s=some (.int .i64 (firstOf [a,b,c]),s):=cz89 [a,b,c] (by simp) s
theorem cz89_4 (a b c d:Int)(s:St):calZ U 89 (some [.fz [.int .i64 a,.int .i64 b,.int .i64 c,.int .i64 d]]) s=some (.int .i64 (firstOf [a,b,c,d]),s):=cz89 [a,b,c,d] (by simp) s
theorem z89 {args:List AV}{s:St}(h:zS args=false):callK U (calV U 89 args) 89 args s=calZ U 89 (mapO (frz U s 40) args) s:=z_of (by kernel_rfl) s h
end Go.Am
namespace Go.Am
open Go
variable [MaxLen]
set_option maxRecDepth 100000
section
variable (X:Cx)
def srcG (len:Nat)(x:Option (List AV)):Option (Nat×List AV):=match x with
 |some r=>some (len,r)
 |none=>none
def srcK (len k o:Nat)(x:Option (List AV)):Option (Nat×List AV):=match x with
 |some c=>srcG len (grab k o c)
 |none=>none
theorem srcG_some (len:Nat)(r:List AV):srcG len (some r)=some (len,r):=(fun h=>h) rfl
theorem srcK_some (len k o:Nat)(c:List AV):srcK len k o (some c)=srcG len (grab k o c):=(fun h=>h) rfl
theorem source_sl (n b o len:Nat)(cap:Option Nat)(z:Nat)(s:St):sourceA n (.sl b o len cap z) s=srcK len (len*n) o (cellsOf (s.get b)):=by
 simp only[sourceA,←cells_get,srcK,srcG]
 rfl
theorem source_nils (n:Nat)(s:St):sourceA n .nils s=some (0,[]):=(fun h=>h) rfl
def appS (t:TypeId)(n m:Nat)(new:List AV)(b o len:Nat)(esz:Nat)(s:St)(x:Option Blk):Option (AV×St):=match x with
 |some (.cells c e0 false flo fhi)=>match grab (len*n) o c with
  |some old=>if esz=n∧fhi≤o+len*n∧e0=t∧new.all noAgg=true then
    some (.sl s.next 0 (len+m) none n,(s.put b .gone).new (.cells (old++new) t false (flo-o) (fhi-o)))
   else none
  |none=>none
 |_=>none
def appD (t:TypeId)(n m:Nat)(new:List AV)(d:AV)(s:St):Option (AV×St):=match d with
 |.nils=>some (.sl s.next 0 m none n,s.new (.cells new t false 0 0))
 |.sl b o len cap esz=>match s.cells b with
  |some c=>match grab (len*n) o c with
   |some old =>
    match cap with
    |some k=>if len+m≤k then
      if esz=n then match writeCells s b (o+len*n) new with
       |some s'=>some (.sl b o (len+m) (some k) n,s')
       |none=>none
      else none
     else some (.sl s.next 0 (len+m) none n,s.new (.cells (old++new) t false 0 0))
    |none=>match s.get b with
     |some (.cells _ e0 false flo fhi) =>
      if esz=n∧fhi≤o+len*n∧e0=t∧new.all noAgg=true then
       some (.sl s.next 0 (len+m) none n,(s.put b .gone).new (.cells (old++new) t false (flo-o) (fhi-o)))
      else none
     |_=>none
   |none=>none
  |none=>none
 |_=>none
def app0 (d:AV)(s:St):Option (AV×St):=match d with
 |.nils=>some (d,s)
 |.sl ..=>some (d,s)
 |.fz _=>some (d,s)
 |_=>none
def appK (t:TypeId)(n bytes:Nat)(d:AV)(x:Option (Nat×List AV))(s:St):Option (AV×St):=match x with
 |some (m,new) =>
  if new.length≠m*n∨(lenA d+m)*bytes>2^40∨lenA d+m>2^40 then none
  else if m=0 then app0 d s else appD t n m new d s
 |none=>none
theorem app_eq (t:TypeId)(n bytes:Nat)(d x:AV)(s:St):appR t n bytes d x s=appK t n bytes d (sourceA n x s) s:=by
 unfold appR appK appD app0
 rfl
theorem zW {t:TypeId}{n bytes:Nat}{d:AV}{m:Nat}{new:List AV}{s:St}(h1:new.length=m*n)(h2:(lenA d+m)*bytes≤2^40)(h3:lenA d+m≤2^40)(h4:m≠0) :
  appK t n bytes d (some (m,new)) s=appD t n m new d s:=by
 simp only[appK]
 rw[if_neg (by omega),if_neg h4]
theorem appK_zero {t:TypeId}{n bytes:Nat}{d:AV}{s:St}(h2:lenA d*bytes≤2^40)(h3:lenA d≤2^40):appK t n bytes d (some (0,[])) s=app0 d s:=by
 simp only[appK]
 rw[if_neg (by simp;omega)]
 simp
theorem appD_nils (t:TypeId)(n m:Nat)(new:List AV)(s:St):appD t n m new .nils s=some (.sl s.next 0 m none n,s.new (.cells new t false 0 0)):=(fun h=>h) rfl
theorem appD_sl (t:TypeId)(n m:Nat)(new:List AV)(b o len esz:Nat)(s:St):appD t n m new (.sl b o len none esz) s=appS t n m new b o len esz s (s.get b):=by
 simp only[appD,appS,St.cells]
 cases s.get b with
 |none=>rfl
 |some x =>
  cases x <;> simp only
  rename_i c e0 ro lo hi
  cases ro <;> simp only
  cases grab (len*n) o c <;> rfl
theorem appS_cells {t:TypeId}{n m:Nat}{new:List AV}{b len:Nat}{s:St}{cs:List AV}{lo hi:Nat}(hl:cs.length=len*n)(hh:hi≤len*n)(hna:new.all noAgg=true) :
  appS t n m new b 0 len n s (some (.cells cs t false lo hi))=some (.sl s.next 0 (len+m) none n,(s.put b .gone).new (.cells (cs++new) t false lo hi)):=by
 simp only[appS]
 rw[←hl,grab_all]
 simp only[true_and]
 rw[if_pos ⟨by omega,hna⟩]
 simp
theorem lenA_nils:lenA .nils=0:=(fun h=>h) rfl
theorem lenA_sl (b o n:Nat)(c:Option Nat)(z:Nat):lenA (.sl b o n c z)=n:=(fun h=>h) rfl
def RowI (s:St)(B:Nat)(t:TypeId)(n i:Nat)(cs:List AV)(v:AV):Prop :=
 (i=0∧v=.nils∧cs=[])∨(0<i∧cs.length=i*n∧∃b,B≤b∧b<s.next∧v=.sl b 0 i none n∧s.get b=some (.cells cs t false 0 0))
theorem RowI.nil (s:St)(B:Nat)(t:TypeId)(n:Nat):RowI s B t n 0 [] .nils:=.inl ⟨rfl,rfl,rfl⟩
theorem RowI.noAgg {s:St}{B:Nat}{t:TypeId}{n i:Nat}{cs:List AV}{v:AV}(h:RowI s B t n i cs v):noAgg v=true:=by
 rcases h with⟨_,rfl,_⟩|⟨_,_,b,_,_,rfl,_⟩ <;> rfl
theorem RowI.cells {s:St}{B:Nat}{t:TypeId}{n i:Nat}{cs:List AV}{v:AV}(h:RowI s B t n i cs v):v.cells=[v]:=by
 rcases h with⟨_,rfl,_⟩|⟨_,_,b,_,_,rfl,_⟩ <;> rfl
theorem RowI.len {s:St}{B:Nat}{t:TypeId}{n i:Nat}{cs:List AV}{v:AV}(h:RowI s B t n i cs v):lenRL v=some (.int .i64 i):=by
 rcases h with⟨rfl,rfl,_⟩|⟨_,_,b,_,_,rfl,_⟩ <;> rfl
theorem RowI.lenA {s:St}{B:Nat}{t:TypeId}{n i:Nat}{cs:List AV}{v:AV}(h:RowI s B t n i cs v):Go.Am.lenA v=i:=by
 rcases h with⟨rfl,rfl,_⟩|⟨_,_,b,_,_,rfl,_⟩ <;> rfl
theorem RowI.mono {s s':St}{B:Nat}{t:TypeId}{n i:Nat}{cs:List AV}{v:AV}(h:RowI s B t n i cs v)(hn:s.next≤s'.next)(hg:∀j,B≤j→j<s.next→s'.get j=s.get j):RowI s' B t n i cs v:=by
 rcases h with⟨h0,h1,h2⟩|⟨h0,h1,b,h2,h3,h4,h5⟩
 ·exact .inl ⟨h0,h1,h2⟩
 ·exact .inr ⟨h0,h1,b,h2,by omega,h4,by rw[hg b h2 h3];exact h5⟩
theorem RowI.app {s:St}{B:Nat}{t:TypeId}{n i:Nat}{cs:List AV}{v:AV}(h:RowI s B t n i cs v)(hB:B≤s.next){m:Nat}{new:List AV}(hm:m≠0)(hl:new.length=m*n)(hna:new.all Go.Am.noAgg=true) :
  ∃s1,appD t n m new v s=some (.sl s.next 0 (i+m) none n,s1)∧s1.next=s.next+1∧RowI s1 B t n (i+m) (cs++new) (.sl s.next 0 (i+m) none n)∧(∀j,j<B→s1.get j=s.get j)∧(Fr s→Fr s1):=by
 rcases h with⟨rfl,rfl,rfl⟩|⟨h0,h1,b,h2,h3,rfl,h5⟩
 ·refine⟨s.new (.cells new t false 0 0),by rw[appD_nils,Nat.zero_add],rfl,.inr ⟨by omega,by rw[Nat.zero_add,List.nil_append];exact hl,s.next,hB,by rw[next_new];omega,rfl,by rw[get_new,if_pos rfl];rfl⟩,fun j hj=>by rw[get_new,if_neg (by omega)],fun hf=>hf.new _⟩
 ·refine⟨(s.put b .gone).new (.cells (cs++new) t false 0 0),by rw[appD_sl,h5,appS_cells h1 (by omega) hna],rfl,.inr ⟨by omega,by rw[List.length_append,h1,hl,Nat.add_mul],s.next,hB,by rw[next_new,next_put];omega,rfl,?_⟩,fun j hj=>?_,fun hf=>(hf.put h3 _).new _⟩
  ·rw[get_new,next_put,if_pos rfl]
  ·rw[get_new,next_put,if_neg (by omega),get_put,if_neg (by omega)]
theorem chunks_enc {A:Type}(enc:A→AV)(n:Nat)(hc:∀a,∃c,enc a=.agg c∧c.length=n):∀l:List A,chunksA true n l.length (l.flatMap fun a=>(enc a).cells)=l.map enc
 |[]=>rfl
 |a::l=>by
  obtain⟨c,h1,h2⟩:=hc a
  have ih:=chunks_enc enc n hc l
  rw[List.length_cons,chunks_agg,List.flatMap_cons,h1,cells_agg,List.map_cons,h1]
  rw[show (c++l.flatMap fun a=>(enc a).cells).take n=c from by rw[←h2,List.take_left],show (c++l.flatMap fun a=>(enc a).cells).drop n=l.flatMap fun a=>(enc a).cells from by rw[←h2,List.drop_left],ih]
theorem mapO_self {f:AV→Option AV}:∀{l:List AV},(∀x∈l,f x=some x)→mapO f l=some l
 |[],_=>rfl
 |x::l,h=>by
  rw[mapO,h x (List.mem_cons_self ..),mapO_self fun y hy=>h y (List.mem_cons_of_mem _ hy)]
theorem RowI.frz_agg {s:St}{B:Nat}{t:TypeId}{n:Nat}{A:Type}{enc:A→AV}{l:List A}{v:AV}(h:RowI s B t n l.length (l.flatMap fun a=>(enc a).cells) v)(hag:isAggT X t=some true)(hsz:size X t=some n)(hn:n≠0)
  (hc:∀a,∃c,enc a=.agg c∧c.length=n){d:Nat}(hf:∀a,frz X s d (enc a)=some (enc a)):frz X s (d+1) v=some (encS true (l.map enc)):=by
 rcases h with⟨h0,rfl,_⟩|⟨h0,h1,b,_,_,rfl,hg⟩
 ·have:l=[]:=List.length_eq_zero_iff.1 h0
  subst this;rfl
 ·rw[frz_sl,hg,frzS_cells,←h1,grab_all,hag,hsz]
  cases n with
  |zero=>exact absurd rfl hn
  |succ n =>
   rw[frzT_agg,chunks_enc enc (n+1) hc,mapO_self (fun x hx=>?_),fzK_some]
   ·cases l with
    |nil=>simp at h0
    |cons a l=>rfl
   ·obtain⟨a,_,rfl⟩:=List.mem_map.1 hx
    exact hf a
theorem RowI.frz_one {s:St}{B:Nat}{t:TypeId}{l:List AV}{v:AV}(h:RowI s B t 1 l.length l v)(hag:isAggT X t=some false)(hsz:size X t=some 1)(hna:l.all Go.Am.noAgg=true)
  {d:Nat}{r:List AV}(hf:mapO (frz X s d) l=some r):frz X s (d+1) v=some (encS true r):=by
 rcases h with⟨h0,rfl,_⟩|⟨h0,h1,b,_,_,rfl,hg⟩
 ·have:l=[]:=List.length_eq_zero_iff.1 h0
  subst this
  simp only[mapO] at hf;cases hf;rfl
 ·rw[frz_sl,hg,frzS_cells,Nat.mul_one,grab_all,hag,hsz,frzT_one,if_pos hna,chunks_all,hf,fzK_some]
  cases r with
  |nil =>
   exfalso
   cases l with
   |nil=>simp at h0
   |cons a l =>
    simp only[mapO] at hf
    split at hf <;> cases hf
  |cons a r=>rfl
end
attribute [go_sem] srcG_some srcK_some source_sl source_nils app_eq appD_nils appD_sl lenA_nils lenA_sl
end Go.Am
namespace Go.Am
open Go
variable [MaxLen]
set_option maxRecDepth 100000
set_option maxHeartbeats 8000000
theorem calv_fn (X:Cx)(g:FuncId)(x y args:List AV)(s:St):calv X (.fn (.func g) x y) args s=callK X (calV X g (x++args++y)) g (x++args++y) s:=by
 rw[←callK_eq];rfl
attribute [go_sem] calv_fn List.nil_append List.append_nil List.cons_append
theorem bin_shl1 (X:Cx)(t:TypeId)(c:Bool)(j:IntKind){n:Int}(h:0≤n∧n≤16):binA X .shl t c (.int .i64 1) (.int j n)=some (.int .i64 (2^n.toNat)):=by
 obtain⟨h0,h1⟩:=h
 have hn:¬n<0:=by omega
 simp only[binA,shiftA,hn,if_false]
 have hm:min n.toNat IntKind.i64.bits=n.toNat:=by
  have:IntKind.i64.bits=64:=rfl
  rw[this];omega
 rw[hm,Int.one_mul]
 have hp:(2:Int)^n.toNat≤2^16:=by
  have h2:(2:Nat)^n.toNat≤2^16:=Nat.pow_le_pow_right (by omega) (by omega)
  exact_mod_cast h2
 have hp0:(0:Int)≤2^n.toNat:=Int.pow_nonneg (by omega)
 rw[wrap_i64 (by omega) (by omega)]
theorem br_zeroH {p:Bool}{e x:Int}(h:br p e x=0)(he:e≠0):p=false∧x=0:=by
 cases p
 ·exact⟨rfl,h⟩
 ·exact absurd h he
theorem outside_ok {n a b:Int}(h:outside n a b=false):a≤n∧n≤b:=by
 unfold outside at h
 simp only[Bool.or_eq_false_iff,decide_eq_false_iff_not] at h
 omega
theorem noAgg_bools (l:List Bool):(zM l).all noAgg=true:=by
 rw[List.all_eq_true];intro x hx
 obtain⟨b,_,rfl⟩:=List.mem_map.1 hx;rfl
theorem noAgg_ints (l:List Int):(ints l).all noAgg=true:=by
 rw[List.all_eq_true];intro x hx
 obtain⟨b,_,rfl⟩:=List.mem_map.1 hx;rfl
theorem frz_bools (s:St)(d:Nat)(l:List Bool):mapO (frz U s (d+1)) (zM l)=some (zM l):=mapO_self fun x hx=>by
 obtain⟨b,_,rfl⟩:=List.mem_map.1 hx;rfl
theorem frz_ints (s:St)(d:Nat)(l:List Int):mapO (frz U s (d+1)) (ints l)=some (ints l):=mapO_self fun x hx=>by
 obtain⟨b,_,rfl⟩:=List.mem_map.1 hx;rfl
theorem bools_len (l:List Bool):(zM l).length=l.length:=by simp[zM]
theorem RowI.frz_bools {s:St}{B:Nat}{l:List Bool}{v:AV}(h:RowI s B 4 1 l.length (zM l) v)(d:Nat):frz U s (d+2) v=some (encS true (zM l)):=by
 have h':RowI s B 4 1 (zM l).length (zM l) v:=by rw[bools_len];exact h
 exact h'.frz_one U ag_4 sz_4 (noAgg_bools l) (Go.Am.frz_bools s d l)
theorem RowI.frz_ints {s:St}{B:Nat}{l:List Int}{v:AV}(h:RowI s B 3 1 l.length (ints l) v)(d:Nat):frz U s (d+2) v=some (encS true (ints l)):=by
 have h':RowI s B 3 1 (ints l).length (ints l) v:=by rw[ints_len];exact h
 exact h'.frz_one U ag_3 sz_3 (noAgg_ints l) (Go.Am.frz_ints s d l)
theorem bools_get (l:List Bool)(i:Nat):(zM l)[i]? = (l[i]?).map .bool:=by simp[zM]
theorem pow_le16 (n:Int)(h1:n≤16):(1:Int)≤2^n.toNat∧(2:Int)^n.toNat≤65536:=by
 obtain⟨k,hk⟩:∃k:Nat,n.toNat=k:=⟨_,rfl⟩
 rw[hk]
 have:∀k:Fin 17,(1:Int)≤2^k.val∧(2:Int)^k.val≤65536:=by decide
 exact this ⟨k,by omega⟩
theorem yE {X:Cx}{β:Type}{fin:Fl→β}{ks:List K} [Stat] {b:RC}{σ:Type}{Post:β→Prop}(m:σ→Nat)(I:σ→Env→St→Prop)(x:σ){e:Env}{s:St}
  (h:∀(L:RC) (x:σ) (e:Env) (s:St),I x e s→(∀(y:σ) (e':Env) (s':St),m y<m x→I y e' s'→Post (goL X fin ks L e' s'))→Post (go X fin (.lp L::ks) b e s))
  (hI:I x e s):Post (goL X fin ks b e s):=by
 have key:∀n (x:σ) (e:Env) (s:St),m x=n→I x e s→Post (goL X fin ks b e s):=by
  intro n
  induction n using Nat.strongRecOn with
  |ind n ih =>
   intro x e s hx hI
   rw[goL_eq]
   exact h b x e s hI fun y e' s' hy hI'=>ih (m y) (by omega) y e' s' rfl hI'
 exact key _ x e s rfl hI
theorem RowI.app2 {s:St}{B:Nat}{t:TypeId}{n i:Nat}{cs:List AV}{v:AV}(h:RowI s B t n i cs v)(hB:B≤s.next){m:Nat}{new:List AV}(hm:m≠0)(hl:new.length=m*n)(hna:new.all Go.Am.noAgg=true) :
  ∃s1,appD t n m new v s=some (.sl s.next 0 (i+m) none n,s1)∧s1.next=s.next+1∧RowI s1 B t n (i+m) (cs++new) (.sl s.next 0 (i+m) none n)∧(∀j,j≠s.next→v≠.sl j 0 i none n→s1.get j=s.get j)∧(Fr s→Fr s1):=by
 rcases h with⟨rfl,rfl,rfl⟩|⟨h0,h1,b,h2,h3,rfl,h5⟩
 ·refine⟨s.new (.cells new t false 0 0),by rw[appD_nils,Nat.zero_add],rfl,.inr ⟨by omega,by rw[Nat.zero_add,List.nil_append];exact hl,s.next,hB,by rw[next_new];omega,rfl,by rw[get_new,if_pos rfl];rfl⟩,fun j hj _=>by rw[get_new,if_neg (by omega)],fun hf=>hf.new _⟩
 ·refine⟨(s.put b .gone).new (.cells (cs++new) t false 0 0),by rw[appD_sl,h5,appS_cells h1 (by omega) hna],rfl,.inr ⟨by omega,by rw[List.length_append,h1,hl,Nat.add_mul],s.next,hB,by rw[next_new,next_put];omega,rfl,?_⟩,fun j hj hv=>?_,fun hf=>(hf.put h3 _).new _⟩
  ·rw[get_new,next_put,if_pos rfl]
  ·have:b≠j:=fun e=>hv (by rw[e])
   rw[get_new,next_put,if_neg (by omega),get_put,if_neg this]
theorem RowI.far {s:St}{B:Nat}{t:TypeId}{n i:Nat}{cs:List AV}{v:AV}(h:RowI s B t n i cs v){j:Nat}(hj:s.next≤j∨j<B):v≠.sl j 0 i none n:=by
 rintro rfl
 rcases h with⟨_,h,_⟩|⟨_,_,b,h1,h2,h3,_⟩
 ·cases h
 ·cases h3;omega
theorem RowI.other {s:St}{B:Nat}{t:TypeId}{n i:Nat}{cs:List AV}{v:AV}(h:RowI s B t n i cs v){j:Nat}{c:List AV}{t':TypeId}{lo hi:Nat}(hj:s.get j=some (.cells c t' false lo hi))(ht:t'≠t):v≠.sl j 0 i none n:=by
 rintro rfl
 rcases h with⟨_,h,_⟩|⟨_,_,b,h1,h2,h3,h4⟩
 ·cases h
 ·cases h3
  rw[hj] at h4
  cases h4;exact ht rfl
theorem go_drcU {β:Type}{c:Code}{n:Nat}{l:List ROC}(h:rcDrc U c=some (n,l))(fin:Fl→β)(ks:List K)(e:Env)(s:St):go U fin ks (.raw c) e s =
  bif noneC s.next s l then goC U (backC U fin ks c e s) fin ks s.next l e (s.upto (s.next+n)) [s.upto (s.next+n)] [] else backC U fin ks c e s:=go_drc U h fin ks e s
theorem repeatL_one (x:AV):∀n:Nat,repeatL n [x]=List.replicate n x
 |0=>rfl
 |n+1=>by rw[repeatL,repeatL_one x n];rfl
theorem lay_set:∀(cs:List AV) (i:Nat) (x:AV),i<cs.length→lay i [x] cs=some (cs.set i x)
 |[],i,x,h=>by simp at h
 |c::cs,0,x,h=>by rw[lay_zero,lay_nil];rfl
 |c::cs,i+1,x,h=>by
  rw[lay_succ,lay_set cs i x (by simpa using h)];rfl
def part {A:Type}(l:List A)(z:A)(n i:Nat):List A:=l.take i++List.replicate (n-i) z
theorem part_len {A:Type}(l:List A)(z:A){n i:Nat}(h:l.length=n)(hi:i≤n):(part l z n i).length=n:=by
 simp[part,h];omega
theorem part_set {A:Type}(l:List A)(z:A){n i:Nat}(h:l.length=n)(hi:i<n):(part l z n i).set i (l[i]'(by omega))=part l z n (i+1):=by
 unfold part
 have h1:(l.take i).length=i:=by rw[List.length_take];omega
 rw[List.set_append,if_neg (by omega),h1,Nat.sub_self,show n-i=(n-(i+1))+1 by omega,List.replicate_succ,List.set_cons_zero,List.take_succ_eq_append_getElem (by omega),List.append_assoc]
 rfl
theorem part_full {A:Type}(l:List A)(z:A){n:Nat}(h:l.length=n):part l z n n=l:=by
 unfold part;rw[Nat.sub_self,List.replicate_zero,List.append_nil,←h,List.take_length]
theorem frz_slI {s:St}{b d:Nat}{cap:Option Nat}{l:List Int}(hg:s.get b=some (.cells (ints l) 3 false 0 0)):frz U s (d+2) (.sl b 0 l.length cap 1)=some (.fz (ints l)):=by
 have e:l.length=(ints l).length:=(ints_len l).symm
 rw[frz_sl,hg,frzS_cells,Nat.mul_one,e,grab_all,ag_3,sz_3,frzT_one,if_pos (noAgg_ints l),chunks_all,frz_ints,fzK_some]
def idxO (P:Int→Bool):Nat→List Int→Int
 |_,[] => -1
 |i,x::l=>bif P x then (i:Int) else idxO P (i+1) l
theorem idxO_any (P:Int→Bool):∀(l:List Int) (i:Nat),decide (idxO P i l≥0)=l.any P
 |[],i=>by simp[idxO]
 |x::l,i=>by
  rw[idxO,List.any_cons]
  cases P x with
  |true=>simp
  |false=>rw[cond_false,idxO_any P l (i+1),Bool.false_or]
theorem z125 {args:List AV}{s:St}(h:zS args=false):callK U (calV U 125 args) 125 args s=calZ U 125 (mapO (frz U s 40) args) s:=z_of (by kernel_rfl) s h
def sameI:List Int→List Int→Bool
 |[],[]=>true
 |x::a,y::b=>bif x != y then false else sameI a b
 |_,_=>false
theorem sameI_len:∀{a b:List Int},a.length≠b.length→sameI a b=false
 |[],[],h=>absurd rfl h
 |[],_::_,_=>rfl
 |_::_,[],_=>rfl
 |a::x,b::y,h=>by
  rw[sameI,sameI_len (fun e=>h (by simp[e]))]
  cases a != b <;> rfl
theorem sameI_refl:∀a:List Int,sameI a a=true
 |[]=>rfl
 |a::x=>by rw[sameI,sameI_refl x];simp
theorem c109 (na nb:Bool)(a b:List Int)(ha:a.length<2^62):calV U 109 [encS na (ints a),encS nb (ints b)]=some (.bool (sameI a b)):=by
 refine yB k109 (by kernel_rfl) (by simp[zS,still_encS,still]) ?_
 simp (maxSteps:=2000000) +contextual only[go_sem,↓reduceIte,r109,zX,ints_len]
 cases hl:((a.length:Int) != (b.length:Int)) with
 |true =>
  have:a.length≠b.length:=by simp at hl;omega
  rw[sameI_len this]
  simp +contextual only[go_sem,↓reduceIte]
 |false =>
  have hl:a.length=b.length:=by simp at hl;omega
  simp +contextual only[go_sem,↓reduceIte]
  refine loop_to (σ:=Nat) (fun i=>a.length-i) (fun i=>some (AV.bool (sameI (a.drop i) (b.drop i)))) (fun i e s=>i≤a.length∧Env.get e 0=encS na (ints a)∧Env.get e 1=encS nb (ints b)∧Env.get e 5=.int .i64 i) 0 ?_ rfl ?_
  ·rintro L i e s ⟨hi,g0,g1,g5⟩ ih
   by_cases hd:i<a.length
   ·have hd':i<b.length:=by omega
    have hx:ixRA 1 (encS na (ints a)) (.int .i64 (i:Int))=some (.fp [.int .i64 a[i]] 0):=ixa_encS 1 na (ints a) .i64 i (.int .i64 a[i]) (by omega) (by rw[Int.toNat_natCast,ints_get,List.getElem?_eq_getElem hd];rfl) rfl (by decide)
    have hy:ixRA 1 (encS nb (ints b)) (.int .i64 (i:Int))=some (.fp [.int .i64 b[i]] 0):=ixa_encS 1 nb (ints b) .i64 i (.int .i64 b[i]) (by omega) (by rw[Int.toNat_natCast,ints_get,List.getElem?_eq_getElem hd'];rfl) rfl (by decide)
    have hw:=zR hd (by omega)
    rw[List.drop_eq_getElem_cons hd,List.drop_eq_getElem_cons hd',sameI]
    simp +contextual only[go_sem,↓reduceIte,r109_l0,g0,g1,g5,zA,hd,hx,hy,zX,ints_len]
    cases hb:a[i] != b[i] with
    |true=>simp +contextual only[go_sem,↓reduceIte]
    |false =>
     simp +contextual only[go_sem,↓reduceIte,hw]
     refine ih (i+1) _ _ (by omega) ⟨by omega,?_,?_,?_⟩ <;> simp +contextual only[go_sem,↓reduceIte,g0,g1,g5,hw]
   ·have:i=a.length:=by omega
    subst this
    simp +contextual only[go_sem,↓reduceIte,r109_l0,g0,g1,g5,zA,Nat.lt_irrefl,zX,ints_len]
    rw[List.drop_length,hl,List.drop_length];rfl
  ·refine⟨Nat.zero_le _,?_,?_,?_⟩ <;> simp +contextual only[go_sem,↓reduceIte] <;> rfl
theorem c56 (na nb:Bool)(a b:List Int)(ha:a.length<2^62):calV U 56 [encS na (ints a),encS nb (ints b)]=some (.bool (sameI a b)):=by
 refine yB k56 (by kernel_rfl) (by simp[zS,still_encS,still]) ?_
 have:=c109 na nb a b ha
 simp (maxSteps:=2000000) +contextual only[go_sem,↓reduceIte,r56,this]
def listR (a:List Int)(e bad:Int)(b:List Int):Bool:=bif bad != 0 then ((a.length:Int)==0)&&e==bad else (e==0)&&sameI a b
theorem c36 (na nb:Bool)(a b:List Int)(e bad:Int)(ha:a.length<2^62):calV U 36 [encS na (ints a),.int .i64 e,.int .i64 bad,encS nb (ints b)]=some (.bool (listR a e bad b)):=by
 refine yB k36 (by kernel_rfl) (by simp[zS,still_encS,still]) ?_
 have:=c56 na nb a b ha
 unfold listR
 cases hb:bad != 0 <;> simp (maxSteps:=2000000) +contextual only[go_sem,↓reduceIte,r36,this,zX,ints_len,hb]
end Go.Am
namespace Go.Am
open Go
variable [MaxLen]
set_option maxRecDepth 100000
set_option maxHeartbeats 4000000
def encN (a:Auto):AV:=encS a.nNl (a.next.map zG)
def encFs (a:Auto):AV:=encS a.fNl (a.fires.map zC)
theorem zU (a:Auto):encA a=.agg [.int .i64 a.lines,encN a,encFs a]:=rfl
theorem yH (a:Auto):still (encA a)=true:=by simp[encA,still,zS,still_encS]
theorem ixa_rowI {nl:Bool}{l:List (Bool×List Int)}{i:Nat}(h:i<l.length):ixRA 1 (encS nl (l.map zG)) (.int .i64 (i:Int))=some (.fp [encS l[i].1 (ints l[i].2)] 0):=by
 have:=ixa_encS 1 nl (l.map zG) .i64 i (zG l[i]) (by omega) (by rw[Int.toNat_natCast,List.getElem?_map,List.getElem?_eq_getElem h];rfl) (by rw[zG,zD];rfl) (by decide)
 rw[zG,zD] at this
 exact this
theorem ixa_rowB {nl:Bool}{l:List (Bool×List Bool)}{i:Nat}(h:i<l.length):ixRA 1 (encS nl (l.map zC)) (.int .i64 (i:Int))=some (.fp [encS l[i].1 (zM l[i].2)] 0):=by
 have:=ixa_encS 1 nl (l.map zC) .i64 i (zC l[i]) (by omega) (by rw[Int.toNat_natCast,List.getElem?_map,List.getElem?_eq_getElem h];rfl) (by rw[zC,zD];rfl) (by decide)
 rw[zC,zD] at this
 exact this
theorem ixa_intV {nl:Bool}{l:List Int}{i:Nat}(h:i<l.length):ixRA 1 (encS nl (ints l)) (.int .i64 (i:Int))=some (.fp [.int .i64 l[i]] 0) :=
 ixa_encS 1 nl (ints l) .i64 i (.int .i64 l[i]) (by omega) (by rw[Int.toNat_natCast,ints_get,List.getElem?_eq_getElem h];rfl) rfl (by decide)
theorem ixa_boolV {nl:Bool}{l:List Bool}{i:Nat}(h:i<l.length):ixRA 1 (encS nl (zM l)) (.int .i64 (i:Int))=some (.fp [.bool l[i]] 0) :=
 ixa_encS 1 nl (zM l) .i64 i (.bool l[i]) (by omega) (by rw[Int.toNat_natCast,bools_get,List.getElem?_eq_getElem h];rfl) rfl (by decide)
def mOf (lines:Int):Int:=2^lines.toNat
def ckRows (m n:Int):List (Bool×List Int)→List (Bool×List Bool)→Int
 |[],_=>0
 |r::l,f=>br ((r.2.length:Int) != m||(((f.headD (true,[])).2.length:Int) != m)) 2 <| br (r.2.any fun x=>outside x 0 (n-1)) 10 <| ckRows m n l f.tail
def ckA (a:Auto):Int :=
 br (outside a.lines 1 4) 3 <| br ((a.next.length:Int)==0) 12 <| br (decide ((a.next.length:Int)>256)) 5 <| br ((a.fires.length:Int) != a.next.length) 2 <| ckRows (mOf a.lines) a.next.length a.next a.fires
theorem c50 (a:Auto):calV U 50 [encA a]=some (.int .i64 (ckA a)):=by
 refine yB k50 (by kernel_rfl) (by simp[zS,yH]) ?_
 rw[zU,ckA]
 have nn:=zH a.nNl (a.next.map zG)
 have nf:=zH a.fNl (a.fires.map zC)
 have ln:=zX a.nNl (a.next.map zG)
 have lf:=zX a.fNl (a.fires.map zC)
 have cn:=zD a.nNl (a.next.map zG)
 have cf:=zD a.fNl (a.fires.map zC)
 rw[List.length_map] at ln lf
 unfold encN encFs
 cases ho:outside a.lines 1 4 with
 |true =>
  simp (maxSteps:=2000000) +contextual only[go_sem,↓reduceIte,r50,c94,nn,nf,cn,cf,ho]
 |false =>
 have hl:1≤a.lines∧a.lines≤4:=by
  simp only[outside,Bool.or_eq_false_iff,decide_eq_false_iff_not] at ho;omega
 have hsh:=bin_shl1 U 3 true .i64 (n:=a.lines) (show 0≤a.lines∧a.lines≤16 by omega)
 simp (maxSteps:=2000000) +contextual only[go_sem,↓reduceIte,r50,c94,nn,nf,cn,cf,ln,lf,ho]
 simp only[brI_some]
 refine br_r fun h1=>?_
 refine br_r fun h2=>?_
 refine br_r fun h3=>?_
 have hn:a.next.length≤256:=by simp at h2;omega
 have hfl:a.fires.length=a.next.length:=by simp at h3;omega
 have hp:=pow_le16 a.lines (by omega)
 have hw1:IntKind.i64.wrap ((a.next.length:Int)-1)=(a.next.length:Int)-1:=by rw[wrap_i64] <;> omega
 refine loop_to (σ:=Nat) (fun i=>a.next.length-i) (fun i=>some (AV.int .i64 (ckRows (mOf a.lines) a.next.length (a.next.drop i) (a.fires.drop i)))) (fun i e s=>i≤a.next.length∧Env.get e 1=.ptr 8 0∧Env.get e 3=.int .i64 (i:Nat)∧8<s.next ∧
  s.get 8=some (.cells [.int .i64 a.lines,encS a.nNl (a.next.map zG),encS a.fNl (a.fires.map zC)] 72 false 0 0)) 0 ?_ (by rw[List.drop_zero,List.drop_zero]) ?_
 ·rintro L i e s ⟨hi,g1,g3,nx,gs⟩ IH
  by_cases hd:i<a.next.length
  ·have hw:=zR hd (by omega)
   have hx:=ixa_rowI (nl:=a.nNl) hd
   have hy:=ixa_rowB (nl:=a.fNl) (show i<a.fires.length by omega)
   have hla:=zX a.next[i].1 (ints a.next[i].2)
   have hlb:=zX a.fires[i].1 (zM a.fires[i].2)
   rw[ints_len] at hla
   rw[bools_len] at hlb
   have hfd:(a.fires.drop i).headD (true,[])=a.fires[i]:=by rw[List.drop_eq_getElem_cons (show i<a.fires.length by omega)];rfl
   have hft:(a.fires.drop i).tail=a.fires.drop (i+1):=by rw[List.tail_drop]
   rw[List.drop_eq_getElem_cons hd,ckRows,hfd,hft]
   generalize hR:a.next[i]=R at *
   generalize hF:a.fires[i]=F at *
   have ne8:∀q,(s.next+q=8)=False:=fun q=>by simp;omega
   cases h4:((R.2.length:Int) != mOf a.lines) with
   |true =>
    unfold mOf at h4
    simp (maxSteps:=2000000) +contextual only[go_sem,↓reduceIte,r50_l1,g1,g3,gs,zA,hd,ln,lf,hx,hy,hla,hlb,hsh,h4]
    all_goals rfl
   |false =>
   cases h5:((F.2.length:Int) != mOf a.lines) with
   |true =>
    unfold mOf at h4 h5
    simp (maxSteps:=2000000) +contextual only[go_sem,↓reduceIte,r50_l1,g1,g3,gs,zA,hd,ln,lf,hx,hy,hla,hlb,hsh,h4,h5]
    all_goals rfl
   |false =>
    unfold mOf at h4 h5
    simp (maxSteps:=2000000) +contextual only[go_sem,↓reduceIte,r50_l1,g1,g3,gs,zA,hd,ln,lf,hx,hy,hla,hlb,hsh,h4,h5]
    have hRl:R.2.length≤65536:=by simp at h4;omega
    refine loop_to (σ:=Nat) (fun x=>R.2.length-x) (fun x=>some (AV.int .i64 (br ((R.2.drop x).any fun y=>outside y 0 ((a.next.length:Int)-1)) 10 (ckRows (mOf a.lines) a.next.length (a.next.drop (i+1)) (a.fires.drop (i+1)))))) (fun x e s=>x≤R.2.length∧Env.get e 1=.ptr 8 0∧Env.get e 3=.int .i64 (i:Nat)∧Env.get e 4=.int .i64 (x:Nat)∧8<s.next ∧
     s.get 8=some (.cells [.int .i64 a.lines,encS a.nNl (a.next.map zG),encS a.fNl (a.fires.map zC)] 72 false 0 0)) 0 ?_ (by rw[List.drop_zero];rfl) ?_
    ·rintro L' x e' s' ⟨hx',g1',g3',g4',nx',gs'⟩ IH'
     by_cases hd':x<R.2.length
     ·have hw':=zR hd' (by omega)
      have hxx:=ixa_intV (nl:=R.1) hd'
      rw[List.drop_eq_getElem_cons hd',List.any_cons]
      cases ho2:outside R.2[x] 0 ((a.next.length:Int)-1) with
      |true=>simp (maxSteps:=2000000) +contextual only[go_sem,↓reduceIte,r50_l0,g1',g3',g4',gs',zA,hd',ln,hx,hla,hxx,hw1,c94,ho2,Bool.true_or]
      |false =>
       simp (maxSteps:=2000000) +contextual only[go_sem,↓reduceIte,r50_l0,g1',g3',g4',gs',zA,hd',ln,hx,hla,hxx,hw1,c94,ho2,Bool.false_or,hw']
       refine IH' (x+1) _ _ (by omega) ⟨by omega,?_,?_,?_,?_,?_⟩
       all_goals simp +contextual only[go_sem,↓reduceIte,g1',g3',g4',gs',hw',zJ]
       all_goals omega
     ·have:x=R.2.length:=by omega
      subst this
      simp (maxSteps:=2000000) +contextual only[go_sem,↓reduceIte,r50_l0,g1',g3',g4',gs',zA,Nat.lt_irrefl,ln,hx,hla,hw]
      rw[List.drop_length]
      refine IH (i+1) _ _ (by omega) ⟨by omega,?_,?_,?_,?_⟩
      all_goals try simp +contextual only[go_sem,↓reduceIte,g1',g3',gs',hw]
      all_goals omega
    ·refine⟨Nat.zero_le _,?_,?_,?_,?_,?_⟩
     all_goals try simp +contextual only[go_sem,↓reduceIte,g1,g3,gs]
     all_goals first|rfl|omega
  ·have:i=a.next.length:=by omega
   subst this
   simp +contextual only[go_sem,↓reduceIte,r50_l1,g1,g3,gs,zA,Nat.lt_irrefl,ln]
   rw[List.drop_length,ckRows]
 ·refine⟨Nat.zero_le _,?_,?_,?_,?_⟩
  all_goals try simp +contextual only[go_sem,↓reduceIte]
  all_goals rfl
def cellsA (a:Auto):List AV:=[.int .i64 a.lines,encS a.nNl (a.next.map zG),encS a.fNl (a.fires.map zC)]
theorem c126 (x:Int)(a:Auto)(hn:a.next.length≤2^40):calV U 126 [.int .i64 x,.fp (cellsA a) 0]=some (.bool (outside x 0 ((a.next.length:Int)-1))):=by
 refine yB k126 (by kernel_rfl) (by simp[zS,still]) ?_
 have ln:=zX a.nNl (a.next.map zG)
 rw[List.length_map] at ln
 have hp:outside x 0 ((a.next.length:Int)-1)=(decide (x<0)||decide (x≥(a.next.length:Int))):=by
  unfold outside
  congr 1
  congr 1
  apply propext;omega
 rw[hp]
 unfold cellsA
 cases h:decide (x<0) <;> simp +contextual only[go_sem,↓reduceIte,r126,ln,h]
 all_goals rfl
theorem cv126 (x:Int)(a:Auto)(hn:a.next.length≤2^40)(s:St):calv U (.fn (.func 126) [] [.fp (cellsA a) 0]) [.int .i64 x] s=some (.bool (outside x 0 ((a.next.length:Int)-1)),s):=by
 have h:=c126 x a hn
 simp only[calv_fn,List.nil_append,List.cons_append,h,callK_some]
theorem c179P (P:Int→Bool)(fn:AV)(hst:still fn=true)(hf:∀x s,calv U fn [.int .i64 x] s=some (.bool (P x),s))(nl:Bool)(l:List Int)(hl:l.length≤2^40):calV U 179 [encS nl (ints l),fn]=some (.int .i64 (idxO P 0 l)):=by
 refine yB k179 (by kernel_rfl) (by simp[zS,still_encS,hst]) ?_
 simp +contextual only[go_sem,↓reduceIte,r179,zX,ints_len]
 refine loop_to (σ:=Nat) (fun i=>l.length-i) (fun i=>some (AV.int .i64 (idxO P i (l.drop i)))) (fun i e s=>i≤l.length∧Env.get e 0=encS nl (ints l)∧Env.get e 1=fn∧Env.get e 7=.int .i64 l.length∧Env.get e 8=.int .i64 i) 0 ?_ rfl ?_
 ·rintro L i e s ⟨hi,g0,g1,g7,g8⟩ ih
  by_cases hd:i<l.length
  ·have hx:=ixa_intV (nl:=nl) hd
   have hw:=zR hd (by omega)
   rw[List.drop_eq_getElem_cons hd,idxO]
   have hc:=hf l[i]
   cases hb:P l[i] with
   |true=>simp +contextual only[go_sem,↓reduceIte,r179_l0,g0,g1,g7,g8,zA,hd,hx,hc,hb]
   |false =>
    simp +contextual only[go_sem,↓reduceIte,r179_l0,g0,g1,g7,g8,zA,hd,hx,hc,hb,hw]
    refine ih (i+1) _ _ (by omega) ⟨by omega,?_,?_,?_,?_⟩ <;> simp +contextual only[go_sem,↓reduceIte,g0,g1,g7,g8,hw]
  ·have:i=l.length:=by omega
   subst this
   simp +contextual only[go_sem,↓reduceIte,r179_l0,g0,g1,g7,g8,zA,Nat.lt_irrefl]
   rw[List.drop_length];rfl
 ·refine⟨Nat.zero_le _,?_,?_,?_,?_⟩ <;> simp +contextual only[go_sem,↓reduceIte] <;> rfl
theorem c125P (P:Int→Bool)(fn:AV)(hst:still fn=true)(hf:∀x s,calv U fn [.int .i64 x] s=some (.bool (P x),s))(nl:Bool)(l:List Int)(hl:l.length≤2^40):calV U 125 [encS nl (ints l),fn]=some (.bool (l.any P)):=by
 refine yB k125 (by kernel_rfl) (by simp[zS,still_encS,hst]) ?_
 have h:=c179P P fn hst hf nl l hl
 have hi:=idxO_any P l 0
 simp +contextual only[go_sem,↓reduceIte,r125,h,hi]
theorem c58 (a:Auto)(hn:a.next.length≤2^40)(hr:∀r∈a.next,r.2.length≤2^40):calV U 58 [encA a]=some (.int .i64 (ckA a)):=by
 refine yB k58 (by kernel_rfl) (by simp[zS,yH]) ?_
 rw[zU]
 have nn:=zH a.nNl (a.next.map zG)
 have nf:=zH a.fNl (a.fires.map zC)
 have ln:=zX a.nNl (a.next.map zG)
 have lf:=zX a.fNl (a.fires.map zC)
 have cn:=zD a.nNl (a.next.map zG)
 have cf:=zD a.fNl (a.fires.map zC)
 rw[List.length_map] at ln lf
 unfold encN encFs
 have hz:zS [.sl 29 0 4 (some 4) 1]=false:=rfl
 simp (maxSteps:=2000000) +contextual only[go_sem,↓reduceIte,r58,c124,c116,nn,nf,cn,cf,ln,lf,z89,cz89_4]
 rw[show within a.lines 1 4=br (outside a.lines 1 4) 3 0 from rfl,ckA]
 cases ho:outside a.lines 1 4 with
 |true=>rfl
 |false =>
 cases h1:((a.next.length:Int)==0) with
 |true=>rfl
 |false =>
 cases h2:decide ((a.next.length:Int)>256) with
 |true=>rfl
 |false =>
 cases h3:((a.fires.length:Int) != a.next.length) with
 |true=>rfl
 |false =>
 have hl:1≤a.lines∧a.lines≤4:=by
  simp only[outside,Bool.or_eq_false_iff,decide_eq_false_iff_not] at ho;omega
 have hsh:=bin_shl1 U 3 true .i64 (n:=a.lines) (show 0≤a.lines∧a.lines≤16 by omega)
 have hp:=pow_le16 a.lines (by omega)
 have hn:a.next.length≤256:=by simp at h2;omega
 have hfl:a.fires.length=a.next.length:=by simp at h3;omega
 simp only[br_false]
 rw[show (firstOf [0,0,0,0] != 0)=false from rfl,br_false]
 refine loop_to (σ:=Nat) (fun i=>a.next.length-i) (fun i=>some (AV.int .i64 (ckRows (mOf a.lines) a.next.length (a.next.drop i) (a.fires.drop i)))) (fun i e s=>i≤a.next.length∧Env.get e 1=.ptr 8 0∧Env.get e 36=encS a.nNl (a.next.map zG)∧Env.get e 37=.int .i64 a.next.length∧Env.get e 38=.int .i64 (i:Nat)∧8<s.next∧Fr s ∧
  s.get 8=some (.cells [.int .i64 a.lines,encS a.nNl (a.next.map zG),encS a.fNl (a.fires.map zC)] 69 false 0 0)) 0 ?_ (by rw[List.drop_zero,List.drop_zero]) ?_
 ·rintro L i e s ⟨hi,g1,g36,g37,g38,nx,fr,gs⟩ IH
  by_cases hd:i<a.next.length
  ·have hw:=zR hd (by omega)
   have hx:=ixa_rowI (nl:=a.nNl) hd
   have hy:=ixa_rowB (nl:=a.fNl) (show i<a.fires.length by omega)
   have hla:=zX a.next[i].1 (ints a.next[i].2)
   have hlb:=zX a.fires[i].1 (zM a.fires[i].2)
   rw[ints_len] at hla
   rw[bools_len] at hlb
   have hfd:(a.fires.drop i).headD (true,[])=a.fires[i]:=by rw[List.drop_eq_getElem_cons (show i<a.fires.length by omega)];rfl
   have hft:(a.fires.drop i).tail=a.fires.drop (i+1):=by rw[List.tail_drop]
   rw[List.drop_eq_getElem_cons hd,ckRows,hfd,hft]
   generalize hR:a.next[i]=R at *
   generalize hF:a.fires[i]=F at *
   have ne8:∀q,(s.next+q=8)=False:=fun q=>by simp;omega
   have ne8':(s.next=8)=False:=by simp;omega
   have hfk:=fr.at
   have hrl:=hr R (by rw[←hR];exact List.getElem_mem hd)
   have hz:=fun s=>cz_of (c125P _ (.fn (.func 126) [] [.fp (cellsA a) 0]) (by simp[still,zS]) (fun x s=>cv126 x a (by omega) s) R.1 R.2 hrl) (by kernel_rfl) (by simp[zS,still,still_encS]) rfl s
   have hst:zS [encS R.1 (ints R.2),.fn (.func 126) [] [.ptr 8 0]]=false:=by simp[zS,still,still_encS]
   have hz2:∀j,zS [.sl j 0 2 (some 2) 1]=false:=fun _=>rfl
   simp only[cellsA] at hz
   simp (maxSteps:=2000000) +contextual only[go_sem,↓reduceIte,r58_l0,g1,g36,g37,g38,gs,zA,hd,ln,lf,hx,hy,hla,hlb,hsh,ne8,ne8',hfk,z125 hst,frz_encS,hz,c116,z89,cz89_2,hz2,Nat.add_assoc,Nat.left_eq_add]
   have hm:(2:Int)^a.lines.toNat=mOf a.lines:=rfl
   rw[hm]
   cases h4:((R.2.length:Int) != mOf a.lines||(F.2.length:Int) != mOf a.lines) with
   |true=>rfl
   |false =>
   cases h5:(R.2.any fun x=>outside x 0 ((a.next.length:Int)-1)) with
   |true=>rfl
   |false =>
   simp only[br_false]
   rw[show (firstOf [0,0] != 0)=false from rfl,br_false]
   refine IH (i+1) _ _ (by omega) ⟨by omega,?_,?_,?_,?_,?_,?_,?_⟩
   case refine_6 =>
    repeat first|exact fr|apply Fr.new|apply Fr.put|apply Fr.upto
    all_goals try simp +contextual only[go_sem,↓reduceIte]
    all_goals omega
   all_goals try simp +contextual only[go_sem,↓reduceIte,g1,g36,g37,gs,hw,ne8,ne8']
   all_goals omega
  ·have:i=a.next.length:=by omega
   subst this
   simp +contextual only[go_sem,↓reduceIte,r58_l0,g37,g38,zA,Nat.lt_irrefl]
   rw[List.drop_length,ckRows]
 ·refine⟨Nat.zero_le _,?_,?_,?_,?_,?_,?_,?_⟩
  case refine_6 =>
   repeat first|exact Fr.own|apply Fr.new|apply Fr.put|apply Fr.upto
   all_goals simp +contextual only[go_sem,↓reduceIte]
  all_goals try simp +contextual only[go_sem,↓reduceIte]
  all_goals rfl
end Go.Am
namespace Go.Am
open Go
structure Fa where
 n:Nat
 m:Nat
 nx:Nat→Nat→Nat
 fr:Nat→Nat→Bool
structure Fa.ok (A:Fa):Prop where
 pos:0<A.n
 lt:∀s x,s<A.n→x<A.m→A.nx s x<A.n
def Fa.E (A:Fa)(f:Nat→Nat)(u v:Nat):Prop:=∀x,x<A.m→A.fr u x=A.fr v x∧f (A.nx u x)=f (A.nx v x)
theorem Fa.E_refl (A:Fa)(f:Nat→Nat)(u:Nat):A.E f u u:=fun _ _=>⟨rfl,rfl⟩
theorem Fa.E.symm {A:Fa}{f:Nat→Nat}{u v:Nat}(h:A.E f u v):A.E f v u:=fun x hx=>⟨(h x hx).1.symm,(h x hx).2.symm⟩
theorem Fa.E.trans {A:Fa}{f:Nat→Nat}{u v w:Nat}(h:A.E f u v)(k:A.E f v w):A.E f u w:=fun x hx=>⟨(h x hx).1.trans (k x hx).1,(h x hx).2.trans (k x hx).2⟩
def alkN (A:Fa)(f:Nat→Nat)(u v:Nat):Nat→Bool
 |0=>true
 |x+1=>alkN A f u v x&&(A.fr u x==A.fr v x&&f (A.nx u x)==f (A.nx v x))
theorem alkN_iff (A:Fa)(f:Nat→Nat)(u v:Nat):∀k,alkN A f u v k=true↔∀x,x<k→A.fr u x=A.fr v x∧f (A.nx u x)=f (A.nx v x)
 |0=>by simp[alkN]
 |k+1=>by
  rw[alkN,Bool.and_eq_true,alkN_iff A f u v k,Bool.and_eq_true,beq_iff_eq,beq_iff_eq]
  constructor
  ·rintro⟨h1,h2⟩ x hx
   by_cases e:x=k
   ·subst e;exact h2
   ·exact h1 x (by omega)
  ·intro h
   exact⟨fun x hx=>h x (by omega),h k (by omega)⟩
def alk (A:Fa)(f:Nat→Nat)(u v:Nat):Bool:=alkN A f u v A.m
theorem alk_iff (A:Fa)(f:Nat→Nat)(u v:Nat):alk A f u v=true↔A.E f u v:=alkN_iff A f u v A.m
def scanD (al:Nat→Bool):Nat→Nat→Nat
 |0,c=>c
 |k+1,c=>scanD al k (bif al k then k else c)
theorem scanD_spec (al:Nat→Bool):∀k c,k≤c→(scanD al k c≤c)∧(scanD al k c=c∨(scanD al k c<k∧al (scanD al k c)=true))∧∀o,o<k→o<scanD al k c→al o=false
 |0,c,_=>⟨Nat.le_refl _,.inl rfl,fun o h=>by omega⟩
 |k+1,c,hk=>by
  rw[scanD]
  cases ha:al k with
  |true =>
   obtain⟨h1,h2,h3⟩:=scanD_spec al k k (Nat.le_refl _)
   simp only[cond_true]
   refine⟨by omega,.inr ?_,fun o ho hs=>h3 o (by omega) hs⟩
   rcases h2 with h2|⟨h2,h4⟩
   ·rw[h2];exact⟨by omega,ha⟩
   ·exact⟨by omega,h4⟩
  |false =>
   obtain⟨h1,h2,h3⟩:=scanD_spec al k c (by omega)
   simp only[cond_false]
   refine⟨h1,?_,fun o ho hs=>?_⟩
   ·rcases h2 with h2|⟨h2,h4⟩
    ·exact .inl h2
    ·exact .inr ⟨by omega,h4⟩
   ·by_cases e:o=k
    ·subst e;exact ha
    ·exact h3 o (by omega) hs
def cano (A:Fa)(f:Nat→Nat)(s:Nat):Nat:=scanD (alk A f s) s s
theorem cano_spec (A:Fa)(f:Nat→Nat)(s:Nat):cano A f s≤s∧A.E f s (cano A f s)∧∀o,o<cano A f s→¬A.E f s o:=by
 obtain⟨h1,h2,h3⟩:=scanD_spec (alk A f s) s s (Nat.le_refl _)
 refine⟨h1,?_,fun o ho he=>?_⟩
 ·rcases h2 with h2|⟨_,h2⟩
  ·show A.E f s (scanD _ s s)
   rw[h2];exact A.E_refl f s
  ·exact (alk_iff A f _ _).1 h2
 ·have:=h3 o (by unfold cano at ho;omega) ho
  rw[(alk_iff A f _ _).2 he] at this
  cases this
theorem cano_iff (A:Fa)(f:Nat→Nat)(u v:Nat):cano A f u=cano A f v↔A.E f u v:=by
 obtain⟨u1,u2,u3⟩:=cano_spec A f u
 obtain⟨v1,v2,v3⟩:=cano_spec A f v
 constructor
 ·intro h
  rw[h] at u2
  exact u2.trans v2.symm
 ·intro h
  have a:¬cano A f u<cano A f v:=fun hl=>v3 _ hl (h.symm.trans u2)
  have b:¬cano A f v<cano A f u:=fun hl=>u3 _ hl (h.trans v2)
  omega
structure Can (g:Nat→Nat):Prop where
 le:∀s,g s≤s
 fix:∀s,g (g s)=g s
theorem Can.min {g:Nat→Nat}(h:Can g){s u:Nat}(e:g u=g s):g s≤u:=by rw[←e];exact h.le u
theorem cano_can (A:Fa)(f:Nat→Nat):Can (cano A f):=⟨fun s=>(cano_spec A f s).1,fun s=>((cano_iff A f _ _).2 (cano_spec A f s).2.1).symm⟩
def Fine (g f:Nat→Nat):Prop:=∀u v,g u=g v→f u=f v
theorem fine_next (A:Fa){f:Nat→Nat}(h:Fine (cano A f) f):Fine (cano A (cano A f)) (cano A f):=fun u v e=>by
 rw[cano_iff] at e ⊢
 exact fun x hx=>⟨(e x hx).1,h _ _ (e x hx).2⟩
def cntF (g:Nat→Nat):Nat→Nat
 |0=>0
 |k+1=>cntF g k+if g k=k then 1 else 0
theorem cntF_le (g:Nat→Nat):∀k,cntF g k≤k
 |0=>Nat.le_refl _
 |k+1=>by have:=cntF_le g k;rw[cntF];split <;> omega
theorem cntF_mono {g h:Nat→Nat}(H:∀s,g s=s→h s=s):∀k,cntF g k≤cntF h k
 |0=>Nat.le_refl _
 |k+1=>by
  have:=cntF_mono H k
  rw[cntF,cntF]
  by_cases e:g k=k
  ·rw[if_pos e,if_pos (H k e)];omega
  ·rw[if_neg e];split <;> omega
theorem cntF_lt {g h:Nat→Nat}(H:∀s,g s=s→h s=s){t:Nat}(h1:h t=t)(h2:g t≠t):∀k,t<k→cntF g k<cntF h k
 |k+1,hk=>by
  rw[cntF,cntF]
  by_cases e:t=k
  ·subst e
   have:=cntF_mono H t
   rw[if_neg h2,if_pos h1];omega
  ·have:=cntF_lt H h1 h2 k (by omega)
   by_cases e:g k=k
   ·rw[if_pos e,if_pos (H k e)];omega
   ·rw[if_neg e];split <;> omega
theorem grow {g h:Nat→Nat}(cg:Can g)(ch:Can h)(hf:Fine h g){n s:Nat}(hs:s<n)(hne:h s≠g s):cntF g n<cntF h n:=by
 refine cntF_lt (t:=h s) (fun u hu=>?_) (ch.fix s) (fun e=>?_) n (Nat.lt_of_le_of_lt (ch.le s) hs)
 ·have:=hf (h u) u (ch.fix u)
  have:=cg.min this
  have:=ch.le u
  omega
 ·have:=hf (h s) s (ch.fix s)
  exact hne (by omega)
def same2 (g f:Nat→Nat):Nat→Bool
 |0=>true
 |k+1=>same2 g f k&&g k==f k
theorem same2_iff (g f:Nat→Nat):∀k,same2 g f k=true↔∀s,s<k→g s=f s
 |0=>by simp[same2]
 |k+1=>by
  rw[same2,Bool.and_eq_true,same2_iff g f k,beq_iff_eq]
  constructor
  ·rintro⟨h1,h2⟩ s hs
   by_cases e:s=k
   ·subst e;exact h2
   ·exact h1 s (by omega)
  ·intro h
   exact⟨fun s hs=>h s (by omega),h k (by omega)⟩
def rclF (A:Fa):Nat→(Nat→Nat)→Nat→Nat
 |0,f=>f
 |r+1,f=>bif same2 (cano A f) f A.n then f else rclF A r (cano A f)
theorem same2_false {g f:Nat→Nat}{k:Nat}(h:same2 g f k=false):∃s,s<k∧g s≠f s:=by
 refine Classical.byContradiction fun hc=>?_
 have:same2 g f k=true:=(same2_iff g f k).2 fun s hs=>Classical.byContradiction fun e=>hc ⟨s,hs,e⟩
 rw[h] at this;cases this
theorem rclF_stable (A:Fa):∀(r:Nat) (f:Nat→Nat),Can f→Fine (cano A f) f→A.n<cntF f A.n+r→∀s,s<A.n→cano A (rclF A r f) s=rclF A r f s
 |0,f,_,_,h=>by have:=cntF_le f A.n;omega
 |r+1,f,cf,hf,h=>by
  rw[rclF]
  cases hs:same2 (cano A f) f A.n with
  |true=>exact (same2_iff _ _ _).1 hs
  |false =>
   obtain⟨s,h1,h2⟩:=same2_false hs
   have:=grow cf (cano_can A f) hf h1 h2
   exact rclF_stable A r _ (cano_can A f) (fine_next A hf) (by omega)
theorem rclF_can (A:Fa):∀(r:Nat) (f:Nat→Nat),Can f→Can (rclF A r f)
 |0,f,h=>h
 |r+1,f,h=>by
  rw[rclF]
  cases same2 (cano A f) f A.n with
  |true=>exact h
  |false=>exact rclF_can A r _ (cano_can A f)
structure Bis (A:Fa)(B:Nat→Nat→Prop):Prop where
 lt:∀u v,B u v→u<A.n∧v<A.n
 fr:∀u v,B u v→∀x,x<A.m→A.fr u x=A.fr v x
 nx:∀u v,B u v→∀x,x<A.m→B (A.nx u x) (A.nx v x)
theorem rclF_bis {A:Fa}{B:Nat→Nat→Prop}(hB:Bis A B):∀(r:Nat) (f:Nat→Nat),(∀u v,B u v→f u=f v)→∀u v,B u v→rclF A r f u=rclF A r f v
 |0,f,h=>h
 |r+1,f,h=>by
  rw[rclF]
  cases same2 (cano A f) f A.n with
  |true=>exact h
  |false=>exact rclF_bis hB r _ fun u v huv=>(cano_iff A f u v).2 fun x hx=>⟨hB.fr u v huv x hx,h _ _ (hB.nx u v huv x hx)⟩
def clsR (A:Fa):Nat→Nat:=rclF A (A.n+1) fun _=>0
theorem clsR_can (A:Fa):Can (clsR A):=rclF_can A _ _ ⟨fun _=>Nat.zero_le _,fun _=>rfl⟩
theorem clsR_iff {A:Fa}(h:A.ok){u v:Nat}(hu:u<A.n)(hv:v<A.n):clsR A u=clsR A v↔A.E (clsR A) u v:=by
 have h0:0<cntF (fun _=>0) A.n:=by
  have:∀k,0<k→0<cntF (fun _=>0) k:=by
   intro k hk
   induction k with
   |zero=>omega
   |succ k ih =>
    rw[cntF]
    by_cases e:k=0
    ·subst e;decide
    ·have:=ih (by omega);omega
  exact this _ h.pos
 have st:=rclF_stable A (A.n+1) (fun _=>0) ⟨fun _=>Nat.zero_le _,fun _=>rfl⟩ (fun _ _ _=>rfl) (by omega)
 have e:=cano_iff A (clsR A) u v
 rw[←e]
 show _↔cano A (rclF A (A.n+1) fun _=>0) u=cano A (rclF A (A.n+1) fun _=>0) v
 rw[st u hu,st v hv]
 rfl
theorem clsR_bis {A:Fa}{B:Nat→Nat→Prop}(hB:Bis A B)(u v:Nat)(h:B u v):clsR A u=clsR A v:=rclF_bis hB _ _ (fun _ _ _=>rfl) u v h
theorem clsR_isBis {A:Fa}(h:A.ok):Bis A fun u v=>u<A.n∧v<A.n∧clsR A u=clsR A v :=
 ⟨fun u v k=>⟨k.1,k.2.1⟩,fun u v k x hx=>(((clsR_iff h k.1 k.2.1).1 k.2.2) x hx).1,fun u v k x hx=>⟨h.lt u x k.1 hx,h.lt v x k.2.1 hx,(((clsR_iff h k.1 k.2.1).1 k.2.2) x hx).2⟩⟩
def gt (l:List Nat)(i:Nat):Nat:=l.getD i 0
theorem gt_set (l:List Nat)(i x j:Nat):gt (l.set i x) j=if i=j∧j<l.length then x else gt l j:=by
 unfold gt
 rw[List.getD_eq_getElem?_getD,List.getD_eq_getElem?_getD,List.getElem?_set]
 by_cases e:i=j
 ·subst e
  by_cases h:i<l.length
  ·simp[h]
  ·simp[h]
 ·simp[e]
theorem gt_app (l:List Nat)(x j:Nat):gt (l++[x]) j=if j=l.length then x else gt l j:=by
 unfold gt
 rw[List.getD_eq_getElem?_getD,List.getD_eq_getElem?_getD]
 by_cases e:j=l.length
 ·subst e;simp
 ·rw[if_neg e]
  by_cases h:j<l.length
  ·rw[List.getElem?_append_left h]
  ·rw[List.getElem?_eq_none (by simp;omega),List.getElem?_eq_none (by omega)]
structure Pt where
 list:List Nat
 place:List Nat
 set:List Nat
 bg:List Nat
 en:List Nat
 mr:List Nat
structure Pt.Wf (n:Nat)(p:Pt):Prop where
 ll:p.list.length=n
 lp:p.place.length=n
 ls:p.set.length=n
 le:p.en.length=p.bg.length
 lm:p.mr.length=p.bg.length
 pl:∀u,u<n→gt p.place u<n∧gt p.list (gt p.place u)=u
 li:∀i,i<n→gt p.list i<n∧gt p.place (gt p.list i)=i
 st:∀u,u<n→gt p.set u<p.bg.length∧gt p.bg (gt p.set u)≤gt p.place u∧gt p.place u<gt p.en (gt p.set u)
 sp:∀k,k<p.bg.length→gt p.bg k<gt p.en k∧gt p.en k≤n∧∀i,gt p.bg k≤i→i<gt p.en k→gt p.set (gt p.list i)=k
 mr:∀k,k<p.bg.length→gt p.bg k+gt p.mr k≤gt p.en k
def Pt.Mk (p:Pt)(u:Nat):Prop:=gt p.place u<gt p.bg (gt p.set u)+gt p.mr (gt p.set u)
instance (p:Pt)(u:Nat):Decidable (p.Mk u):=inferInstanceAs (Decidable (_<_))
def Pt.markd (p:Pt)(u:Nat):Pt×Bool :=
 bif decide (gt p.place u<gt p.bg (gt p.set u)+gt p.mr (gt p.set u)) then (p,false) else
  ({ p with
   list:=(p.list.set (gt p.place u) (gt p.list (gt p.bg (gt p.set u)+gt p.mr (gt p.set u)))).set (gt p.bg (gt p.set u)+gt p.mr (gt p.set u)) u
   place:=(p.place.set (gt p.list (gt p.bg (gt p.set u)+gt p.mr (gt p.set u))) (gt p.place u)).set u (gt p.bg (gt p.set u)+gt p.mr (gt p.set u))
   mr:=p.mr.set (gt p.set u) (gt p.mr (gt p.set u)+1) },gt p.mr (gt p.set u)+1==1)
theorem markd_spec {n:Nat}{p:Pt}(h:p.Wf n){u:Nat}(hu:u<n):(p.markd u).1.Wf n∧(p.markd u).1.set=p.set∧(p.markd u).1.bg=p.bg∧(p.markd u).1.en=p.en∧(∀v,v<n→((p.markd u).1.Mk v↔p.Mk v∨v=u)) ∧
  ((p.markd u).2=true↔gt p.mr (gt p.set u)=0)∧(∀k,k<p.bg.length→(0<gt (p.markd u).1.mr k↔0<gt p.mr k∨k=gt p.set u)):=by
 obtain⟨hs1,hs2,hs3⟩:=h.st u hu
 obtain⟨hk1,hk2,hk3⟩:=h.sp _ hs1
 obtain⟨hp1,hp2⟩:=h.pl u hu
 unfold Pt.markd
 generalize hs:gt p.set u=s at *
 generalize ha:gt p.place u=a at *
 generalize ht:gt p.bg s+gt p.mr s=t at *
 by_cases hm:a<t
 ·rw[decide_eq_true hm,cond_true]
  refine⟨h,rfl,rfl,rfl,fun v hv=>⟨.inl,?_⟩,?_,fun k hk=>⟨.inl,?_⟩⟩
  ·rintro (h1|rfl)
   ·exact h1
   ·unfold Pt.Mk;rw[hs,ha,ht];exact hm
  ·simp;omega
  ·rintro (h1|rfl)
   ·exact h1
   ·simp only;omega
 ·rw[decide_eq_false hm,cond_false]
  have htn:t<n:=by omega
  obtain⟨hl1,hl2⟩:=h.li t htn
  have hso:=hk3 t (by omega) (by omega)
  generalize ho:gt p.list t=o at *
  have L:∀i,gt ((p.list.set a o).set t u) i=if i=t then u else if i=a then o else gt p.list i:=fun i=>by
   rw[gt_set,gt_set,List.length_set,h.ll]
   by_cases e1:i=t
   ·subst e1;rw[if_pos ⟨rfl,htn⟩,if_pos rfl]
   ·rw[if_neg (by omega),if_neg e1]
    by_cases e2:i=a
    ·subst e2;rw[if_pos ⟨rfl,hp1⟩,if_pos rfl]
    ·rw[if_neg (by omega),if_neg e2]
  have P:∀v,gt ((p.place.set o a).set u t) v=if v=u then t else if v=o then a else gt p.place v:=fun v=>by
   rw[gt_set,gt_set,List.length_set,h.lp]
   by_cases e1:v=u
   ·subst e1;rw[if_pos ⟨rfl,hu⟩,if_pos rfl]
   ·rw[if_neg (by omega),if_neg e1]
    by_cases e2:v=o
    ·subst e2;rw[if_pos ⟨rfl,hl1⟩,if_pos rfl]
    ·rw[if_neg (by omega),if_neg e2]
  have M:∀k,gt (p.mr.set s (gt p.mr s+1)) k=if k=s then gt p.mr s+1 else gt p.mr k:=fun k=>by
   rw[gt_set,h.lm]
   by_cases e:k=s
   ·subst e;rw[if_pos ⟨rfl,hs1⟩,if_pos rfl]
   ·rw[if_neg (by omega),if_neg e]
  have hou:o=u↔a=t:=by
   constructor
   ·intro e;rw[e,ha] at hl2;exact hl2
   ·intro e;rw[←e,hp2] at ho;exact ho.symm
  refine⟨⟨?_,?_,h.ls,h.le,?_,fun v hv=>?_,fun i hi=>?_,fun v hv=>?_,fun k hk=>?_,fun k hk=>?_⟩,rfl,rfl,rfl,fun v hv=>?_,?_,fun k hk=>?_⟩
  ·simp[h.ll]
  ·simp[h.lp]
  ·simp[h.lm]
  ·show gt ((p.place.set o a).set u t) v<n∧gt ((p.list.set a o).set t u) (gt ((p.place.set o a).set u t) v)=v
   rw[P v]
   by_cases e1:v=u
   ·rw[if_pos e1];exact⟨htn,by rw[L,if_pos rfl,e1]⟩
   ·rw[if_neg e1]
    by_cases e2:v=o
    ·rw[if_pos e2]
     exact⟨hp1,by rw[L,if_neg (fun e=>e1 (e2.trans (hou.2 e))),if_pos rfl,e2]⟩
    ·rw[if_neg e2]
     obtain⟨q1,q2⟩:=h.pl v hv
     refine⟨q1,?_⟩
     rw[L,if_neg (fun e=>e2 (by rw[←q2,e,ho])),if_neg (fun e=>e1 (by rw[←q2,e,hp2])),q2]
  ·show gt ((p.list.set a o).set t u) i<n∧gt ((p.place.set o a).set u t) (gt ((p.list.set a o).set t u) i)=i
   rw[L i]
   by_cases e1:i=t
   ·rw[if_pos e1];exact⟨hu,by rw[P,if_pos rfl,e1]⟩
   ·rw[if_neg e1]
    by_cases e2:i=a
    ·rw[if_pos e2]
     exact⟨hl1,by rw[P,if_neg (fun e=>e1 (e2.trans (hou.1 e))),if_pos rfl,e2]⟩
    ·rw[if_neg e2]
     obtain⟨q1,q2⟩:=h.li i hi
     refine⟨q1,?_⟩
     rw[P,if_neg (fun e=>e2 (by rw[←q2,e,ha])),if_neg (fun e=>e1 (by rw[←q2,e,hl2])),q2]
  ·show gt p.set v<p.bg.length∧gt p.bg (gt p.set v)≤gt ((p.place.set o a).set u t) v∧gt ((p.place.set o a).set u t) v<gt p.en (gt p.set v)
   rw[P v]
   by_cases e1:v=u
   ·rw[if_pos e1,e1,hs];exact⟨hs1,by omega,by omega⟩
   ·rw[if_neg e1]
    by_cases e2:v=o
    ·rw[if_pos e2,e2,hso];exact⟨hs1,by omega,by omega⟩
    ·rw[if_neg e2];exact h.st v hv
  ·obtain⟨q1,q2,q3⟩:=h.sp k hk
   refine⟨q1,q2,fun i hi1 hi2=>?_⟩
   show gt p.set (gt ((p.list.set a o).set t u) i)=k
   have:=q3 i hi1 hi2
   rw[L i]
   by_cases e1:i=t
   ·rw[if_pos e1,hs];rw[e1,ho,hso] at this;exact this
   ·rw[if_neg e1]
    by_cases e2:i=a
    ·rw[if_pos e2,hso];rw[e2,hp2,hs] at this;exact this
    ·rw[if_neg e2];exact this
  ·show gt p.bg k+gt (p.mr.set s (gt p.mr s+1)) k≤gt p.en k
   rw[M k]
   by_cases e:k=s
   ·rw[if_pos e,e];omega
   ·rw[if_neg e];exact h.mr k hk
  ·show gt ((p.place.set o a).set u t) v<gt p.bg (gt p.set v)+gt (p.mr.set s (gt p.mr s+1)) (gt p.set v)↔p.Mk v∨v=u
   unfold Pt.Mk
   rw[P v,M]
   by_cases e1:v=u
   ·rw[if_pos e1,e1,hs,if_pos rfl]
    exact⟨fun _=>.inr rfl,fun _=>by omega⟩
   ·rw[if_neg e1]
    by_cases e2:v=o
    ·have hat:a≠t:=fun e=>e1 (e2.trans (hou.2 e))
     rw[if_pos e2,e2,hso,if_pos rfl,hl2]
     constructor
     ·intro hh;exfalso;omega
     ·rintro (hh|hh)
      ·exfalso;omega
      ·exact absurd (e2.trans hh) e1
    ·rw[if_neg e2]
     by_cases e3:gt p.set v=s
     ·have hne:gt p.place v≠t:=fun e=>e2 (by rw[←(h.pl v hv).2,e,ho])
      rw[e3,if_pos rfl]
      constructor
      ·intro hh;exact .inl (by omega)
      ·rintro (hh|hh)
       ·omega
       ·exact absurd hh e1
     ·rw[if_neg e3]
      exact⟨.inl,fun hh=>hh.resolve_right e1⟩
  ·simp
  ·show 0<gt (p.mr.set s (gt p.mr s+1)) k↔_
   rw[M k]
   by_cases e:k=s
   ·rw[if_pos e];exact⟨fun _=>.inr e,fun _=>by omega⟩
   ·rw[if_neg e];exact⟨.inl,fun hh=>hh.resolve_right e⟩
def setAll (k:Nat):List Nat→List Nat→List Nat
 |[],s=>s
 |u::l,s=>setAll k l (s.set u k)
theorem setAll_len (k:Nat):∀(l s:List Nat),(setAll k l s).length=s.length
 |[],s=>rfl
 |u::l,s=>by rw[setAll,setAll_len k l,List.length_set]
theorem setAll_gt (k:Nat):∀(l s:List Nat) (v:Nat),v<s.length→gt (setAll k l s) v=if v∈l then k else gt s v
 |[],s,v,_=>by simp[setAll]
 |u::l,s,v,hv=>by
  rw[setAll,setAll_gt k l _ v (by rw[List.length_set];exact hv),gt_set]
  by_cases h1:v∈l
  ·rw[if_pos h1,if_pos (List.mem_cons_of_mem _ h1)]
  ·rw[if_neg h1]
   by_cases h2:u=v
   ·rw[if_pos ⟨h2,hv⟩,if_pos (by rw[h2];exact List.mem_cons_self ..)]
   ·rw[if_neg (by omega),if_neg (by simp[h1];omega)]
def piece (l:List Nat)(a b:Nat):List Nat:=(l.drop a).take (b-a)
theorem piece_mem {l:List Nat}{a b x:Nat}(hb:b≤l.length):x∈piece l a b↔∃i,a≤i∧i<b∧gt l i=x:=by
 unfold piece
 rw[List.mem_take_iff_getElem]
 constructor
 ·rintro⟨j,hj,e⟩
  rw[List.length_drop] at hj
  rw[List.getElem_drop] at e
  refine⟨a+j,by omega,by omega,?_⟩
  unfold gt
  rw[List.getD_eq_getElem?_getD,List.getElem?_eq_getElem (by omega)]
  exact e
 ·rintro⟨i,h1,h2,e⟩
  refine⟨i-a,by rw[List.length_drop];omega,?_⟩
  rw[List.getElem_drop]
  unfold gt at e
  rw[List.getD_eq_getElem?_getD,List.getElem?_eq_getElem (by omega)] at e
  simp only[Option.getD_some] at e
  rw[←e]
  congr 1
  omega
def Pt.cut (p:Pt)(s:Nat):Pt×Bool :=
 bif gt p.mr s==gt p.en s-gt p.bg s then ({ p with mr:=p.mr.set s 0 },false) else
 bif decide (2*gt p.mr s>gt p.en s-gt p.bg s) then
  ({ p with mr:=p.mr.set s 0++[0],bg:=p.bg++[gt p.bg s+gt p.mr s],en:=p.en.set s (gt p.bg s+gt p.mr s)++[gt p.en s],set:=setAll p.bg.length (piece p.list (gt p.bg s+gt p.mr s) (gt p.en s)) p.set },true)
 else
  ({ p with mr:=p.mr.set s 0++[0],bg:=p.bg.set s (gt p.bg s+gt p.mr s)++[gt p.bg s],en:=p.en++[gt p.bg s+gt p.mr s],set:=setAll p.bg.length (piece p.list (gt p.bg s) (gt p.bg s+gt p.mr s)) p.set },true)
structure Cut (n:Nat)(p:Pt)(s:Nat)(r:Pt×Bool):Prop where
 wf:r.1.Wf n
 len:r.1.bg.length=p.bg.length+(bif r.2 then 1 else 0)
 num:∀v,v<n→gt r.1.set v=gt p.set v∨(gt p.set v=s∧gt r.1.set v=p.bg.length∧r.2=true)
 eq:∀u v,u<n→v<n→(gt r.1.set u=gt r.1.set v↔gt p.set u=gt p.set v∧(gt p.set u=s→(p.Mk u↔p.Mk v)))
 mr:∀k,k<p.bg.length→k≠s→gt r.1.mr k=gt p.mr k
 mk0:gt r.1.mr s=0
 mkK:r.2=true→gt r.1.mr p.bg.length=0
 Mk:∀v,v<n→gt p.set v≠s→(r.1.Mk v↔p.Mk v)
theorem cut_part {n:Nat}{p:Pt}(h:p.Wf n){s:Nat}(hs:s<p.bg.length)(b:Bool){f t f' t':Nat}(hb:gt p.bg s≤f∧f<t∧t≤gt p.en s)(hb':gt p.bg s≤f'∧f'<t'∧t'≤gt p.en s)
  (hm:∀i,gt p.bg s≤i→i<gt p.en s→((f≤i∧i<t↔(i<gt p.bg s+gt p.mr s↔b=true))∧(f'≤i∧i<t'↔¬(f≤i∧i<t)))){bg1 en1:List Nat}
  (hbl:bg1.length=p.bg.length)(hel:en1.length=p.bg.length)(hbg:∀k,gt bg1 k=if k=s then f' else gt p.bg k)(hen:∀k,gt en1 k=if k=s then t' else gt p.en k) :
  Cut n p s ({ p with mr:=p.mr.set s 0++[0],bg:=bg1++[f],en:=en1++[t],set:=setAll p.bg.length (piece p.list f t) p.set },true):=by
 obtain⟨k1,k2,k3⟩:=h.sp s hs
 have hS:∀v,v<n→gt (setAll p.bg.length (piece p.list f t) p.set) v=if gt p.set v=s∧(p.Mk v↔b=true) then p.bg.length else gt p.set v:=fun v hv=>by
  rw[setAll_gt _ _ _ _ (by rw[h.ls];exact hv)]
  obtain⟨q1,q2⟩:=h.pl v hv
  have hi:v∈piece p.list f t↔gt p.set v=s∧(p.Mk v↔b=true):=by
   rw[piece_mem (by rw[h.ll];omega)]
   constructor
   ·rintro⟨i,h1,h2,rfl⟩
    have hin:i<n:=by omega
    have e:=(h.li i hin).2
    have es:=k3 i (by omega) (by omega)
    refine⟨es,?_⟩
    have:=((hm i (by omega) (by omega)).1).1 ⟨h1,h2⟩
    unfold Pt.Mk
    rw[e,es];exact this
   ·rintro⟨h1,h2⟩
    obtain⟨_,r2,r3⟩:=h.st v hv
    rw[h1] at r2 r3
    unfold Pt.Mk at h2
    rw[h1] at h2
    obtain⟨h3,h4⟩:=((hm _ r2 r3).1).2 h2
    exact⟨_,h3,h4,q2⟩
  by_cases e:v∈piece p.list f t
  ·rw[if_pos e,if_pos (hi.1 e)]
  ·rw[if_neg e,if_neg fun c=>e (hi.2 c)]
 have hK:∀v,v<n→gt p.set v<p.bg.length:=fun v hv=>(h.st v hv).1
 have hM:∀k,gt (p.mr.set s 0++[0]) k=if k=s∨k=p.bg.length then 0 else gt p.mr k:=fun k=>by
  rw[gt_app,gt_set,List.length_set,h.lm]
  by_cases e1:k=p.bg.length
  ·rw[if_pos e1,if_pos (.inr e1)]
  ·rw[if_neg e1]
   by_cases e2:k=s
   ·rw[if_pos ⟨e2.symm,by omega⟩,if_pos (.inl e2)]
   ·rw[if_neg (by omega),if_neg (by omega)]
 have hB:∀k,gt (bg1++[f]) k=if k=p.bg.length then f else if k=s then f' else gt p.bg k:=fun k=>by rw[gt_app,hbl,hbg]
 have hE:∀k,gt (en1++[t]) k=if k=p.bg.length then t else if k=s then t' else gt p.en k:=fun k=>by rw[gt_app,hel,hen]
 have hin:∀v,v<n→gt p.set v=s→((f≤gt p.place v∧gt p.place v<t↔(p.Mk v↔b=true))∧(f'≤gt p.place v∧gt p.place v<t'↔¬(f≤gt p.place v∧gt p.place v<t))):=fun v hv e=>by
  obtain⟨_,r2,r3⟩:=h.st v hv
  rw[e] at r2 r3
  have:=hm _ r2 r3
  unfold Pt.Mk
  rw[e];exact this
 refine⟨⟨h.ll,h.lp,by rw[setAll_len];exact h.ls,by simp[hel,hbl],by simp[h.lm,hbl],h.pl,h.li,fun v hv=>?_,fun k hk=>?_,fun k hk=>?_⟩,by simp[hbl],fun v hv=>?_,fun u v hu hv=>?_,fun k hk hne=>?_,?_,fun _=>?_,fun v hv hne=>?_⟩
 ·show gt (setAll p.bg.length (piece p.list f t) p.set) v<(bg1++[f]).length∧gt (bg1++[f]) (gt (setAll p.bg.length (piece p.list f t) p.set) v)≤gt p.place v∧gt p.place v<gt (en1++[t]) (gt (setAll p.bg.length (piece p.list f t) p.set) v)
  rw[hS v hv,hB,hE,List.length_append,hbl]
  have hkv:=hK v hv
  obtain⟨r1,r2,r3⟩:=h.st v hv
  by_cases c:gt p.set v=s∧(p.Mk v↔b=true)
  ·have:=((hin v hv c.1).1).2 c.2
   simp only[if_pos c]
   exact⟨by simp,this.1,this.2⟩
  ·simp only[if_neg c]
   have hne:¬gt p.set v=p.bg.length:=by omega
   rw[if_neg hne,if_neg hne]
   by_cases e:gt p.set v=s
   ·have:=((hin v hv e).2).2 fun c2=>c ⟨e,((hin v hv e).1).1 c2⟩
    rw[if_pos e,if_pos e]
    exact⟨by simp;omega,this.1,this.2⟩
   ·rw[if_neg e,if_neg e]
    exact⟨by simp;omega,r2,r3⟩
 ·show gt (bg1++[f]) k<gt (en1++[t]) k∧gt (en1++[t]) k≤n∧∀i,gt (bg1++[f]) k≤i→i<gt (en1++[t]) k→gt (setAll p.bg.length (piece p.list f t) p.set) (gt p.list i)=k
  have hk:k<p.bg.length+1:=by simpa[hbl] using hk
  rw[hB,hE]
  by_cases e1:k=p.bg.length
  ·rw[if_pos e1,if_pos e1]
   refine⟨hb.2.1,by omega,fun i h1 h2=>?_⟩
   obtain⟨q1,q2⟩:=h.li i (by omega)
   have es:=k3 i (by omega) (by omega)
   rw[hS _ q1,if_pos ⟨es,((hin _ q1 es).1).1 (by rw[q2];exact⟨h1,h2⟩)⟩,e1]
  ·rw[if_neg e1,if_neg e1]
   by_cases e2:k=s
   ·rw[if_pos e2,if_pos e2]
    refine⟨hb'.2.1,by omega,fun i h1 h2=>?_⟩
    obtain⟨q1,q2⟩:=h.li i (by omega)
    have es:=k3 i (by omega) (by omega)
    have hno:¬(f≤i∧i<t):=((hm i (by omega) (by omega)).2).1 ⟨h1,h2⟩
    rw[hS _ q1,if_neg (fun c=>hno (by have:=((hin _ q1 es).1).2 c.2;rw[q2] at this;exact this)),es,e2]
   ·rw[if_neg e2,if_neg e2]
    obtain⟨r1,r2,r3⟩:=h.sp k (by omega)
    refine⟨r1,r2,fun i h1 h2=>?_⟩
    obtain⟨q1,_⟩:=h.li i (by omega)
    have es:=r3 i h1 h2
    rw[hS _ q1,if_neg (fun c=>e2 (es.symm.trans c.1)),es]
 ·show gt (bg1++[f]) k+gt (p.mr.set s 0++[0]) k≤gt (en1++[t]) k
  have hk:k<p.bg.length+1:=by simpa[hbl] using hk
  rw[hB,hE,hM]
  by_cases e1:k=p.bg.length
  ·rw[if_pos e1,if_pos e1,if_pos (.inr e1)];omega
  ·rw[if_neg e1,if_neg e1]
   by_cases e2:k=s
   ·rw[if_pos e2,if_pos e2,if_pos (.inl e2)];omega
   ·rw[if_neg e2,if_neg e2,if_neg (by omega)]
    exact h.mr k (by omega)
 ·show gt (setAll p.bg.length (piece p.list f t) p.set) v=_∨_
  rw[hS v hv]
  by_cases c:gt p.set v=s∧(p.Mk v↔b=true)
  ·right
   refine⟨c.1,?_,rfl⟩
   rw[if_pos c]
  ·rw[if_neg c];exact .inl rfl
 ·show gt (setAll p.bg.length (piece p.list f t) p.set) u=gt (setAll p.bg.length (piece p.list f t) p.set) v↔_
  have hku:=hK u hu
  have hkv:=hK v hv
  rw[hS u hu,hS v hv]
  by_cases cu:gt p.set u=s∧(p.Mk u↔b=true)
  ·by_cases cv:gt p.set v=s∧(p.Mk v↔b=true)
   ·rw[if_pos cu,if_pos cv]
    exact⟨fun _=>⟨cu.1.trans cv.1.symm,fun _=>cu.2.trans cv.2.symm⟩,fun _=>rfl⟩
   ·rw[if_pos cu,if_neg cv]
    constructor
    ·intro e;omega
    ·rintro⟨e1,e2⟩
     exact absurd ⟨e1.symm.trans cu.1,(e2 cu.1).symm.trans cu.2⟩ cv
  ·by_cases cv:gt p.set v=s∧(p.Mk v↔b=true)
   ·rw[if_neg cu,if_pos cv]
    constructor
    ·intro e;omega
    ·rintro⟨e1,e2⟩
     have es:=e1.trans cv.1
     exact absurd ⟨es,(e2 es).trans cv.2⟩ cu
   ·rw[if_neg cu,if_neg cv]
    constructor
    ·intro e
     refine⟨e,fun es=>?_⟩
     have c1:¬(p.Mk u↔b=true):=fun c=>cu ⟨es,c⟩
     have c2:¬(p.Mk v↔b=true):=fun c=>cv ⟨e.symm.trans es,c⟩
     cases b with
     |true=>simp only[iff_true] at c1 c2;exact⟨fun x=>absurd x c1,fun x=>absurd x c2⟩
     |false =>
      simp only[Bool.false_eq_true,iff_false,Classical.not_not] at c1 c2
      exact⟨fun _=>c2,fun _=>c1⟩
    ·exact fun e=>e.1
 ·show gt (p.mr.set s 0++[0]) k=gt p.mr k
  rw[hM,if_neg (by omega)]
 ·show gt (p.mr.set s 0++[0]) s=0
  rw[hM,if_pos (.inl rfl)]
 ·show gt (p.mr.set s 0++[0]) p.bg.length=0
  rw[hM,if_pos (.inr rfl)]
 ·show gt p.place v<gt (bg1++[f]) (gt (setAll p.bg.length (piece p.list f t) p.set) v)+gt (p.mr.set s 0++[0]) (gt (setAll p.bg.length (piece p.list f t) p.set) v)↔p.Mk v
  have hkv:=hK v hv
  rw[hS v hv,if_neg (fun c=>hne c.1),hB,hM,if_neg (by omega),if_neg hne,if_neg (by omega)]
  rfl
theorem cut_spec {n:Nat}{p:Pt}(h:p.Wf n){s:Nat}(hs:s<p.bg.length)(hm:0<gt p.mr s):Cut n p s (p.cut s):=by
 obtain⟨k1,k2,k3⟩:=h.sp s hs
 have kk:=h.mr s hs
 unfold Pt.cut
 cases hall:gt p.mr s==gt p.en s-gt p.bg s with
 |true =>
  have hall:gt p.mr s=gt p.en s-gt p.bg s:=by simpa using hall
  rw[cond_true]
  have hM:∀k,gt (p.mr.set s 0) k=if k=s then 0 else gt p.mr k:=fun k=>by
   rw[gt_set,h.lm]
   by_cases e:k=s
   ·rw[if_pos ⟨e.symm,by omega⟩,if_pos e]
   ·rw[if_neg (by omega),if_neg e]
  refine⟨⟨h.ll,h.lp,h.ls,h.le,by simp[h.lm],h.pl,h.li,h.st,h.sp,fun k hk=>?_⟩,rfl,fun v _=>.inl rfl,fun u v hu hv=>⟨fun e=>⟨e,fun es=>?_⟩,fun e=>e.1⟩,fun k hk hne=>?_,?_,fun h=>(nomatch h),fun v hv hne=>?_⟩
  ·show gt p.bg k+gt (p.mr.set s 0) k≤gt p.en k
   rw[hM]
   have:=h.mr k hk
   split <;> omega
  ·have au:=(h.st u hu).2.2
   have av:=(h.st v hv).2.2
   have e:gt p.set u=gt p.set v:=e
   unfold Pt.Mk
   rw[←e] at av ⊢
   rw[es] at au av ⊢
   constructor <;> intro _ <;> omega
  ·show gt (p.mr.set s 0) k=_
   rw[hM,if_neg hne]
  ·show gt (p.mr.set s 0) s=0
   rw[hM,if_pos rfl]
  ·show gt p.place v<gt p.bg (gt p.set v)+gt (p.mr.set s 0) (gt p.set v)↔p.Mk v
   rw[hM,if_neg hne];rfl
 |false =>
  have hall:gt p.mr s≠gt p.en s-gt p.bg s:=by simpa using hall
  rw[cond_false]
  cases decide (2*gt p.mr s>gt p.en s-gt p.bg s) with
  |true =>
   rw[cond_true]
   refine cut_part h hs false (f:=gt p.bg s+gt p.mr s) (t:=gt p.en s) (f':=gt p.bg s) (t':=gt p.bg s+gt p.mr s) (by omega) (by omega) (fun i h1 h2=>?_) rfl (by rw[List.length_set];exact h.le) (fun k=>?_) fun k=>?_
   ·simp only[Bool.false_eq_true,iff_false];omega
   ·by_cases e:k=s
    ·rw[if_pos e,e]
    ·rw[if_neg e]
   ·rw[gt_set,h.le]
    by_cases e:k=s
    ·rw[if_pos ⟨e.symm,by omega⟩,if_pos e]
    ·rw[if_neg (by omega),if_neg e]
  |false =>
   rw[cond_false]
   refine cut_part h hs true (f:=gt p.bg s) (t:=gt p.bg s+gt p.mr s) (f':=gt p.bg s+gt p.mr s) (t':=gt p.en s) (by omega) (by omega) (fun i h1 h2=>?_) (by rw[List.length_set]) h.le (fun k=>?_) fun k=>?_
   ·simp only[iff_true];omega
   ·rw[gt_set]
    by_cases e:k=s
    ·rw[if_pos ⟨e.symm,by omega⟩,if_pos e]
    ·rw[if_neg (by omega),if_neg e]
   ·by_cases e:k=s
    ·rw[if_pos e,e]
    ·rw[if_neg e]
def markAll:List Nat→Pt→List Nat→Pt×List Nat
 |[],p,T=>(p,T)
 |u::l,p,T=>markAll l (p.markd u).1 (bif (p.markd u).2 then T++[gt p.set u] else T)
theorem markAll_app:∀(a b:List Nat) (p:Pt) (T:List Nat),markAll (a++b) p T=markAll b (markAll a p T).1 (markAll a p T).2
 |[],b,p,T=>rfl
 |u::a,b,p,T=>by rw[List.cons_append,markAll,markAll,markAll_app a b]
structure Tch (p:Pt)(T:List Nat):Prop where
 nd:T.Nodup
 mem:∀k,k<p.bg.length→(k∈T↔0<gt p.mr k)
 lt:∀k∈T,k<p.bg.length
structure MarkAll (n:Nat)(us:List Nat)(p:Pt)(r:Pt×List Nat):Prop where
 wf:r.1.Wf n
 set:r.1.set=p.set
 bg:r.1.bg=p.bg
 en:r.1.en=p.en
 tch:Tch r.1 r.2
 Mk:∀v,v<n→(r.1.Mk v↔p.Mk v∨v∈us)
theorem markAll_spec {n:Nat}:∀(us:List Nat) {p:Pt} {T:List Nat},p.Wf n→Tch p T→(∀u∈us,u<n)→MarkAll n us p (markAll us p T)
 |[],p,T,h,ht,_=>⟨h,rfl,rfl,rfl,ht,fun v _=>by simp[markAll]⟩
 |u::l,p,T,h,ht,hu=>by
  have hun:=hu u (List.mem_cons_self ..)
  obtain⟨m1,m2,m3,m4,m5,m6,m7⟩:=markd_spec h hun
  have hsu:=(h.st u hun).1
  have ht1:Tch (p.markd u).1 (bif (p.markd u).2 then T++[gt p.set u] else T):=by
   refine⟨?_,fun k hk=>?_,fun k hk=>?_⟩
   ·cases hb:(p.markd u).2 with
    |false=>exact ht.nd
    |true =>
     have h0:=m6.1 hb
     rw[cond_true,List.nodup_append]
     refine⟨ht.nd,by simp,fun a ha b hb=>?_⟩
     rw[List.mem_singleton.1 hb]
     rintro rfl
     have:=(ht.mem _ hsu).1 ha
     omega
   ·rw[m3] at hk
    rw[m7 k hk]
    cases hb:(p.markd u).2 with
    |false =>
     have h0:gt p.mr (gt p.set u)≠0:=fun e=>by rw[m6.2 e] at hb;cases hb
     rw[cond_false,ht.mem k hk]
     constructor
     ·exact .inl
     ·rintro (h1|rfl)
      ·exact h1
      ·omega
    |true =>
     rw[cond_true,List.mem_append,List.mem_singleton,ht.mem k hk]
   ·rw[m3]
    cases hb:(p.markd u).2 with
    |false=>rw[hb] at hk;exact ht.lt k hk
    |true =>
     rw[hb,cond_true,List.mem_append,List.mem_singleton] at hk
     rcases hk with hk|rfl
     ·exact ht.lt k hk
     ·exact hsu
  have ih:=markAll_spec l m1 ht1 fun x hx=>hu x (List.mem_cons_of_mem _ hx)
  rw[markAll]
  refine⟨ih.wf,ih.set.trans m2,ih.bg.trans m3,ih.en.trans m4,ih.tch,fun v hv=>?_⟩
  rw[ih.Mk v hv,m5 v hv,List.mem_cons,or_assoc]
def cutAll:List Nat→Pt→List Nat→Pt×List Nat
 |[],p,w=>(p,w)
 |t::T,p,w=>cutAll T (p.cut t).1 (bif (p.cut t).2 then w++[p.bg.length] else w)
def Pt.Zero (p:Pt):Prop:=∀k,k<p.bg.length→gt p.mr k=0
structure Cuts (n:Nat)(p:Pt)(w:List Nat)(R:Nat→Nat→Prop)(r:Pt×List Nat):Prop where
 wf:r.1.Wf n
 zero:r.1.Zero
 le:p.bg.length≤r.1.bg.length
 wlen:r.2.length+p.bg.length=w.length+r.1.bg.length
 work:∀k,k∈r.2↔k∈w∨(p.bg.length≤k∧k<r.1.bg.length)
 num:∀v,v<n→gt r.1.set v=gt p.set v∨p.bg.length≤gt r.1.set v
 eq:∀u v,u<n→v<n→(gt r.1.set u=gt r.1.set v↔gt p.set u=gt p.set v∧R u v)
theorem cutAll_spec {n:Nat}:∀(T:List Nat) {p:Pt} (w:List Nat),p.Wf n→T.Nodup→(∀k∈T,k<p.bg.length∧0<gt p.mr k)→(∀k,k<p.bg.length→k∉T→gt p.mr k=0) →
  Cuts n p w (fun u v=>gt p.set u∈T→(p.Mk u↔p.Mk v)) (cutAll T p w)
 |[],p,w,h,_,_,hz=>⟨h,fun k hk=>hz k hk (by simp),Nat.le_refl _,rfl,fun k=>by simp only[cutAll];constructor;exact .inl;rintro (h|h);exact h;omega,fun v _=>.inl rfl,fun u v _ _=>by simp[cutAll]⟩
 |t::T,p,w,h,hn,hT,hz=>by
  obtain⟨ht,hm⟩:=hT t (List.mem_cons_self ..)
  have hc:=cut_spec h ht hm
  rw[List.nodup_cons] at hn
  rw[cutAll]
  generalize hr:p.cut t=r at *
  obtain⟨p1,b⟩:=r
  simp only at hc ⊢
  have hlen:p1.bg.length=p.bg.length+(bif b then 1 else 0):=hc.len
  have hle:p.bg.length≤p1.bg.length:=by omega
  have hT1:∀k∈T,k<p1.bg.length∧0<gt p1.mr k:=fun k hk=>by
   obtain⟨q1,q2⟩:=hT k (List.mem_cons_of_mem _ hk)
   refine⟨by omega,?_⟩
   have:gt p1.mr k=gt p.mr k:=hc.mr k q1 fun e=>hn.1 (e ▸ hk)
   omega
  have hz1:∀k,k<p1.bg.length→k∉T→gt p1.mr k=0:=fun k hk hnk=>by
   by_cases e:k=t
   ·rw[e];exact hc.mk0
   ·by_cases e2:k<p.bg.length
    ·have:gt p1.mr k=gt p.mr k:=hc.mr k e2 e
     rw[this]
     exact hz k e2 fun hmem=>by
      rcases List.mem_cons.1 hmem with h1|h1
      ·exact e h1
      ·exact hnk h1
    ·cases b with
     |false=>simp at hlen;omega
     |true =>
      have:k=p.bg.length:=by simp at hlen;omega
      rw[this];exact hc.mkK rfl
  have ih:=cutAll_spec (p:=p1) T (bif b then w++[p.bg.length] else w) hc.wf hn.2 hT1 hz1
  have ile:=ih.le
  have iwl:=ih.wlen
  refine⟨ih.wf,ih.zero,by omega,?_,fun k=>?_,fun v hv=>?_,fun u v hu hv=>?_⟩
  ·cases b with
   |false=>simp at hlen iwl ⊢;omega
   |true=>simp at hlen iwl ⊢;omega
  ·rw[ih.work k]
   cases b with
   |false =>
    have hlen:p1.bg.length=p.bg.length:=by simpa using hlen
    rw[cond_false,hlen]
   |true =>
    have hlen:p1.bg.length=p.bg.length+1:=by simpa using hlen
    simp only[cond_true] at ile
    rw[cond_true,List.mem_append,List.mem_singleton]
    constructor
    ·rintro ((h1|h1)|h1)
     ·exact .inl h1
     ·exact .inr (by omega)
     ·exact .inr (by omega)
    ·rintro (h1|h1)
     ·exact .inl (.inl h1)
     ·by_cases e:k=p.bg.length
      ·exact .inl (.inr e)
      ·exact .inr (by omega)
  ·rcases ih.num v hv with h1|h1
   ·rcases hc.num v hv with h2|h2
    ·exact .inl (h1.trans h2)
    ·have h3:gt p1.set v=p.bg.length:=h2.2.1
     exact .inr (by omega)
   ·exact .inr (by omega)
  ·rw[ih.eq u v hu hv]
   have he:gt p1.set u=gt p1.set v↔gt p.set u=gt p.set v∧(gt p.set u=t→(p.Mk u↔p.Mk v)):=hc.eq u v hu hv
   have hmem:∀x,x<n→(gt p1.set x∈T↔gt p.set x∈T):=fun x hx=>by
    have hnum:gt p1.set x=gt p.set x∨(gt p.set x=t∧gt p1.set x=p.bg.length∧b=true):=hc.num x hx
    rcases hnum with h1|⟨h1,h2,_⟩
    ·rw[h1]
    ·rw[h1,h2]
     constructor
     ·intro hk;have:=(hT _ (List.mem_cons_of_mem _ hk)).1;omega
     ·intro hk;exact absurd hk hn.1
   have hMk:∀x,x<n→gt p.set x≠t→(p1.Mk x↔p.Mk x):=hc.Mk
   rw[he]
   constructor
   ·rintro⟨⟨e1,e2⟩,e3⟩
    refine⟨e1,fun hx=>?_⟩
    rcases List.mem_cons.1 hx with h1|h1
    ·exact e2 h1
    ·have hne:gt p.set u≠t:=fun e=>hn.1 (e ▸ h1)
     have:=e3 ((hmem u hu).2 h1)
     rw[hMk u hu hne,hMk v hv (by rw[←e1];exact hne)] at this
     exact this
   ·rintro⟨e1,e2⟩
    refine⟨⟨e1,fun hx=>e2 (by rw[hx];exact List.mem_cons_self ..)⟩,fun hx=>?_⟩
    have h1:=(hmem u hu).1 hx
    have hne:gt p.set u≠t:=fun e=>hn.1 (e ▸ h1)
    rw[hMk u hu hne,hMk v hv (by rw[←e1];exact hne)]
    exact e2 (List.mem_cons_of_mem _ h1)
def symP (bef:Nat→List Nat)(S:List Nat)(p:Pt)(w:List Nat):Pt×List Nat :=
 cutAll (markAll (S.flatMap bef) p []).2 (markAll (S.flatMap bef) p []).1 w
theorem sym_spec {n:Nat}{p:Pt}(h:p.Wf n)(hz:p.Zero)(w:List Nat){nx:Nat→Nat}{bef:Nat→List Nat}{S:List Nat}(hS:∀c∈S,c<n)(hb:∀c,c<n→∀u,u∈bef c↔u<n∧nx u=c) :
  Cuts n p w (fun u v=>nx u∈S↔nx v∈S) (symP bef S p w):=by
 have hus:∀u,u∈S.flatMap bef↔u<n∧nx u∈S:=fun u=>by
  rw[List.mem_flatMap]
  constructor
  ·rintro⟨c,h1,h2⟩
   obtain⟨q1,q2⟩:=(hb c (hS c h1) u).1 h2
   exact⟨q1,by rw[q2];exact h1⟩
  ·rintro⟨h1,h2⟩
   exact⟨_,h2,(hb _ (hS _ h2) u).2 ⟨h1,rfl⟩⟩
 have ht0:Tch p []:=⟨by simp,fun k hk=>by simp[hz k hk],fun k hk=>by simp at hk⟩
 have hm:=markAll_spec (S.flatMap bef) h ht0 fun u hu=>((hus u).1 hu).1
 unfold symP
 generalize markAll (S.flatMap bef) p []=r at *
 obtain⟨p1,T⟩:=r
 have e1:p1.set=p.set:=hm.set
 have e2:p1.bg=p.bg:=hm.bg
 have t1:T.Nodup:=hm.tch.nd
 have t2:∀k,k<p1.bg.length→(k∈T↔0<gt p1.mr k):=hm.tch.mem
 have t3:∀k∈T,k<p1.bg.length:=hm.tch.lt
 have hc:=cutAll_spec (p:=p1) T w hm.wf t1 (fun k hk=>⟨t3 k hk,(t2 k (t3 k hk)).1 hk⟩) (fun k hk hn=>by have:=t2 k hk;have:¬0<gt p1.mr k:=fun h=>hn (this.2 h);omega)
 have hM:∀v,v<n→(p1.Mk v↔nx v∈S):=fun v hv=>by
  have:p1.Mk v↔p.Mk v∨v∈S.flatMap bef:=hm.Mk v hv
  rw[this,hus]
  constructor
  ·rintro (h1|h1)
   ·obtain⟨q1,q2,_⟩:=h.st v hv
    unfold Pt.Mk at h1
    rw[hz _ q1] at h1
    omega
   ·exact h1.2
  ·exact fun h1=>.inr ⟨hv,h1⟩
 simp only[e1,e2] at hc
 have hle:=hc.le;have hwl:=hc.wlen;have hwk:=hc.work;have hnm:=hc.num
 simp only[e1,e2] at hle hwl hwk hnm
 refine⟨hc.wf,hc.zero,hle,hwl,hwk,hnm,fun u v hu hv=>?_⟩
 have:=hc.eq u v hu hv
 simp only[e1] at this
 rw[this]
 constructor
 ·rintro⟨q1,q2⟩
  refine⟨q1,?_⟩
  by_cases hu':gt p.set u∈T
  ·rw[←hM u hu,←hM v hv];exact q2 hu'
  ·have hno:∀x,x<n→gt p.set x=gt p.set u→¬nx x∈S:=fun x hx e hxS=>by
    obtain⟨r1,r2,r3⟩:=hm.wf.st x hx
    simp only[e1,e] at r1 r2 r3
    have h0:¬0<gt p1.mr (gt p.set u):=fun h=>hu' ((t2 _ r1).2 h)
    have hmx:=(hM x hx).2 hxS
    unfold Pt.Mk at hmx
    rw[e1,e] at hmx
    omega
   exact⟨fun h=>absurd h (hno u hu rfl),fun h=>absurd h (hno v hv q1.symm)⟩
 ·rintro⟨q1,q2⟩
  exact⟨q1,fun _=>by rw[hM u hu,hM v hv];exact q2⟩
def popP (bef:Nat→Nat→List Nat)(S:List Nat):Nat→Nat→Pt→List Nat→Pt×List Nat
 |0,_,p,w=>(p,w)
 |r+1,x,p,w=>popP bef S r (x+1) (symP (bef x) S p w).1 (symP (bef x) S p w).2
theorem pop_spec {n:Nat}{nx:Nat→Nat→Nat}{bef:Nat→Nat→List Nat}{S:List Nat}(hS:∀c∈S,c<n):∀(r x:Nat) {p:Pt} (w:List Nat),p.Wf n→p.Zero→(∀y,x≤y→y<x+r→∀c,c<n→∀u,u∈bef y c↔u<n∧nx u y=c) →
  Cuts n p w (fun u v=>∀y,x≤y→y<x+r→(nx u y∈S↔nx v y∈S)) (popP bef S r x p w)
 |0,x,p,w,h,hz,_=>⟨h,hz,Nat.le_refl _,rfl,fun k=>by simp only[popP];constructor;exact .inl;rintro (h|h);exact h;omega,fun v _=>.inl rfl,fun u v _ _=>⟨fun e=>⟨e,fun y h1 h2=>by omega⟩,fun e=>e.1⟩⟩
 |r+1,x,p,w,h,hz,hb=>by
  have h1:=sym_spec h hz w (nx:=fun u=>nx u x) hS (hb x (Nat.le_refl _) (by omega))
  rw[popP]
  generalize symP (bef x) S p w=q at *
  obtain⟨p1,w1⟩:=q
  simp only at h1 ⊢
  have ih:=pop_spec (p:=p1) hS r (x+1) w1 h1.wf h1.zero fun y hy1 hy2=>hb y (by omega) (by omega)
  have a1:=h1.le;have a2:=ih.le;have a3:=h1.wlen;have a4:=ih.wlen
  simp only at a1 a2 a3 a4
  refine⟨ih.wf,ih.zero,by omega,by omega,fun k=>?_,fun v hv=>?_,fun u v hu hv=>?_⟩
  ·rw[ih.work k]
   have:=h1.work k
   simp only at this
   rw[this]
   constructor
   ·rintro ((h|h)|h)
    ·exact .inl h
    ·exact .inr (by omega)
    ·exact .inr (by omega)
   ·rintro (h|h)
    ·exact .inl (.inl h)
    ·by_cases e:k<p1.bg.length
     ·exact .inl (.inr ⟨h.1,e⟩)
     ·exact .inr ⟨by omega,h.2⟩
  ·have b1:=h1.num v hv
   have b2:=ih.num v hv
   simp only at b1 b2
   rcases b2 with b2|b2
   ·rcases b1 with b1|b1
    ·exact .inl (b2.trans b1)
    ·exact .inr (by omega)
   ·exact .inr (by omega)
  ·rw[ih.eq u v hu hv]
   have:=h1.eq u v hu hv
   simp only at this
   rw[this]
   constructor
   ·rintro⟨⟨e1,e2⟩,e3⟩
    refine⟨e1,fun y hy1 hy2=>?_⟩
    by_cases e:y=x
    ·subst e;exact e2
    ·exact e3 y (by omega) (by omega)
   ·rintro⟨e1,e2⟩
    exact⟨⟨e1,e2 x (Nat.le_refl _) (by omega)⟩,fun y hy1 hy2=>e2 y (by omega) (by omega)⟩
theorem pigeon:∀(n K:Nat) (f:Nat→Nat),(∀k,k<K→f k<n)→(∀i j,i<K→j<K→f i=f j→i=j)→K≤n
 |0,K,f,h1,_=>by
  rcases Nat.eq_zero_or_pos K with h|h
  ·omega
  ·exact absurd (h1 0 h) (by omega)
 |n+1,K,f,h1,h2=>by
  by_cases hex:∃k,k<K∧f k=n
  ·obtain⟨k0,hk0,e0⟩:=hex
   have:=pigeon n (K-1) (fun k=>if k=k0 then f (K-1) else f k) (fun k hk=>by
    by_cases e:k=k0
    ·rw[if_pos e]
     have:=h1 (K-1) (by omega)
     have:f (K-1)≠n:=fun e'=>by have:=h2 (K-1) k0 (by omega) hk0 (e'.trans e0.symm);omega
     omega
    ·rw[if_neg e]
     have:=h1 k (by omega)
     have:f k≠n:=fun e'=>e (h2 k k0 (by omega) hk0 (e'.trans e0.symm))
     omega) (fun i j hi hj e=>by
    by_cases e1:i=k0
    ·by_cases e2:j=k0
     ·omega
     ·rw[if_pos e1,if_neg e2] at e
      have:=h2 _ _ (by omega) (by omega) e;omega
    ·by_cases e2:j=k0
     ·rw[if_neg e1,if_pos e2] at e
      have:=h2 _ _ (by omega) (by omega) e;omega
     ·rw[if_neg e1,if_neg e2] at e
      exact h2 _ _ (by omega) (by omega) e)
   omega
  ·have:=pigeon n K f (fun k hk=>by
    have:=h1 k hk
    have:f k≠n:=fun e=>hex ⟨k,hk,e⟩
    omega) h2
   omega
theorem Pt.Wf.few {n:Nat}{p:Pt}(h:p.Wf n):p.bg.length≤n:=by
 refine pigeon n _ (fun k=>gt p.bg k) (fun k hk=>by have:=h.sp k hk;omega) fun i j hi hj e=>?_
 obtain⟨a1,a2,a3⟩:=h.sp i hi
 obtain⟨b1,b2,b3⟩:=h.sp j hj
 have e:gt p.bg i=gt p.bg j:=e
 have:=a3 _ (Nat.le_refl _) a1
 have:=b3 _ (Nat.le_refl _) b1
 rw[e] at *
 omega
def hopP (bef:Nat→Nat→List Nat)(m:Nat):Nat→Pt→List Nat→Pt
 |0,p,_=>p
 |f+1,p,w=>match w.getLast? with
  |none=>p
  |some s=>hopP bef m f (popP bef (piece p.list (gt p.bg s) (gt p.en s)) m 0 p w.dropLast).1 (popP bef (piece p.list (gt p.bg s) (gt p.en s)) m 0 p w.dropLast).2
structure Hop (A:Fa)(p:Pt)(w:List Nat):Prop where
 wf:p.Wf A.n
 zero:p.Zero
 work:∀k∈w,k<p.bg.length
 fr:∀u v,u<A.n→v<A.n→gt p.set u=gt p.set v→∀x,x<A.m→A.fr u x=A.fr v x
 bis:∀B,Bis A B→∀u v,B u v→gt p.set u=gt p.set v
 part:∃xc:Nat→Nat,(∀u v,u<A.n→v<A.n→gt p.set u=gt p.set v→xc u=xc v)∧(∀u v,u<A.n→v<A.n→gt p.set u=gt p.set v→∀x,x<A.m→xc (A.nx u x)=xc (A.nx v x)) ∧
  ∀u v,u<A.n→v<A.n→xc u=xc v→gt p.set u∈w∨gt p.set v∈w∨gt p.set u=gt p.set v
theorem hop_step {A:Fa}(hA:A.ok){bef:Nat→Nat→List Nat}(hb:∀y,y<A.m→∀c,c<A.n→∀u,u∈bef y c↔u<A.n∧A.nx u y=c){p:Pt}{w:List Nat}(h:Hop A p w){s:Nat}(hs:w.getLast? = some s) :
  Hop A (popP bef (piece p.list (gt p.bg s) (gt p.en s)) A.m 0 p w.dropLast).1 (popP bef (piece p.list (gt p.bg s) (gt p.en s)) A.m 0 p w.dropLast).2 ∧
  2*(A.n-(popP bef (piece p.list (gt p.bg s) (gt p.en s)) A.m 0 p w.dropLast).1.bg.length)+(popP bef (piece p.list (gt p.bg s) (gt p.en s)) A.m 0 p w.dropLast).2.length<2*(A.n-p.bg.length)+w.length:=by
 have hw:w=w.dropLast++[s]:=by
  have hne:w≠[]:=fun e=>by rw[e] at hs;cases hs
  rw[List.getLast?_eq_some_getLast hne] at hs
  have:=List.dropLast_concat_getLast hne
  rw[Option.some.inj hs] at this
  exact this.symm
 have hsK:s<p.bg.length:=h.work s (by rw[hw];simp)
 obtain⟨k1,k2,k3⟩:=h.wf.sp s hsK
 have hS:∀c,c<A.n→(c∈piece p.list (gt p.bg s) (gt p.en s)↔gt p.set c=s):=fun c hc=>by
  rw[piece_mem (by rw[h.wf.ll];exact k2)]
  constructor
  ·rintro⟨i,h1,h2,rfl⟩;exact k3 i h1 h2
  ·intro e
   obtain⟨_,r2,r3⟩:=h.wf.st c hc
   rw[e] at r2 r3
   exact⟨_,r2,r3,(h.wf.pl c hc).2⟩
 have hSn:∀c∈piece p.list (gt p.bg s) (gt p.en s),c<A.n:=fun c hc=>by
  rw[piece_mem (by rw[h.wf.ll];exact k2)] at hc
  obtain⟨i,h1,h2,rfl⟩:=hc
  exact (h.wf.li i (by omega)).1
 have hp:=pop_spec (nx:=A.nx) hSn A.m 0 w.dropLast h.wf h.zero fun y _ hy=>hb y (by omega)
 generalize piece p.list (gt p.bg s) (gt p.en s)=S at *
 generalize popP bef S A.m 0 p w.dropLast=q at *
 obtain⟨p1,w1⟩:=q
 have hpw:p1.Wf A.n:=hp.wf
 have hfew:=hpw.few
 have hle:p.bg.length≤p1.bg.length:=hp.le
 have hwl:w1.length+p.bg.length=w.dropLast.length+p1.bg.length:=hp.wlen
 have hwk:∀k,k∈w1↔k∈w.dropLast∨(p.bg.length≤k∧k<p1.bg.length):=hp.work
 have hnum:∀v,v<A.n→gt p1.set v=gt p.set v∨p.bg.length≤gt p1.set v:=hp.num
 have heq:∀u v,u<A.n→v<A.n→(gt p1.set u=gt p1.set v↔gt p.set u=gt p.set v∧∀y,0≤y→y<0+A.m→(A.nx u y∈S↔A.nx v y∈S)):=hp.eq
 have hwlen:w.length=w.dropLast.length+1:=by
  conv=>lhs;rw[hw]
  simp
 refine⟨⟨hpw,hp.zero,fun k hk=>?_,fun u v hu hv e=>h.fr u v hu hv ((heq u v hu hv).1 e).1,fun B hB u v huv=>?_,?_⟩,by show 2*(A.n-p1.bg.length)+w1.length<_;omega⟩
 ·rcases (hwk k).1 hk with h1|h1
  ·have:=h.work k (by rw[hw];exact List.mem_append_left _ h1)
   show k<p1.bg.length
   omega
  ·exact h1.2
 ·obtain⟨hu,hv⟩:=hB.lt u v huv
  refine (heq u v hu hv).2 ⟨h.bis B hB u v huv,fun y _ hy=>?_⟩
  have hn:=hB.nx u v huv y (by omega)
  obtain⟨n1,n2⟩:=hB.lt _ _ hn
  rw[hS _ n1,hS _ n2,h.bis B hB _ _ hn]
 ·obtain⟨xc,x1,x2,x3⟩:=h.part
  refine⟨fun u=>2*xc u+if gt p.set u=s then 1 else 0,fun u v hu hv e=>?_,fun u v hu hv e x hx=>?_,fun u v hu hv e=>?_⟩
  ·have e:=((heq u v hu hv).1 e).1
   simp only[x1 u v hu hv e,e]
  ·obtain⟨e,e'⟩:=(heq u v hu hv).1 e
   have n1:=hA.lt u x hu hx
   have n2:=hA.lt v x hv hx
   have hm:=e' x (Nat.zero_le _) (by omega)
   rw[hS _ n1,hS _ n2] at hm
   simp only[x2 u v hu hv e x hx]
   by_cases c:gt p.set (A.nx u x)=s
   ·rw[if_pos c,if_pos (hm.1 c)]
   ·rw[if_neg c,if_neg fun c'=>c (hm.2 c')]
  ·have ex:xc u=xc v∧(gt p.set u=s↔gt p.set v=s):=by
    simp only at e
    by_cases c:gt p.set u=s
    ·by_cases c':gt p.set v=s
     ·rw[if_pos c,if_pos c'] at e;exact⟨by omega,by simp[c,c']⟩
     ·rw[if_pos c,if_neg c'] at e;omega
    ·by_cases c':gt p.set v=s
     ·rw[if_neg c,if_pos c'] at e;omega
     ·rw[if_neg c,if_neg c'] at e;exact⟨by omega,by simp[c,c']⟩
   show gt p1.set u∈w1∨gt p1.set v∈w1∨gt p1.set u=gt p1.set v
   by_cases cu:gt p1.set u∈w1
   ·exact .inl cu
   by_cases cv:gt p1.set v∈w1
   ·exact .inr (.inl cv)
   refine .inr (.inr ?_)
   have old:∀v,v<A.n→¬gt p1.set v∈w1→gt p1.set v=gt p.set v∧¬gt p.set v∈w.dropLast:=fun v hv c=>by
    have hlt:=(hpw.st v hv).1
    rcases hnum v hv with h1|h1
    ·refine⟨h1,fun hm=>c ((hwk _).2 (.inl ?_))⟩
     rw[h1];exact hm
    ·exact absurd ((hwk _).2 (.inr ⟨h1,hlt⟩)) c
   obtain⟨u1,u2⟩:=old u hu cu
   obtain⟨v1,v2⟩:=old v hv cv
   rw[u1,v1]
   by_cases c:gt p.set u=s
   ·rw[c,ex.2.1 c]
   ·have c':gt p.set v≠s:=fun h=>c (ex.2.2 h)
    rcases x3 u v hu hv ex.1 with h1|h1|h1
    ·rw[hw,List.mem_append,List.mem_singleton] at h1
     rcases h1 with h1|h1
     ·exact absurd h1 u2
     ·exact absurd h1 c
    ·rw[hw,List.mem_append,List.mem_singleton] at h1
     rcases h1 with h1|h1
     ·exact absurd h1 v2
     ·exact absurd h1 c'
    ·exact h1
theorem hop_end {A:Fa}(hA:A.ok){bef:Nat→Nat→List Nat}(hb:∀y,y<A.m→∀c,c<A.n→∀u,u∈bef y c↔u<A.n∧A.nx u y=c):∀(f:Nat) {p:Pt} {w:List Nat},Hop A p w→2*(A.n-p.bg.length)+w.length≤f→Hop A (hopP bef A.m f p w) []
 |0,p,w,h,hf=>by
  have:w=[]:=List.length_eq_zero_iff.1 (by omega)
  subst this;exact h
 |f+1,p,w,h,hf=>by
  rw[hopP]
  cases hs:w.getLast? with
  |none =>
   have:w=[]:=by simpa using hs
   subst this;exact h
  |some s =>
   obtain⟨h1,h2⟩:=hop_step hA hb h hs
   exact hop_end hA hb f h1 (by omega)
theorem hop_cls {A:Fa}(hA:A.ok){p:Pt}(h:Hop A p []){u v:Nat}(hu:u<A.n)(hv:v<A.n):gt p.set u=gt p.set v↔clsR A u=clsR A v:=by
 constructor
 ·intro e
  obtain⟨xc,x1,x2,x3⟩:=h.part
  refine clsR_bis (B:=fun u v=>u<A.n∧v<A.n∧gt p.set u=gt p.set v) ⟨fun u v k=>⟨k.1,k.2.1⟩,fun u v k=>h.fr u v k.1 k.2.1 k.2.2,fun u v k x hx=>⟨hA.lt u x k.1 hx,hA.lt v x k.2.1 hx,?_⟩⟩ u v ⟨hu,hv,e⟩
  rcases x3 _ _ (hA.lt u x k.1 hx) (hA.lt v x k.2.1 hx) (x2 u v k.1 k.2.1 k.2.2 x hx) with h1|h1|h1
  ·simp at h1
  ·simp at h1
  ·exact h1
 ·intro e
  exact h.bis _ (clsR_isBis hA) u v ⟨hu,hv,e⟩
def idxN:List Nat→Nat→Nat
 |[],_=>0
 |x::l,c=>bif x==c then 0 else idxN l c+1
theorem idxN_le:∀(l:List Nat) (c:Nat),idxN l c≤l.length
 |[],c=>Nat.le_refl _
 |x::l,c=>by
  have:=idxN_le l c
  rw[idxN,List.length_cons]
  cases x==c <;> simp only[cond_true,cond_false] <;> omega
theorem idxN_lt:∀(l:List Nat) (c:Nat),idxN l c<l.length↔c∈l
 |[],c=>by simp[idxN]
 |x::l,c=>by
  have:=idxN_lt l c
  rw[idxN,List.length_cons,List.mem_cons]
  cases h:x==c with
  |true =>
   have:x=c:=by simpa using h
   simp[this]
  |false =>
   have hne:¬x=c:=by simpa using h
   simp only[cond_false]
   constructor
   ·intro h;exact .inr (this.1 (by omega))
   ·rintro (h|h)
    ·exact absurd h.symm hne
    ·have:=this.2 h;omega
theorem idxN_map (f g:Nat→Nat)(n:Nat):∀(l:List Nat),(∀a∈l,f a=f n↔g a=g n)→idxN (l.map f) (f n)=idxN (l.map g) (g n)
 |[],_=>rfl
 |x::l,h=>by
  have h0:=h x (List.mem_cons_self ..)
  have he:(f x==f n)=(g x==g n):=by rw[Bool.eq_iff_iff,beq_iff_eq,beq_iff_eq];exact h0
  rw[List.map_cons,List.map_cons,idxN,idxN,he,idxN_map f g n l fun a ha=>h a (List.mem_cons_of_mem _ ha)]
def zY (κ:Nat→Nat):List Nat→List Nat→List Nat×List Nat
 |[],st=>(st,[])
 |c::cs,st=>bif decide (idxN (st.map κ) (κ c)<st.length) then ((zY κ cs st).1,idxN (st.map κ) (κ c)::(zY κ cs st).2) else ((zY κ cs (st++[c])).1,st.length::(zY κ cs (st++[c])).2)
theorem numRow_rel {κ ρ:Nat→Nat}{Q:Nat→Prop}(hk:∀a b,Q a→Q b→(κ a=κ b↔ρ a=ρ b)):∀(cs st:List Nat),(∀a∈cs,Q a)→(∀a∈st,Q a)→zY id (cs.map ρ) (st.map ρ)=((zY κ cs st).1.map ρ,(zY κ cs st).2)∧∀a∈(zY κ cs st).1,Q a
 |[],st,_,h=>⟨rfl,h⟩
 |c::cs,st,h1,h2=>by
  have hc:=h1 c (List.mem_cons_self ..)
  have hcs:=fun a ha=>h1 a (List.mem_cons_of_mem _ ha)
  have he:idxN ((st.map ρ).map id) (id (ρ c))=idxN (st.map κ) (κ c):=by
   rw[List.map_id]
   exact (idxN_map κ ρ c st fun a ha=>hk a c (h2 a ha) hc).symm
  rw[List.map_cons,zY,zY,he,List.length_map]
  cases decide (idxN (st.map κ) (κ c)<st.length) with
  |true =>
   obtain⟨e1,e2⟩:=numRow_rel hk cs st hcs h2
   simp only[cond_true,e1]
   exact⟨by first|rfl|trivial,e2⟩
  |false =>
   obtain⟨e1,e2⟩:=numRow_rel hk cs (st++[c]) hcs fun a ha=>by
    rcases List.mem_append.1 ha with h|h
    ·exact h2 a h
    ·rw[List.mem_singleton.1 h];exact hc
   have e3:st.map ρ++[ρ c]=(st++[c]).map ρ:=by simp
   simp only[cond_false,e3,e1]
   exact⟨by first|rfl|trivial,e2⟩
def bfsN (κ:Nat→Nat)(row:Nat→List Nat):Nat→Nat→List Nat→List (Nat×List Nat)
 |0,_,_=>[]
 |f+1,i,st=>match st[i]? with
  |none=>[]
  |some s=>(s,(zY κ (row s) st).2)::bfsN κ row f (i+1) (zY κ (row s) st).1
theorem bfsN_rel {κ ρ:Nat→Nat}{Q:Nat→Prop}(hk:∀a b,Q a→Q b→(κ a=κ b↔ρ a=ρ b)){row row':Nat→List Nat}(hr:∀s,Q s→row' (ρ s)=(row s).map ρ∧∀a∈row s,Q a):∀(f i:Nat) (st:List Nat),(∀a∈st,Q a) →
  bfsN id row' f i (st.map ρ)=(bfsN κ row f i st).map (fun x=>(ρ x.1,x.2))∧∀x∈bfsN κ row f i st,Q x.1
 |0,i,st,h=>⟨rfl,fun x hx=>by simp[bfsN] at hx⟩
 |f+1,i,st,h=>by
  rw[bfsN,bfsN,List.getElem?_map]
  cases hs:st[i]? with
  |none=>exact⟨rfl,fun x hx=>by simp at hx⟩
  |some s =>
   have hq:=h s (List.mem_of_getElem? hs)
   obtain⟨r1,r2⟩:=hr s hq
   obtain⟨e1,e2⟩:=numRow_rel hk (row s) st r2 h
   obtain⟨i1,i2⟩:=bfsN_rel hk hr f (i+1) _ e2
   simp only[Option.map_some,r1,e1,i1,List.map_cons]
   refine⟨by first|rfl|trivial,fun x hx=>?_⟩
   rcases List.mem_cons.1 hx with rfl|hx
   ·exact hq
   ·exact i2 x hx
theorem numRow_nd {κ:Nat→Nat}:∀(cs st:List Nat),(st.map κ).Nodup→((zY κ cs st).1.map κ).Nodup∧st.length≤(zY κ cs st).1.length∧(∀i,i<st.length→(zY κ cs st).1[i]? = st[i]?)∧(zY κ cs st).2.length=cs.length∧∀k∈(zY κ cs st).2,k<(zY κ cs st).1.length
 |[],st,h=>⟨h,Nat.le_refl _,fun _ _=>rfl,rfl,fun k hk=>by simp[zY] at hk⟩
 |c::cs,st,h=>by
  rw[zY]
  cases hd:decide (idxN (st.map κ) (κ c)<st.length) with
  |true =>
   obtain⟨h1,h2,h3,h4,h5⟩:=numRow_nd cs st h
   have hd:idxN (st.map κ) (κ c)<st.length:=by simpa using hd
   simp only[cond_true,List.length_cons,h4]
   refine⟨h1,h2,h3,by first|rfl|trivial,fun k hk=>?_⟩
   rcases List.mem_cons.1 hk with rfl|hk
   ·omega
   ·exact h5 k hk
  |false =>
   have hd:¬idxN (st.map κ) (κ c)<(st.map κ).length:=by rw[List.length_map];simpa using hd
   rw[idxN_lt] at hd
   obtain⟨h1,h2,h3,h4,h5⟩:=numRow_nd cs (st++[c]) (by
    rw[List.map_append,List.nodup_append]
    refine⟨h,by simp,fun a ha b hb=>?_⟩
    rw[List.map_cons,List.map_nil,List.mem_singleton] at hb
    rintro rfl
    rw[hb] at ha
    exact hd ha)
   rw[List.length_append,List.length_singleton] at h2
   simp only[cond_false,List.length_cons,h4]
   refine⟨h1,by omega,fun i hi=>?_,by first|rfl|trivial,fun k hk=>?_⟩
   ·rw[h3 i (by rw[List.length_append];omega),List.getElem?_append_left hi]
   ·rcases List.mem_cons.1 hk with rfl|hk
    ·omega
    ·exact h5 k hk
theorem nodup_few {κ:Nat→Nat}{n:Nat}{st:List Nat}(h:(st.map κ).Nodup)(hn:∀a∈st,a<n):st.length≤n:=by
 have hnd:st.Nodup:=by
  rw[List.Nodup,List.pairwise_map] at h
  exact h.imp fun hne e=>hne (by rw[e])
 refine pigeon n st.length (fun i=>gt st i) (fun i hi=>?_) fun i j hi hj e=>?_
 ·have:gt st i=st[i]:=by unfold gt;rw[List.getD_eq_getElem?_getD,List.getElem?_eq_getElem hi];rfl
  simp only[this]
  exact hn _ (List.getElem_mem hi)
 ·have e1:gt st i=st[i]:=by unfold gt;rw[List.getD_eq_getElem?_getD,List.getElem?_eq_getElem hi];rfl
  have e2:gt st j=st[j]:=by unfold gt;rw[List.getD_eq_getElem?_getD,List.getElem?_eq_getElem hj];rfl
  simp only[e1,e2] at e
  exact (List.getElem_inj hnd).1 e
def rowF (A:Fa)(s:Nat):List Nat:=(List.range A.m).map (A.nx s)
def minP (A:Fa)(cl:Nat→Nat):List (Nat×List Nat):=bfsN cl (rowF A) (A.n+1) 0 [0]
def minR (A:Fa):List (Nat×List Nat):=bfsN id (fun c=>(rowF A c).map (clsR A)) (A.n+1) 0 [clsR A 0]
theorem min_eq {A:Fa}(hA:A.ok){cl:Nat→Nat}(hc:∀u v,u<A.n→v<A.n→(cl u=cl v↔clsR A u=clsR A v)) :
  minR A=(minP A cl).map (fun x=>(clsR A x.1,x.2))∧∀x∈minP A cl,x.1<A.n:=by
 have hr:∀s,s<A.n→(fun c=>(rowF A c).map (clsR A)) (clsR A s)=(rowF A s).map (clsR A)∧∀a∈rowF A s,a<A.n:=fun s hs=>by
  refine⟨?_,fun a ha=>?_⟩
  ·have hlt:clsR A s<A.n:=Nat.lt_of_le_of_lt ((clsR_can A).le s) hs
   have he:=(clsR_iff hA hlt hs).1 ((clsR_can A).fix s)
   simp only[rowF,List.map_map]
   refine List.map_congr_left fun x hx=>?_
   exact (he x (List.mem_range.1 hx)).2
  ·obtain⟨x,hx,rfl⟩:=List.mem_map.1 ha
   exact hA.lt s x hs (List.mem_range.1 hx)
 have:=bfsN_rel (κ:=cl) (ρ:=clsR A) (Q:=fun a=>a<A.n) hc (row:=rowF A) (row':=fun c=>(rowF A c).map (clsR A)) hr (A.n+1) 0 [0] fun a ha=>by rw[List.mem_singleton.1 ha];exact hA.pos
 exact this
theorem min_fr {A:Fa}(hA:A.ok){s:Nat}(hs:s<A.n){x:Nat}(hx:x<A.m):A.fr (clsR A s) x=A.fr s x :=
 (((clsR_iff hA (Nat.lt_of_le_of_lt ((clsR_can A).le s) hs) hs).1 ((clsR_can A).fix s)) x hx).1
section
variable {α:Type} [DecidableEq α]
def ordK (κ:Nat→α):Nat→List α
 |0=>[]
 |i+1=>if κ i∈ordK κ i then ordK κ i else ordK κ i++[κ i]
theorem ordK_mem (κ:Nat→α)(k:α):∀n,k∈ordK κ n↔∃i,i<n∧κ i=k
 |0=>by simp[ordK]
 |n+1=>by
  have ih:=ordK_mem κ k n
  have ihn:=ordK_mem κ (κ n) n
  rw[ordK]
  constructor
  ·intro h
   by_cases e:κ n∈ordK κ n
   ·rw[if_pos e] at h
    obtain⟨i,h1,h2⟩:=ih.1 h
    exact⟨i,by omega,h2⟩
   ·rw[if_neg e,List.mem_append,List.mem_singleton] at h
    rcases h with h|h
    ·obtain⟨i,h1,h2⟩:=ih.1 h
     exact⟨i,by omega,h2⟩
    ·exact⟨n,by omega,h.symm⟩
  ·rintro⟨i,h1,h2⟩
   by_cases hi:i=n
   ·subst hi
    by_cases e:κ i∈ordK κ i
    ·rw[if_pos e,←h2];exact e
    ·rw[if_neg e,h2];simp
   ·have:=ih.2 ⟨i,by omega,h2⟩
    by_cases e:κ n∈ordK κ n
    ·rw[if_pos e];exact this
    ·rw[if_neg e];exact List.mem_append_left _ this
theorem ordK_nd (κ:Nat→α):∀n,(ordK κ n).Nodup
 |0=>by simp[ordK]
 |n+1=>by
  have ih:=ordK_nd κ n
  rw[ordK]
  by_cases e:κ n∈ordK κ n
  ·rw[if_pos e];exact ih
  ·rw[if_neg e,List.nodup_append]
   refine⟨ih,by simp,fun a ha b hb=>?_⟩
   rw[List.mem_singleton.1 hb]
   rintro rfl
   exact e ha
theorem ordK_len (κ:Nat→α):∀n,(ordK κ n).length≤n
 |0=>Nat.le_refl _
 |n+1=>by
  have:=ordK_len κ n
  rw[ordK]
  split
  ·omega
  ·simp;omega
def grp (κ:Nat→α)(k:α)(n:Nat):List Nat:=(List.range n).filter fun i=>decide (κ i=k)
theorem grp_mem (κ:Nat→α)(k:α)(n u:Nat):u∈grp κ k n↔u<n∧κ u=k:=by simp[grp]
theorem grp_nd (κ:Nat→α)(k:α)(n:Nat):(grp κ k n).Nodup:=List.Pairwise.filter _ List.nodup_range
theorem grp_succ (κ:Nat→α)(k:α)(n:Nat):grp κ k (n+1)=if κ n=k then grp κ k n++[n] else grp κ k n:=by
 unfold grp
 rw[List.range_succ,List.filter_append]
 by_cases e:κ n=k <;> simp[e]
def addSt (c:Nat):List Nat→Pt→Pt
 |[],p=>p
 |u::l,p=>addSt c l { p with place:=p.place.set u p.list.length,set:=p.set.set u c,list:=p.list++[u] }
structure AddSt (n c:Nat)(l:List Nat)(p q:Pt):Prop where
 list:q.list=p.list++l
 bg:q.bg=p.bg
 en:q.en=p.en
 mr:q.mr=p.mr
 lp:q.place.length=n
 ls:q.set.length=n
 out:∀v,v∉l→gt q.place v=gt p.place v∧gt q.set v=gt p.set v
 inn:∀j (h:j<l.length),gt q.place l[j]=p.list.length+j∧gt q.set l[j]=c
theorem addSt_spec (n c:Nat):∀(l:List Nat) (p:Pt),l.Nodup→(∀u∈l,u<n)→p.place.length=n→p.set.length=n→AddSt n c l p (addSt c l p)
 |[],p,_,_,h1,h2=>⟨by simp[addSt],rfl,rfl,rfl,h1,h2,fun _ _=>⟨rfl,rfl⟩,fun j h=>by simp at h⟩
 |u::l,p,hn,hu,h1,h2=>by
  rw[List.nodup_cons] at hn
  have hun:=hu u (List.mem_cons_self ..)
  have ih:=addSt_spec n c l { p with place:=p.place.set u p.list.length,set:=p.set.set u c,list:=p.list++[u] } hn.2 (fun x hx=>hu x (List.mem_cons_of_mem _ hx)) (by simp[h1]) (by simp[h2])
  rw[addSt]
  generalize addSt c l { p with place:=p.place.set u p.list.length,set:=p.set.set u c,list:=p.list++[u] }=q at *
  refine⟨by rw[ih.list];simp,ih.bg,ih.en,ih.mr,ih.lp,ih.ls,fun v hv=>?_,fun j hj=>?_⟩
  ·rw[List.mem_cons,not_or] at hv
   obtain⟨a,b⟩:=ih.out v hv.2
   rw[a,b]
   simp only[gt_set]
   rw[if_neg (by omega),if_neg (by omega)]
   exact⟨rfl,rfl⟩
  ·cases j with
   |zero =>
    obtain⟨a,b⟩:=ih.out u hn.1
    rw[List.getElem_cons_zero,a,b]
    rw[gt_set,gt_set,if_pos ⟨rfl,by omega⟩,if_pos ⟨rfl,by omega⟩]
    exact⟨rfl,rfl⟩
   |succ j =>
    obtain⟨a,b⟩:=ih.inn j (by simpa using hj)
    rw[List.getElem_cons_succ,a,b]
    refine⟨?_,rfl⟩
    simp only[List.length_append,List.length_singleton]
    omega
def fillP (κ:Nat→α)(n:Nat):List α→Pt→Pt
 |[],p=>p
 |k::ks,p=>fillP κ n ks { addSt p.bg.length (grp κ k n) p with bg:=p.bg++[p.list.length],mr:=p.mr++[0],en:=p.en++[(addSt p.bg.length (grp κ k n) p).list.length] }
def rowsP (κ:Nat→α)(n:Nat):Pt:=fillP κ n (ordK κ n) ⟨[],List.replicate n 0,List.replicate n 0,[],[],[]⟩
structure Fil (κ:Nat→α)(n:Nat)(done:List α)(p:Pt):Prop where
 lp:p.place.length=n
 ls:p.set.length=n
 lb:p.bg.length=done.length
 le:p.en.length=done.length
 lm:p.mr.length=done.length
 li:∀i,i<p.list.length→gt p.list i<n∧gt p.place (gt p.list i)=i∧κ (gt p.list i)∈done
 st:∀u,u<n→κ u∈done→gt p.place u<p.list.length∧gt p.list (gt p.place u)=u∧gt p.set u<done.length∧gt p.bg (gt p.set u)≤gt p.place u∧gt p.place u<gt p.en (gt p.set u)∧done[gt p.set u]? = some (κ u)
 sp:∀k,k<done.length→gt p.bg k<gt p.en k∧gt p.en k≤p.list.length∧∀i,gt p.bg k≤i→i<gt p.en k→gt p.set (gt p.list i)=k
 mr:∀k,k<done.length→gt p.mr k=0
theorem gt_left {a b:List Nat}{i:Nat}(h:i<a.length):gt (a++b) i=gt a i:=by
 unfold gt;rw[List.getD_eq_getElem?_getD,List.getD_eq_getElem?_getD,List.getElem?_append_left h]
theorem gt_right {a b:List Nat}{i:Nat}(h:a.length≤i):gt (a++b) i=gt b (i-a.length):=by
 unfold gt;rw[List.getD_eq_getElem?_getD,List.getD_eq_getElem?_getD,List.getElem?_append_right h]
theorem gt_get {l:List Nat}{i:Nat}(h:i<l.length):gt l i=l[i]:=by
 unfold gt;rw[List.getD_eq_getElem?_getD,List.getElem?_eq_getElem h];rfl
theorem fil_step {κ:Nat→α}{n:Nat}{done:List α}{p:Pt}(h:Fil κ n done p){k:α}(hk:k∉done)(hex:∃i,i<n∧κ i=k) :
  Fil κ n (done++[k]) { addSt p.bg.length (grp κ k n) p with bg:=p.bg++[p.list.length],mr:=p.mr++[0],en:=p.en++[(addSt p.bg.length (grp κ k n) p).list.length] }:=by
 have ha:=addSt_spec n p.bg.length (grp κ k n) p (grp_nd κ k n) (fun u hu=>((grp_mem κ k n u).1 hu).1) h.lp h.ls
 generalize addSt p.bg.length (grp κ k n) p=q at *
 have hne:0<(grp κ k n).length:=by
  obtain⟨i,h1,h2⟩:=hex
  exact List.length_pos_of_mem ((grp_mem κ k n i).2 ⟨h1,h2⟩)
 have hgm:=grp_mem κ k n
 have hgd:=grp_nd κ k n
 generalize grp κ k n=G at *
 have hql:q.list.length=p.list.length+G.length:=by rw[ha.list];simp
 have hdl:(done++[k]).length=done.length+1:=by simp
 have hB:∀i,gt (p.bg++[p.list.length]) i=if i=done.length then p.list.length else gt p.bg i:=fun i=>by rw[gt_app,h.lb]
 have hE:∀i,gt (p.en++[q.list.length]) i=if i=done.length then q.list.length else gt p.en i:=fun i=>by rw[gt_app,h.le]
 have hM:∀i,gt (p.mr++[0]) i=if i=done.length then 0 else gt p.mr i:=fun i=>by rw[gt_app,h.lm]
 have hold:∀i,i<p.list.length→gt q.list i=gt p.list i:=fun i hi=>by rw[ha.list,gt_left hi]
 have hnew:∀j (hj:j<G.length),gt q.list (p.list.length+j)=G[j]:=fun j hj=>by rw[ha.list,gt_right (by omega),Nat.add_sub_cancel_left,gt_get hj]
 have hout:∀i,i<p.list.length→gt p.list i∉G:=fun i hi hm=>by
  have:=(h.li i hi).2.2
  rw[((hgm _).1 hm).2] at this
  exact hk this
 refine⟨ha.lp,ha.ls,by simp[h.lb],by simp[h.le],by simp[h.lm],fun i hi=>?_,fun u hu hd=>?_,fun j hj=>?_,fun j hj=>?_⟩
 ·have hi:i<q.list.length:=hi
  by_cases hlt:i<p.list.length
  ·obtain⟨a,b,c⟩:=h.li i hlt
   obtain⟨o1,_⟩:=ha.out _ (hout i hlt)
   simp only[hold i hlt]
   exact⟨a,o1.trans b,List.mem_append_left _ c⟩
  ·obtain⟨j,rfl⟩:∃j,i=p.list.length+j:=⟨i-p.list.length,by omega⟩
   have hj:j<G.length:=by omega
   simp only[hnew j hj]
   obtain⟨g1,g2⟩:=(hgm _).1 (List.getElem_mem hj)
   exact⟨g1,(ha.inn j hj).1,by rw[g2];simp⟩
 ·show gt q.place u<q.list.length∧gt q.list (gt q.place u)=u∧gt q.set u<(done++[k]).length∧gt (p.bg++[p.list.length]) (gt q.set u)≤gt q.place u∧gt q.place u<gt (p.en++[q.list.length]) (gt q.set u)∧(done++[k])[gt q.set u]? = some (κ u)
  by_cases hg:u∈G
  ·obtain⟨j,hj,rfl⟩:=List.mem_iff_getElem.1 hg
   obtain⟨i1,i2⟩:=ha.inn j hj
   have hs:gt q.set G[j]=done.length:=by rw[i2,h.lb]
   rw[i1,hs,hnew j hj,hB,hE,if_pos rfl,if_pos rfl,hdl,((hgm _).1 hg).2]
   exact⟨by omega,rfl,by omega,by omega,by omega,by simp⟩
  ·have hd':κ u∈done:=by
    rcases List.mem_append.1 hd with h1|h1
    ·exact h1
    ·exact absurd ((hgm u).2 ⟨hu,List.mem_singleton.1 h1⟩) hg
   obtain⟨a,b,c,d,e,f⟩:=h.st u hu hd'
   obtain⟨o1,o2⟩:=ha.out u hg
   rw[o1,o2,hold _ a,hB,hE,if_neg (by omega),if_neg (by omega),hdl,List.getElem?_append_left c]
   exact⟨by omega,b,by omega,d,e,f⟩
 ·show gt (p.bg++[p.list.length]) j<gt (p.en++[q.list.length]) j∧gt (p.en++[q.list.length]) j≤q.list.length∧∀i,gt (p.bg++[p.list.length]) j≤i→i<gt (p.en++[q.list.length]) j→gt q.set (gt q.list i)=j
  rw[hB,hE]
  by_cases e:j=done.length
  ·rw[if_pos e,if_pos e]
   refine⟨by omega,Nat.le_refl _,fun i h1 h2=>?_⟩
   obtain⟨r,rfl⟩:∃r,i=p.list.length+r:=⟨i-p.list.length,by omega⟩
   have hr:r<G.length:=by omega
   rw[hnew r hr,(ha.inn r hr).2,h.lb,e]
  ·have hj':j<done.length:=by have:j<(done++[k]).length:=hj;omega
   rw[if_neg e,if_neg e]
   obtain⟨a,b,c⟩:=h.sp j hj'
   refine⟨a,by omega,fun i h1 h2=>?_⟩
   rw[hold i (by omega),(ha.out _ (hout i (by omega))).2]
   exact c i h1 h2
 ·show gt (p.mr++[0]) j=0
  rw[hM]
  by_cases e:j=done.length
  ·rw[if_pos e]
  ·rw[if_neg e]
   exact h.mr j (by have:j<(done++[k]).length:=hj;omega)
theorem fil_all {κ:Nat→α}{n:Nat}:∀(ks:List α) {done:List α} {p:Pt},Fil κ n done p→(done++ks).Nodup→(∀k∈ks,∃i,i<n∧κ i=k)→Fil κ n (done++ks) (fillP κ n ks p)
 |[],done,p,h,_,_=>by rw[List.append_nil];exact h
 |k::ks,done,p,h,hn,he=>by
  have hk:k∉done:=fun hm=>by
   rw[List.nodup_append] at hn
   exact hn.2.2 k hm k (List.mem_cons_self ..) rfl
  have h1:=fil_step h hk (he k (List.mem_cons_self ..))
  have e:done++k::ks=(done++[k])++ks:=by simp
  rw[e] at hn ⊢
  exact fil_all ks h1 hn fun x hx=>he x (List.mem_cons_of_mem _ hx)
theorem rows_fil (κ:Nat→α)(n:Nat):Fil κ n (ordK κ n) (rowsP κ n):=by
 have h0:Fil κ n [] ⟨[],List.replicate n 0,List.replicate n 0,[],[],[]⟩:=⟨by simp,by simp,rfl,rfl,rfl,fun i hi=>by simp at hi,fun u _ h=>by simp at h,fun k hk=>by simp at hk,fun k hk=>by simp at hk⟩
 have:=fil_all (ordK κ n) h0 (by simpa using ordK_nd κ n) fun k hk=>(ordK_mem κ k n).1 hk
 rw[List.nil_append] at this
 exact this
theorem rows_hop {A:Fa}{κ:Nat→α}(hk:∀u v,u<A.n→v<A.n→(κ u=κ v↔∀x,x<A.m→A.fr u x=A.fr v x)):Hop A (rowsP κ A.n) (List.range (rowsP κ A.n).bg.length):=by
 have h:=rows_fil κ A.n
 generalize rowsP κ A.n=p at *
 have hd:∀u,u<A.n→κ u∈ordK κ A.n:=fun u hu=>(ordK_mem κ _ _).2 ⟨u,hu,rfl⟩
 have hll:p.list.length=A.n:=by
  refine Nat.le_antisymm (pigeon A.n p.list.length (gt p.list) (fun i hi=>(h.li i hi).1) fun i j hi hj e=>?_) (pigeon p.list.length A.n (gt p.place) (fun u hu=>(h.st u hu (hd u hu)).1) fun u v hu hv e=>?_)
  ·have a:=(h.li i hi).2.1
   have b:=(h.li j hj).2.1
   rw[e] at a;exact a.symm.trans b
  ·have a:=(h.st u hu (hd u hu)).2.1
   have b:=(h.st v hv (hd v hv)).2.1
   rw[e] at a;exact a.symm.trans b
 have hset:∀u v,u<A.n→v<A.n→(gt p.set u=gt p.set v↔κ u=κ v):=fun u v hu hv=>by
  obtain⟨_,_,a,_,_,b⟩:=h.st u hu (hd u hu)
  obtain⟨_,_,c,_,_,d⟩:=h.st v hv (hd v hv)
  constructor
  ·intro e;rw[e,d] at b;exact (Option.some.inj b).symm
  ·intro e
   rw[List.getElem?_eq_getElem a] at b
   rw[List.getElem?_eq_getElem c] at d
   have:=(Option.some.inj b).trans (e.trans (Option.some.inj d).symm)
   exact (List.getElem_inj (ordK_nd κ A.n)).1 this
 refine⟨⟨hll,h.lp,h.ls,by rw[h.le,h.lb],by rw[h.lm,h.lb],fun u hu=>?_,fun i hi=>?_,fun u hu=>?_,fun k hk'=>?_,fun k hk'=>?_⟩,fun k hk'=>h.mr k (by rw[h.lb] at hk';exact hk'),fun k hk'=>List.mem_range.1 hk',fun u v hu hv e=>(hk u v hu hv).1 ((hset u v hu hv).1 e),fun B hB u v huv=>?_,fun _=>0,fun _ _ _ _ _=>rfl,fun _ _ _ _ _ _ _=>rfl,fun u v hu hv _=>?_⟩
 ·obtain⟨a,b,_⟩:=h.st u hu (hd u hu)
  exact⟨by omega,b⟩
 ·obtain⟨a,b,_⟩:=h.li i (by omega)
  exact⟨a,b⟩
 ·obtain⟨_,_,a,b,c,_⟩:=h.st u hu (hd u hu)
  exact⟨by rw[h.lb];exact a,b,c⟩
 ·obtain⟨a,b,c⟩:=h.sp k (by rw[h.lb] at hk';exact hk')
  exact⟨a,by omega,c⟩
 ·have a:=h.mr k (by rw[h.lb] at hk';exact hk')
  have b:=h.sp k (by rw[h.lb] at hk';exact hk')
  omega
 ·obtain⟨hu,hv⟩:=hB.lt u v huv
  exact (hset u v hu hv).2 ((hk u v hu hv).2 (hB.fr u v huv))
 ·obtain⟨_,_,a,_⟩:=h.st u hu (hd u hu)
  exact .inl (List.mem_range.2 (by rw[h.lb];exact a))
end
def clsP {α:Type} [DecidableEq α] (A:Fa)(κ:Nat→α)(bef:Nat→Nat→List Nat):Nat→Nat :=
 gt (hopP bef A.m (2*(A.n-(rowsP κ A.n).bg.length)+(rowsP κ A.n).bg.length) (rowsP κ A.n) (List.range (rowsP κ A.n).bg.length)).set
def befA (A:Fa)(x c:Nat):List Nat:=(List.range A.n).filter fun u=>A.nx u x==c
theorem befA_mem (A:Fa)(x c u:Nat):u∈befA A x c↔u<A.n∧A.nx u x=c:=by simp[befA]
theorem cls_eq {α:Type} [DecidableEq α] {A:Fa}(hA:A.ok){κ:Nat→α}(hk:∀u v,u<A.n→v<A.n→(κ u=κ v↔∀x,x<A.m→A.fr u x=A.fr v x)){u v:Nat}(hu:u<A.n)(hv:v<A.n) :
  clsP A κ (befA A) u=clsP A κ (befA A) v↔clsR A u=clsR A v:=by
 have h0:=rows_hop hk
 have h1:=hop_end hA (fun y _ c _ u=>befA_mem A y c u) _ h0 (Nat.le_refl _)
 rw[List.length_range] at h1
 exact hop_cls hA h1 hu hv
end Go.Am
namespace Go.Am
open Go
variable [MaxLen]
set_option maxRecDepth 100000
set_option maxHeartbeats 4000000
structure Auto.ok (a:Auto):Prop where
 lines:1≤a.lines∧a.lines≤4
 pos:0<a.next.length
 few:a.next.length≤256
 fl:a.fires.length=a.next.length
 row:∀i (h:i<a.next.length),a.next[i].2.length=2^a.lines.toNat∧∀x∈a.next[i].2,0≤x∧x<(a.next.length:Int)
 frow:∀i (h:i<a.fires.length),a.fires[i].2.length=2^a.lines.toNat
theorem mOf_nat (n:Int):mOf n=((2^n.toNat:Nat):Int):=by unfold mOf;simp
theorem ckRows_zero {m:Nat}{n:Int}:∀{l:List (Bool×List Int)} {f:List (Bool×List Bool)},l.length=f.length→ckRows m n l f=0 →
  (∀i (h:i<l.length),l[i].2.length=m∧∀x∈l[i].2,0≤x∧x<n)∧∀i (h:i<f.length),f[i].2.length=m
 |[],f,hl,_=>by
  have:f=[]:=List.length_eq_zero_iff.1 hl.symm
  subst this
  exact⟨fun i h=>by simp at h,fun i h=>by simp at h⟩
 |r::l,[],hl,_=>by simp at hl
 |r::l,g::f,hl,h=>by
  rw[ckRows] at h
  obtain⟨h1,h⟩:=br_zeroH h (by decide)
  obtain⟨h2,h⟩:=br_zeroH h (by decide)
  obtain⟨i1,i2⟩:=ckRows_zero (by simpa using hl) h
  rw[Bool.or_eq_false_iff] at h1
  have e1:r.2.length=m:=by have:=h1.1;simp at this;omega
  have e2:g.2.length=m:=by have:=h1.2;simp at this;omega
  have e3:∀x∈r.2,0≤x∧x<n:=fun x hx=>by
   have:=outside_ok (by simpa using List.any_eq_false.1 h2 x hx:outside x 0 (n-1)=false)
   omega
  refine⟨fun i hi=>?_,fun i hi=>?_⟩
  ·cases i with
   |zero=>exact⟨e1,e3⟩
   |succ i=>simpa using i1 i (by simpa using hi)
  ·cases i with
   |zero=>exact e2
   |succ i=>simpa using i2 i (by simpa using hi)
theorem Auto.ok_of {a:Auto}(h:ckA a=0):a.ok:=by
 rw[ckA] at h
 obtain⟨h1,h⟩:=br_zeroH h (by decide)
 obtain⟨h2,h⟩:=br_zeroH h (by decide)
 obtain⟨h3,h⟩:=br_zeroH h (by decide)
 obtain⟨h4,h⟩:=br_zeroH h (by decide)
 have hl:1≤a.lines∧a.lines≤4:=by
  simp only[outside,Bool.or_eq_false_iff,decide_eq_false_iff_not] at h1;omega
 have hf:a.fires.length=a.next.length:=by simp at h4;omega
 rw[mOf_nat] at h
 obtain⟨r1,r2⟩:=ckRows_zero hf.symm h
 exact⟨hl,Nat.pos_of_ne_zero fun e=>by rw[e] at h2;exact absurd h2 (by decide),by simp at h3;omega,hf,r1,r2⟩
def Auto.fa (a:Auto):Fa where
 n:=a.next.length
 m:=2^a.lines.toNat
 nx s x:=((a.next.getD s (true,[])).2.getD x 0).toNat
 fr s x:=(a.fires.getD s (true,[])).2.getD x false
theorem getD_at {A:Type}{l:List A}{i:Nat}{d:A}(h:i<l.length):l.getD i d=l[i]:=by
 rw[List.getD_eq_getElem?_getD,List.getElem?_eq_getElem h];rfl
theorem Auto.ok.faok {a:Auto}(h:a.ok):a.fa.ok:=by
 refine⟨h.pos,fun s x hs hx=>?_⟩
 have hs:s<a.next.length:=hs
 have hx:x<2^a.lines.toNat:=hx
 obtain⟨r1,r2⟩:=h.row s hs
 show ((a.next.getD s (true,[])).2.getD x 0).toNat<a.next.length
 rw[getD_at hs,getD_at (show x<a.next[s].2.length by omega)]
 have:=r2 _ (List.getElem_mem (show x<a.next[s].2.length by omega))
 omega
theorem Auto.ok.nxAt {a:Auto}(h:a.ok){s x:Nat}(hs:s<a.next.length)(hx:x<2^a.lines.toNat):ixRA 1 (encS a.next[s].1 (ints a.next[s].2)) (.int .i64 (x:Int))=some (.fp [.int .i64 ((a.fa.nx s x:Nat):Int)] 0):=by
 obtain⟨r1,r2⟩:=h.row s hs
 have hx':x<a.next[s].2.length:=by omega
 rw[ixa_intV hx']
 have e:a.fa.nx s x=(a.next[s].2[x]).toNat:=by
  show ((a.next.getD s (true,[])).2.getD x 0).toNat=_
  rw[getD_at hs,getD_at hx']
 have:=r2 _ (List.getElem_mem hx')
 rw[e,Int.toNat_of_nonneg this.1]
theorem Auto.ok.frAt {a:Auto}(h:a.ok){s x:Nat}(hs:s<a.next.length)(hx:x<2^a.lines.toNat):ixRA 1 (encS (a.fires[s]'(by rw[h.fl];exact hs)).1 (zM (a.fires[s]'(by rw[h.fl];exact hs)).2)) (.int .i64 (x:Int))=some (.fp [.bool (a.fa.fr s x)] 0):=by
 have hs':s<a.fires.length:=by rw[h.fl];exact hs
 have r1:=h.frow s hs'
 have hx':x<a.fires[s].2.length:=by omega
 rw[ixa_boolV hx']
 have e:a.fa.fr s x=a.fires[s].2[x]:=by
  show (a.fires.getD s (true,[])).2.getD x false=_
  rw[getD_at hs',getD_at hx']
 rw[e]
theorem Auto.ok.m16 {a:Auto}(ha:a.ok):2^a.lines.toNat≤65536:=by have:=pow_le16 a.lines (by have:=ha.lines;omega);have:=mOf_nat a.lines;unfold mOf at this;omega
theorem bne_bool (x:Bool):binA U .neq 4 false (.bool x) (.bool x)=some (.bool false):=by cases x <;> kernel_rfl
theorem c60 (a b:Auto)(h1:a.lines=b.lines)(h2:a.next.length=b.next.length)(h3:∀i (h:i<a.next.length) (h':i<b.next.length),a.next[i].2=b.next[i].2)(h4:a.fires.length=b.fires.length)
  (h5:∀i (h:i<a.fires.length) (h':i<b.fires.length),a.fires[i].2=b.fires[i].2)(n1:a.next.length≤2^40)(n2:a.fires.length≤2^40)(n3:∀r∈a.next,r.2.length≤2^40)(n4:∀r∈a.fires,r.2.length≤2^40) :
  calV U 60 [encA a,encA b]=some (.bool true):=by
 refine yB k60 (by kernel_rfl) (by simp[zS,yH]) ?_
 rw[zU,zU]
 have nn:=zH a.nNl (a.next.map zG)
 have nf:=zH a.fNl (a.fires.map zC)
 have cn:=zD a.nNl (a.next.map zG)
 have cf:=zD a.fNl (a.fires.map zC)
 have ln:=zX a.nNl (a.next.map zG)
 have lf:=zX a.fNl (a.fires.map zC)
 have nn':=zH b.nNl (b.next.map zG)
 have nf':=zH b.fNl (b.fires.map zC)
 have cn':=zD b.nNl (b.next.map zG)
 have cf':=zD b.fNl (b.fires.map zC)
 have ln':=zX b.nNl (b.next.map zG)
 have lf':=zX b.fNl (b.fires.map zC)
 rw[List.length_map] at ln lf ln' lf'
 rw[←h2] at ln'
 rw[←h4] at lf'
 have b1:((b.lines:Int) != b.lines)=false:=by simp
 have b2:((a.next.length:Int) != a.next.length)=false:=by simp
 have b3:((a.fires.length:Int) != a.fires.length)=false:=by simp
 unfold encN encFs
 simp (maxSteps:=2000000) +contextual only[go_sem,↓reduceIte,r60,nn,nf,cn,cf,ln,lf,nn',nf',cn',cf',ln',lf',h1,b1,b2,b3]
 refine loop_to (σ:=Nat) (fun i=>a.next.length-i) (fun _=>some (.bool true)) (fun i e s=>i≤a.next.length∧Env.get e 2=.ptr 8 0∧Env.get e 3=.ptr 9 0∧Env.get e 5=.int .i64 (i:Nat)∧9<s.next ∧
  s.get 8=some (.cells [.int .i64 b.lines,encS a.nNl (a.next.map zG),encS a.fNl (a.fires.map zC)] 72 false 0 0)∧s.get 9=some (.cells [.int .i64 b.lines,encS b.nNl (b.next.map zG),encS b.fNl (b.fires.map zC)] 72 false 0 0)) 0 ?_ rfl ?_
 ·rintro L i e s ⟨hi,g2,g3,g5,nx,gs,gs'⟩ IH
  by_cases hd:i<a.next.length
  ·have hw:=zR hd (by omega)
   have hd':i<b.next.length:=by omega
   have r1:=ixa_rowI (nl:=a.nNl) hd
   have r2:=ixa_rowI (nl:=b.nNl) hd'
   have h109:=c109 a.next[i].1 b.next[i].1 a.next[i].2 b.next[i].2 (by have:=n3 _ (List.getElem_mem hd);omega)
   rw[h3 i hd hd',sameI_refl] at h109
   rw[h3 i hd hd'] at r1
   simp (maxSteps:=2000000) +contextual only[go_sem,↓reduceIte,r60_l0,g2,g3,g5,gs,gs',zA,hd,ln,r1,r2,h109,hw]
   refine IH (i+1) _ _ (by omega) ⟨by omega,?_,?_,?_,by rw[zB];omega,by rw[zJ,gs],by rw[zJ,gs']⟩
   all_goals simp +contextual only[go_sem,↓reduceIte,g2,g3,hw]
  ·have:i=a.next.length:=by omega
   subst this
   simp (maxSteps:=2000000) +contextual only[go_sem,↓reduceIte,r60_l0,g2,g5,gs,zA,Nat.lt_irrefl,ln]
   refine loop_to (σ:=Nat) (fun i=>a.fires.length-i) (fun _=>some (.bool true)) (fun i e s=>i≤a.fires.length∧Env.get e 2=.ptr 8 0∧Env.get e 3=.ptr 9 0∧Env.get e 6=.int .i64 (i:Nat)∧9<s.next ∧
    s.get 8=some (.cells [.int .i64 b.lines,encS a.nNl (a.next.map zG),encS a.fNl (a.fires.map zC)] 72 false 0 0)∧s.get 9=some (.cells [.int .i64 b.lines,encS b.nNl (b.next.map zG),encS b.fNl (b.fires.map zC)] 72 false 0 0)) 0 ?_ rfl ?_
   ·clear g2 g3 g5 nx gs gs' IH
    rintro L i e s ⟨hi,g2,g3,g6,nx,gs,gs'⟩ IH
    by_cases hd:i<a.fires.length
    ·have hw:=zR hd (by omega)
     have hd':i<b.fires.length:=by omega
     have r1:=ixa_rowB (nl:=a.fNl) hd
     have r2:=ixa_rowB (nl:=b.fNl) hd'
     have hrl:=n4 _ (List.getElem_mem hd)
     rw[h5 i hd hd'] at r1 hrl
     have l1:=zX a.fires[i].1 (zM b.fires[i].2)
     have l2:=zX b.fires[i].1 (zM b.fires[i].2)
     rw[bools_len] at l1 l2
     have b4:((b.fires[i].2.length:Int) != b.fires[i].2.length)=false:=by simp
     simp (maxSteps:=2000000) +contextual only[go_sem,↓reduceIte,r60_l2,g2,g3,g6,gs,gs',zA,hd,lf,r1,r2,l1,l2,b4]
     refine loop_to (σ:=Nat) (fun x=>b.fires[i].2.length-x) (fun _=>some (.bool true)) (fun x e s=>x≤b.fires[i].2.length∧Env.get e 2=.ptr 8 0∧Env.get e 3=.ptr 9 0∧Env.get e 6=.int .i64 (i:Nat)∧Env.get e 7=.int .i64 (x:Nat)∧9<s.next ∧
      s.get 8=some (.cells [.int .i64 b.lines,encS a.nNl (a.next.map zG),encS a.fNl (a.fires.map zC)] 72 false 0 0)∧s.get 9=some (.cells [.int .i64 b.lines,encS b.nNl (b.next.map zG),encS b.fNl (b.fires.map zC)] 72 false 0 0)) 0 ?_ rfl ?_
     ·clear g2 g3 g6 nx gs gs'
      rintro L' x e s ⟨hx,g2,g3,g6,g7,nx,gs,gs'⟩ IH'
      by_cases hd2:x<b.fires[i].2.length
      ·have hw2:=zR hd2 (by omega)
       have q1:=ixa_boolV (nl:=a.fires[i].1) hd2
       have q2:=ixa_boolV (nl:=b.fires[i].1) hd2
       have q3:=bne_bool b.fires[i].2[x]
       simp (maxSteps:=2000000) +contextual only[go_sem,↓reduceIte,r60_l1,g2,g3,g6,g7,gs,gs',zA,hd2,r1,r2,l1,q1,q2,q3,hw2]
       refine IH' (x+1) _ _ (by omega) ⟨by omega,?_,?_,?_,?_,by rw[zB];omega,by rw[zJ,gs],by rw[zJ,gs']⟩
       all_goals simp +contextual only[go_sem,↓reduceIte,g2,g3,g6,hw2]
      ·have:x=b.fires[i].2.length:=by omega
       subst this
       simp (maxSteps:=2000000) +contextual only[go_sem,↓reduceIte,r60_l1,g2,g3,g6,g7,gs,gs',zA,Nat.lt_irrefl,r1,l1,hw]
       refine IH (i+1) _ _ (by omega) ⟨by omega,?_,?_,?_,nx,gs,gs'⟩
       all_goals simp +contextual only[go_sem,↓reduceIte,g2,g3,hw]
     ·refine⟨Nat.zero_le _,?_,?_,?_,?_,by simp only[zB];omega,by simp only[zJ,gs],by simp only[zJ,gs']⟩
      all_goals simp +contextual only[go_sem,↓reduceIte,g2,g3,g6]
      all_goals rfl
    ·have:i=a.fires.length:=by omega
     subst this
     simp (maxSteps:=2000000) +contextual only[go_sem,↓reduceIte,r60_l2,g2,g6,gs,zA,Nat.lt_irrefl,lf]
   ·refine⟨Nat.zero_le _,?_,?_,?_,nx,gs,gs'⟩
    all_goals simp +contextual only[go_sem,↓reduceIte,g2,g3]
    all_goals rfl
 ·refine⟨Nat.zero_le _,?_,?_,?_,?_,?_,?_⟩
  all_goals try simp +contextual only[go_sem,↓reduceIte]
  all_goals rfl
theorem c43_bad (e bad:Int)(h:bad≠0)(he:e=bad):calV U 43 [encA ⟨0,true,[],true,[]⟩,.int .i64 e,.int .i64 bad,encA ⟨0,true,[],true,[]⟩]=some (.bool true):=by
 refine yB k43 (by kernel_rfl) (by simp[zS,yH,still]) ?_
 have h60:=c60 ⟨0,true,[],true,[]⟩ ⟨0,true,[],true,[]⟩ rfl rfl (fun i h=>by simp at h) rfl (fun i h=>by simp at h) (by simp) (by simp) (by simp) (by simp)
 subst he
 have h1:(e != 0)=true:=by simpa using h
 rw[show encA ⟨0,true,[],true,[]⟩=.agg [.int .i64 0,.nils,.nils] from rfl] at h60 ⊢
 simp (maxSteps:=2000000) +contextual only[go_sem,↓reduceIte,r43,h60,h1,beq_self_eq_true]
theorem c43_ok (a b:Auto)(h:calV U 60 [encA a,encA b]=some (.bool true)):calV U 43 [encA a,.int .i64 0,.int .i64 0,encA b]=some (.bool true):=by
 refine yB k43 (by kernel_rfl) (by simp[zS,yH,still]) ?_
 have nn:=zH a.nNl (a.next.map zG)
 have nf:=zH a.fNl (a.fires.map zC)
 have cn:=zD a.nNl (a.next.map zG)
 have cf:=zD a.fNl (a.fires.map zC)
 have nn':=zH b.nNl (b.next.map zG)
 have nf':=zH b.fNl (b.fires.map zC)
 have cn':=zD b.nNl (b.next.map zG)
 have cf':=zD b.fNl (b.fires.map zC)
 rw[zU,zU] at h ⊢
 unfold encN encFs at h ⊢
 simp (maxSteps:=2000000) +contextual only[go_sem,↓reduceIte,r43,h,nn,nf,cn,cf,nn',nf',cn',cf',beq_self_eq_true]
def shortRows (n:Nat):List (Bool×List Int)→Bool
 |[]=>true
 |r::l=>bif decide ((r.2.length:Int)>n) then false else shortRows n l
def shortFs (n:Nat):List (Bool×List Bool)→Bool
 |[]=>true
 |r::l=>bif decide ((r.2.length:Int)>n) then false else shortFs n l
def shortA (a:Auto)(n:Int):Bool :=
 bif (decide ((a.next.length:Int)>n)&&decide ((a.next.length:Int)≤256))||(decide ((a.next.length:Int)>258)||decide ((a.fires.length:Int)>260)) then false else shortRows 18 a.next&&shortFs 18 a.fires
theorem shortRows_ok {n:Nat}:∀{l:List (Bool×List Int)},shortRows n l=true→∀r∈l,r.2.length≤n
 |[],_,r,h=>by simp at h
 |x::l,h,r,hr=>by
  rw[shortRows] at h
  cases hd:decide ((x.2.length:Int)>n) with
  |true=>rw[hd] at h;cases h
  |false =>
   rw[hd,cond_false] at h
   rcases List.mem_cons.1 hr with rfl|hr
   ·simp at hd;omega
   ·exact shortRows_ok h r hr
theorem l44 (a:Auto)(hN:a.next.length≤258)(hF:a.fires.length≤260){e:Env}{s:St}(g2:Env.get e 2=.ptr 8 0)(g5:Env.get e 5=.int .i64 (0:Nat))(gs:s.get 8=some (.cells [.int .i64 a.lines,encS a.nNl (a.next.map zG),encS a.fNl (a.fires.map zC)] 72 false 0 0)) :
  goL U (finP U [.tmp 4]) [.bk 0,.sq (.seq (.seq (.ops [⟨some 6,none,none,false,.mov (.v (.int .i64 0))⟩]) (.block 2 (.loop r44_l1))) (.seq (.ops [⟨some 4,none,none,false,.mov (.v (.bool true))⟩]) .ret))] r44_l0 e s=some (.bool (shortRows 18 a.next&&shortFs 18 a.fires)):=by
 have ln:=zX a.nNl (a.next.map zG)
 have lf:=zX a.fNl (a.fires.map zC)
 rw[List.length_map] at ln lf
 refine loop_to (σ:=Nat) (fun i=>a.next.length-i) (fun i=>some (.bool (shortRows 18 (a.next.drop i)&&shortFs 18 a.fires))) (fun i e s=>i≤a.next.length∧Env.get e 2=.ptr 8 0∧Env.get e 5=.int .i64 (i:Nat) ∧
  s.get 8=some (.cells [.int .i64 a.lines,encS a.nNl (a.next.map zG),encS a.fNl (a.fires.map zC)] 72 false 0 0)) 0 ?_ rfl ⟨Nat.zero_le _,g2,g5,gs⟩
 clear g2 g5 gs
 rintro L i e s ⟨hi,g2,g5,gs⟩ IH
 by_cases hd:i<a.next.length
 ·have hw:=zR hd (by omega)
  have r1:=ixa_rowI (nl:=a.nNl) hd
  have l1:=zX a.next[i].1 (ints a.next[i].2)
  rw[ints_len] at l1
  rw[List.drop_eq_getElem_cons hd,shortRows]
  cases h:decide ((a.next[i].2.length:Int)>(18:Nat)) with
  |true =>
   have h:decide ((a.next[i].2.length:Int)>18)=true:=h
   simp (maxSteps:=2000000) +contextual only[go_sem,↓reduceIte,r44_l0,g2,g5,gs,zA,hd,ln,r1,l1,h,Bool.false_and,cond_true]
  |false =>
   have h:decide ((a.next[i].2.length:Int)>18)=false:=h
   simp (maxSteps:=2000000) +contextual only[go_sem,↓reduceIte,r44_l0,g2,g5,gs,zA,hd,ln,r1,l1,h,hw,cond_false]
   refine IH (i+1) _ _ (by omega) ⟨by omega,?_,?_,gs⟩
   all_goals simp +contextual only[go_sem,↓reduceIte,g2,hw]
 ·have:i=a.next.length:=by omega
  subst this
  rw[List.drop_length,shortRows,Bool.true_and]
  simp (maxSteps:=2000000) +contextual only[go_sem,↓reduceIte,r44_l0,g2,g5,gs,zA,Nat.lt_irrefl,ln]
  refine loop_to (σ:=Nat) (fun i=>a.fires.length-i) (fun i=>some (.bool (shortFs 18 (a.fires.drop i)))) (fun i e s=>i≤a.fires.length∧Env.get e 2=.ptr 8 0∧Env.get e 6=.int .i64 (i:Nat) ∧
   s.get 8=some (.cells [.int .i64 a.lines,encS a.nNl (a.next.map zG),encS a.fNl (a.fires.map zC)] 72 false 0 0)) 0 ?_ rfl ?_
  ·clear g2 g5 gs IH
   rintro L i e s ⟨hi,g2,g6,gs⟩ IH
   by_cases hd:i<a.fires.length
   ·have hw:=zR hd (by omega)
    have r1:=ixa_rowB (nl:=a.fNl) hd
    have l1:=zX a.fires[i].1 (zM a.fires[i].2)
    rw[bools_len] at l1
    rw[List.drop_eq_getElem_cons hd,shortFs]
    cases h:decide ((a.fires[i].2.length:Int)>(18:Nat)) with
    |true =>
     have h:decide ((a.fires[i].2.length:Int)>18)=true:=h
     simp (maxSteps:=2000000) +contextual only[go_sem,↓reduceIte,r44_l1,g2,g6,gs,zA,hd,lf,r1,l1,h,cond_true]
    |false =>
     have h:decide ((a.fires[i].2.length:Int)>18)=false:=h
     simp (maxSteps:=2000000) +contextual only[go_sem,↓reduceIte,r44_l1,g2,g6,gs,zA,hd,lf,r1,l1,h,hw,cond_false]
     refine IH (i+1) _ _ (by omega) ⟨by omega,?_,?_,gs⟩
     all_goals simp +contextual only[go_sem,↓reduceIte,g2,hw]
   ·have:i=a.fires.length:=by omega
    subst this
    simp (maxSteps:=2000000) +contextual only[go_sem,↓reduceIte,r44_l1,g2,g6,gs,zA,Nat.lt_irrefl,lf]
    rw[List.drop_length,shortFs]
  ·refine⟨Nat.zero_le _,?_,?_,gs⟩
   all_goals simp +contextual only[go_sem,↓reduceIte,g2]
   all_goals rfl
theorem c44 (a:Auto)(n:Int):calV U 44 [encA a,.int .i64 n]=some (.bool (shortA a n)):=by
 refine yB k44 (by kernel_rfl) (by simp[zS,yH,still]) ?_
 rw[zU]
 have nn:=zH a.nNl (a.next.map zG)
 have nf:=zH a.fNl (a.fires.map zC)
 have cn:=zD a.nNl (a.next.map zG)
 have cf:=zD a.fNl (a.fires.map zC)
 have ln:=zX a.nNl (a.next.map zG)
 have lf:=zX a.fNl (a.fires.map zC)
 rw[List.length_map] at ln lf
 unfold encN encFs shortA
 cases h1:decide ((a.next.length:Int)>n) <;> cases h2:decide ((a.next.length:Int)≤256) <;> cases h3:decide ((a.next.length:Int)>258) <;> cases h4:decide ((a.fires.length:Int)>260)
 all_goals simp (maxSteps:=2000000) +contextual only[go_sem,↓reduceIte,r44,nn,nf,cn,cf,ln,lf,h1,h2,h3,h4]
 all_goals try rfl
 all_goals have hN:a.next.length≤258:=by simp at h3;omega
 all_goals have hF:a.fires.length≤260:=by simp at h4;omega
 all_goals clear h1 h2 h3 h4
 all_goals refine l44 a hN hF ?_ ?_ ?_
 all_goals try simp +contextual only[go_sem,↓reduceIte]
 all_goals rfl
theorem opA_mks40 {ex:Ex}{a:Nat}{e:Env}{s:St}{n:Nat}(h:Env.get e a=.int .i64 (n:Int))(hn:n≤2^20) :
  opA U ex e (.makeSlice 40 (.tmp a) (.tmp a)) s=some (.sl s.next 0 n (some n) 1,s.new (.cells (ints (List.replicate n 0)) 3 false 0 0)):=by
 have h40:U.und 40=some (.slice 3):=by kernel_rfl
 have hz:zero U 3=some (.int .i64 0):=by kernel_rfl
 have hi:(U.inf 3).map (fun i=>(i.bytes,i.size))=some (8,1):=by kernel_rfl
 have e1:ints (List.replicate n 0)=List.replicate n (.int .i64 0):=by simp[ints]
 cases hj:U.inf 3 with
 |none=>rw[hj] at hi;cases hi
 |some j =>
  rw[hj] at hi
  simp only[Option.map_some,Option.some.injEq,Prod.mk.injEq] at hi
  obtain⟨h1,h2⟩:=hi
  rw[e1,←repeatL_one]
  simp only[opA,eval,h,h40,hj,hz]
  rw[if_pos ⟨by omega,by omega,by rw[h1];omega,by omega,by rw[h2];rfl,by omega⟩,h2]
  rfl
theorem opA_mks43 {ex:Ex}{a:Nat}{e:Env}{s:St}{n:Nat}(h:Env.get e a=.int .i64 (n:Int))(hn:n≤2^20) :
  opA U ex e (.makeSlice 43 (.tmp a) (.tmp a)) s=some (.sl s.next 0 n (some n) 1,s.new (.cells (zM (List.replicate n false)) 4 false 0 0)):=by
 have h40:U.und 43=some (.slice 4):=by kernel_rfl
 have hz:zero U 4=some (.bool false):=by kernel_rfl
 have hi:(U.inf 4).map (fun i=>(i.bytes,i.size))=some (1,1):=by kernel_rfl
 have e1:zM (List.replicate n false)=List.replicate n (.bool false):=by simp[zM]
 cases hj:U.inf 4 with
 |none=>rw[hj] at hi;cases hi
 |some j =>
  rw[hj] at hi
  simp only[Option.map_some,Option.some.injEq,Prod.mk.injEq] at hi
  obtain⟨h1,h2⟩:=hi
  rw[e1,←repeatL_one]
  simp only[opA,eval,h,h40,hj,hz]
  rw[if_pos ⟨by omega,by omega,by rw[h1];omega,by omega,by rw[h2];rfl,by omega⟩,h2]
  rfl
def nIs (l:List Nat):List Int:=l.map fun k:Nat=>(k:Int)
def nats (l:List Nat):List AV:=ints (nIs l)
theorem nIs_len (l:List Nat):(nIs l).length=l.length:=by simp[nIs]
theorem nats_len (l:List Nat):(nats l).length=l.length:=by rw[nats,ints_len,nIs_len]
theorem yL {l:List Nat}{i:Nat}(h:i<l.length):(nats l)[i]? = some (.int .i64 ((gt l i:Nat):Int)):=by
 rw[nats,ints_get,nIs,List.getElem?_map,List.getElem?_eq_getElem h,gt_get h];rfl
theorem nats_lay {l:List Nat}{i:Nat}(k:Nat)(h:i<l.length):lay i [.int .i64 (k:Int)] (nats l)=some (nats (l.set i k)):=by
 rw[lay_set _ _ _ (by rw[nats_len];exact h)]
 simp[nats,ints,nIs,List.map_set]
theorem nats_app (l:List Nat)(k:Nat):nats l++[.int .i64 (k:Int)]=nats (l++[k]):=by simp[nats,ints,nIs]
theorem nats_rep (n:Nat):ints (List.replicate n 0)=nats (List.replicate n 0):=by simp[nats,ints,nIs]
theorem bin_eqb (a b:Bool):binA U .eql 4 false (.bool a) (.bool b)=some (.bool (a==b)):=by cases a <;> cases b <;> kernel_rfl
theorem ieqN (a b:Nat):((a:Int)==(b:Int))=(a==b):=by rw[Bool.eq_iff_iff];simp;omega
theorem ineN (a b:Nat):((a:Int) != (b:Int))=(a != b):=by rw[bne,bne,ieqN]
def boxA (a:Auto)(t:TypeId):Blk:=.cells [.int .i64 a.lines,encS a.nNl (a.next.map zG),encS a.fNl (a.fires.map zC)] t false 0 0
theorem l106a {β:Type}{fin:Fl→β}{ks:List K}{Post:β→Prop}{a:Auto}(ha:a.ok){L:List Nat}(hL:L.length=a.next.length){u v b:Nat}(hu:u<a.next.length)(hv:v<a.next.length)
  {e:Env}{s:St}(g1:Env.get e 1=.ptr 8 0)(g4:Env.get e 4=.sl b 0 a.next.length (some a.next.length) 1)(g7:Env.get e 7=.int .i64 (u:Int))(g8:Env.get e 8=.int .i64 (v:Int))(g9:Env.get e 9=.bool true)(g10:Env.get e 10=.int .i64 (0:Nat))
  (gs:s.get 8=some (boxA a 72))(gb:s.get b=some (.cells (nats L) 3 false 0 0))(fr:Fr s)
  (hk:∀e' s',(∀t:Nat,t<9→Env.get e' t=Env.get e t)→Env.get e' 9=.bool (alk a.fa (gt L) u v)→(∀j,s'.get j=s.get j)→s.next≤s'.next→Fr s'→Post (goN U fin ks e' s')) :
  Post (goL U fin (.bk 6::ks) r106_l0 e s):=by
 have hsh:=bin_shl1 U 3 true .i64 (n:=a.lines) (show 0≤a.lines∧a.lines≤16 by have:=ha.lines;omega)
 have hm:(2:Int)^a.lines.toNat=((2^a.lines.toNat:Nat):Int):=by have:=mOf_nat a.lines;unfold mOf at this;exact this
 rw[hm] at hsh
 have hm16:2^a.lines.toNat≤65536:=by have:=pow_le16 a.lines (by have:=ha.lines;omega);omega
 have hu':u<a.fires.length:=by rw[ha.fl];exact hu
 have hv':v<a.fires.length:=by rw[ha.fl];exact hv
 have r1:=ixa_rowI (nl:=a.nNl) hu
 have r2:=ixa_rowB (nl:=a.fNl) hu'
 have r3:=ixa_rowI (nl:=a.nNl) hv
 have r4:=ixa_rowB (nl:=a.fNl) hv'
 unfold boxA at gs
 refine yE (σ:=Nat) (fun x=>2^a.lines.toNat-x) (fun x e' s'=>x≤2^a.lines.toNat∧(∀t:Nat,t<9→Env.get e' t=Env.get e t)∧Env.get e' 9=.bool (alkN a.fa (gt L) u v x)∧Env.get e' 10=.int .i64 (x:Nat)∧(∀j,s'.get j=s.get j)∧s.next≤s'.next∧Fr s') 0 ?_
  ⟨Nat.zero_le _,fun _ _=>rfl,g9,g10,fun _=>rfl,Nat.le_refl _,fr⟩
 rintro Lp x e' s' ⟨hx,hold,q9,q10,hs,hnx,fr'⟩ IH
 have q1:=(hold 1 (by omega)).trans g1
 have q4:=(hold 4 (by omega)).trans g4
 have q7:=(hold 7 (by omega)).trans g7
 have q8:=(hold 8 (by omega)).trans g8
 have gs':=(hs 8).trans gs
 have gb':=(hs b).trans gb
 by_cases hd:x<2^a.lines.toNat
 ·have hw:=zR hd (by omega)
  have n1:=ha.nxAt hu hd
  have n2:=ha.nxAt hv hd
  have f1:=ha.frAt hu hd
  have f2:=ha.frAt hv hd
  have lt1:a.fa.nx u x<a.next.length:=ha.faok.lt u x hu hd
  have lt2:a.fa.nx v x<a.next.length:=ha.faok.lt v x hv hd
  have o1:=yL (l:=L) (i:=a.fa.nx u x) (by omega)
  have o2:=yL (l:=L) (i:=a.fa.nx v x) (by omega)
  have halk:alkN a.fa (gt L) u v (x+1)=(alkN a.fa (gt L) u v x&&(a.fa.fr u x==a.fa.fr v x&&gt L (a.fa.nx u x)==gt L (a.fa.nx v x))):=rfl
  cases hA:alkN a.fa (gt L) u v x with
  |false =>
   rw[hA] at q9
   simp (maxSteps:=2000000) +contextual only[go_sem,↓reduceIte,r106_l0,q1,q4,q7,q8,q9,q10,gs',gb',hsh,zA,hd,hw]
   refine IH (x+1) _ _ (by omega) ⟨by omega,fun t ht=>?_,?_,?_,fun j=>by rw[zJ,hs j],by rw[zB];omega,fr'.upto (by omega)⟩
   ·have hne:∀k:Nat,9≤k→(k=t)=False:=fun k hk=>by simp;omega
    simp +contextual only[go_sem,↓reduceIte,hne]
    exact hold t ht
   ·rw[halk,hA,Bool.false_and]
    simp +contextual only[go_sem,↓reduceIte]
   ·simp +contextual only[go_sem,↓reduceIte,hw]
  |true =>
   rw[hA] at q9
   cases hB:(a.fa.fr u x==a.fa.fr v x) with
   |false =>
    simp (maxSteps:=2000000) +contextual only[go_sem,↓reduceIte,r106_l0,q1,q4,q7,q8,q9,q10,gs',gb',hsh,zA,hd,hw,r1,r2,r3,r4,f1,f2,n1,n2,bin_eqb,hB]
    refine IH (x+1) _ _ (by omega) ⟨by omega,fun t ht=>?_,?_,?_,fun j=>by rw[zJ,hs j],by rw[zB];omega,fr'.upto (by omega)⟩
    ·have hne:∀k:Nat,9≤k→(k=t)=False:=fun k hk=>by simp;omega
     simp +contextual only[go_sem,↓reduceIte,hne]
     exact hold t ht
    ·rw[halk,hA,hB,Bool.false_and,Bool.and_false]
     simp +contextual only[go_sem,↓reduceIte,ieqN]
    ·simp +contextual only[go_sem,↓reduceIte,hw]
   |true =>
    simp (maxSteps:=2000000) +contextual only[go_sem,↓reduceIte,r106_l0,q1,q4,q7,q8,q9,q10,gs',gb',hsh,zA,hd,hw,r1,r2,r3,r4,f1,f2,n1,n2,bin_eqb,hB,lt1,lt2,o1,o2,Nat.mul_one,ieqN]
    refine IH (x+1) _ _ (by omega) ⟨by omega,fun t ht=>?_,?_,?_,fun j=>by rw[zJ,hs j],by rw[zB];omega,fr'.upto (by omega)⟩
    ·have hne:∀k:Nat,9≤k→(k=t)=False:=fun k hk=>by simp;omega
     simp +contextual only[go_sem,↓reduceIte,hne]
     exact hold t ht
    ·rw[halk,hA,hB,Bool.true_and,Bool.true_and]
     simp +contextual only[go_sem,↓reduceIte,ieqN]
    ·simp +contextual only[go_sem,↓reduceIte,hw]
 ·have:x=2^a.lines.toNat:=by omega
  subst this
  simp (maxSteps:=2000000) +contextual only[go_sem,↓reduceIte,r106_l0,q1,q10,gs',hsh,zA,Nat.lt_irrefl]
  refine hk _ _ (fun t ht=>?_) ?_ hs hnx fr'
  ·have hne:∀k:Nat,9≤k→(k=t)=False:=fun k hk=>by simp;omega
   simp +contextual only[go_sem,↓reduceIte,hne]
   exact hold t ht
  ·simp +contextual only[go_sem,↓reduceIte,q9]
   rfl
theorem l106b {β:Type}{fin:Fl→β}{ks:List K}{Post:β→Prop}{a:Auto}(ha:a.ok){L N:List Nat}(hL:L.length=a.next.length)(hN:N.length=a.next.length){u b c:Nat}(hu:u<a.next.length)(hbc:b≠c)(h8:8≠c)
  {e:Env}{s:St}(g1:Env.get e 1=.ptr 8 0)(g4:Env.get e 4=.sl b 0 a.next.length (some a.next.length) 1)(g6:Env.get e 6=.sl c 0 a.next.length (some a.next.length) 1)(g7:Env.get e 7=.int .i64 (u:Int))(g8:Env.get e 8=.int .i64 ((u:Int)-1))
  (gs:s.get 8=some (boxA a 72))(gb:s.get b=some (.cells (nats L) 3 false 0 0))(gc:s.get c=some (.cells (nats (N.set u u)) 3 false 0 0))(hc:c<s.next)(fr:Fr s)
  (hk:∀e' s',(∀t:Nat,t<8→Env.get e' t=Env.get e t)→s'.get c=some (.cells (nats (N.set u (cano a.fa (gt L) u))) 3 false 0 0)→(∀j,j≠c→s'.get j=s.get j)→s.next≤s'.next→Fr s'→Post (goN U fin ks e' s')) :
  Post (goL U fin (.bk 4::ks) r106_l1 e s):=by
 have hfew:=ha.few
 refine yE (σ:=Nat) (fun k=>k) (fun k e' s'=>k≤u∧(∀t:Nat,t<8→Env.get e' t=Env.get e t)∧Env.get e' 8=.int .i64 ((k:Int)-1)∧(∀j,j≠c→s'.get j=s.get j)∧s.next≤s'.next∧Fr s' ∧
   ∃cur,s'.get c=some (.cells (nats (N.set u cur)) 3 false 0 0)∧scanD (alk a.fa (gt L) u) k cur=cano a.fa (gt L) u) u ?_
  ⟨Nat.le_refl _,fun _ _=>rfl,g8,fun _ _=>rfl,Nat.le_refl _,fr,u,gc,rfl⟩
 rintro Lp k e' s' ⟨hku,hold,q8,hs,hnx,fr',cur,qc,hcur⟩ IH
 have q1:=(hold 1 (by omega)).trans g1
 have q4:=(hold 4 (by omega)).trans g4
 have q6:=(hold 6 (by omega)).trans g6
 have q7:=(hold 7 (by omega)).trans g7
 have gs':=(hs 8 h8).trans gs
 have gb':=(hs b hbc).trans gb
 cases k with
 |zero =>
  have hn:decide (((0:Nat):Int)-1≥0)=false:=by decide
  simp (maxSteps:=2000000) +contextual only[go_sem,↓reduceIte,r106_l1,q8,hn]
  rw[scanD] at hcur
  refine hk _ _ (fun t ht=>?_) (by rw[qc,hcur]) hs hnx fr'
  have hne:∀k:Nat,8≤k→(k=t)=False:=fun k hk=>by simp;omega
  simp +contextual only[go_sem,↓reduceIte,hne]
  exact hold t ht
 |succ k =>
  have hk1:((k+1:Nat):Int)-1=(k:Int):=by omega
  rw[hk1] at q8
  have hn:decide ((k:Int)≥0)=true:=by simp
  have hw:IntKind.i64.wrap ((k:Int)-1)=(k:Int)-1:=by rw[wrap_i64] <;> omega
  simp (maxSteps:=2000000) +contextual only[go_sem,↓reduceIte,r106_l1,q8,hn]
  refine l106a (u:=u) (v:=k) (b:=b) ha hL hu (by omega) ?_ ?_ ?_ ?_ ?_ ?_ gs' gb' fr' ?_
  case refine_7 =>
   intro e2 s2 hold2 a9 hs2 hnx2 fr2
   have p6:Env.get e2 6=.sl c 0 a.next.length (some a.next.length) 1:=by
    rw[hold2 6 (by omega)]
    simp +contextual only[go_sem,↓reduceIte,q6]
   have p7:Env.get e2 7=.int .i64 (u:Int):=by
    rw[hold2 7 (by omega)]
    simp +contextual only[go_sem,↓reduceIte,q7]
   have p8:Env.get e2 8=.int .i64 (k:Int):=by
    rw[hold2 8 (by omega)]
    simp +contextual only[go_sem,↓reduceIte,q8]
   have pc:s2.get c=some (.cells (nats (N.set u cur)) 3 false 0 0):=(hs2 c).trans qc
   have hlay:=nats_lay (l:=N.set u cur) (i:=u) k (by rw[List.length_set];omega)
   rw[List.set_set] at hlay
   have holdT:∀t:Nat,t<8→Env.get e2 t=Env.get e t:=fun t ht=>by
    rw[hold2 t (by omega)]
    have hne:∀k:Nat,8≤k→(k=t)=False:=fun k hk=>by simp;omega
    simp +contextual only[go_sem,↓reduceIte,hne]
    exact hold t ht
   rw[scanD] at hcur
   cases hA:alk a.fa (gt L) u k with
   |false =>
    rw[hA] at a9 hcur
    simp (maxSteps:=2000000) +contextual only[go_sem,↓reduceIte,a9,p8,hw]
    refine IH k _ _ (by omega) ⟨by omega,fun t ht=>?_,?_,fun j hj=>by rw[hs2 j,hs j hj],by omega,fr2,cur,pc,hcur⟩
    ·have hne:∀k:Nat,8≤k→(k=t)=False:=fun k hk=>by simp;omega
     simp +contextual only[go_sem,↓reduceIte,hne]
     exact holdT t ht
    ·simp +contextual only[go_sem,↓reduceIte]
   |true =>
    rw[hA] at a9 hcur
    simp (maxSteps:=2000000) +contextual only[go_sem,↓reduceIte,a9,p6,p7,p8,pc,hw,hu,hlay,Nat.mul_one]
    refine IH k _ _ (by omega) ⟨by omega,fun t ht=>?_,?_,fun j hj=>by rw[get_put,if_neg (fun e=>hj e.symm),hs2 j,hs j hj],by rw[next_put];omega,fr2.put (by omega) _,k,by rw[get_put,if_pos rfl],hcur⟩
    ·have hne:∀k:Nat,8≤k→(k=t)=False:=fun k hk=>by simp;omega
     simp +contextual only[go_sem,↓reduceIte,hne]
     exact holdT t ht
    ·simp +contextual only[go_sem,↓reduceIte]
  all_goals simp +contextual only[go_sem,↓reduceIte,q1,q4,q7,q8]
  all_goals rfl
def nextL2 (A:Fa)(L:List Nat):List Nat:=(List.range A.n).map (cano A (gt L))
theorem nextL2_len (A:Fa)(L:List Nat):(nextL2 A L).length=A.n:=by simp[nextL2]
theorem nextL2_gt (A:Fa)(L:List Nat){s:Nat}(h:s<A.n):gt (nextL2 A L) s=cano A (gt L) s:=by
 rw[gt_get (by rw[nextL2_len];exact h)]
 simp[nextL2]
theorem l106c {β:Type}{fin:Fl→β}{ks:List K}{Post:β→Prop}{a:Auto}(ha:a.ok){L:List Nat}(hL:L.length=a.next.length){b c:Nat}(hbc:b≠c)(h8:8≠c)
  {e:Env}{s:St}(g1:Env.get e 1=.ptr 8 0)(g3:Env.get e 3=.int .i64 a.next.length)(g4:Env.get e 4=.sl b 0 a.next.length (some a.next.length) 1)(g6:Env.get e 6=.sl c 0 a.next.length (some a.next.length) 1)(g7:Env.get e 7=.int .i64 (0:Nat))
  (gs:s.get 8=some (boxA a 72))(gb:s.get b=some (.cells (nats L) 3 false 0 0))(gc:s.get c=some (.cells (nats (List.replicate a.next.length 0)) 3 false 0 0))(hc:c<s.next)(fr:Fr s)
  (hk:∀e' s',(∀t:Nat,t<7→Env.get e' t=Env.get e t)→s'.get c=some (.cells (nats (nextL2 a.fa L)) 3 false 0 0)→(∀j,j≠c→s'.get j=s.get j)→s.next≤s'.next→Fr s'→Post (goN U fin ks e' s')) :
  Post (goL U fin (.bk 2::ks) r106_l2 e s):=by
 have hfew:=ha.few
 have hnl:=nextL2_len a.fa L
 have hnl:(nextL2 a.fa L).length=a.next.length:=hnl
 refine yE (σ:=Nat) (fun i=>a.next.length-i) (fun i e' s'=>i≤a.next.length∧(∀t:Nat,t<7→Env.get e' t=Env.get e t)∧Env.get e' 7=.int .i64 (i:Nat)∧(∀j,j≠c→s'.get j=s.get j)∧s.next≤s'.next∧Fr s' ∧
   s'.get c=some (.cells (nats (part (nextL2 a.fa L) 0 a.next.length i)) 3 false 0 0)) 0 ?_
  ⟨Nat.zero_le _,fun _ _=>rfl,g7,fun _ _=>rfl,Nat.le_refl _,fr,by rw[gc];unfold part;rw[List.take_zero,List.nil_append,Nat.sub_zero]⟩
 rintro Lp i e' s' ⟨hi,hold,q7,hs,hnx,fr',qc⟩ IH
 have q1:=(hold 1 (by omega)).trans g1
 have q3:=(hold 3 (by omega)).trans g3
 have q4:=(hold 4 (by omega)).trans g4
 have q6:=(hold 6 (by omega)).trans g6
 have gs':=(hs 8 h8).trans gs
 have gb':=(hs b hbc).trans gb
 by_cases hd:i<a.next.length
 ·have hw:=zR hd (by omega)
  have hw':IntKind.i64.wrap ((i:Int)-1)=(i:Int)-1:=by rw[wrap_i64] <;> omega
  have hpl:=part_len (nextL2 a.fa L) 0 hnl hi
  have hlay:=nats_lay (l:=part (nextL2 a.fa L) 0 a.next.length i) (i:=i) i (by omega)
  simp (maxSteps:=2000000) +contextual only[go_sem,↓reduceIte,r106_l2,q3,q6,q7,qc,zA,hd,hlay,Nat.mul_one,hw']
  refine l106b (N:=part (nextL2 a.fa L) 0 a.next.length i) (u:=i) (b:=b) (c:=c) ha hL hpl hd hbc h8 ?_ ?_ ?_ ?_ ?_ ?_ ?_ ?_ ?_ ?_ ?_
  case refine_11 =>
   intro e2 s2 hold2 c2 hs2 hnx2 fr2
   have p7:Env.get e2 7=.int .i64 (i:Int):=by
    rw[hold2 7 (by omega)]
    simp +contextual only[go_sem,↓reduceIte,q7]
   rw[next_put] at hnx2
   simp (maxSteps:=2000000) +contextual only[go_sem,↓reduceIte,p7,hw]
   have hset:(part (nextL2 a.fa L) 0 a.next.length i).set i (cano a.fa (gt L) i)=part (nextL2 a.fa L) 0 a.next.length (i+1):=by
    rw[←part_set (nextL2 a.fa L) 0 hnl hd,←gt_get (show i<(nextL2 a.fa L).length by omega),nextL2_gt _ _ hd]
   refine IH (i+1) _ _ (by omega) ⟨by omega,fun t ht=>?_,?_,fun j hj=>by rw[hs2 j hj,get_put,if_neg (fun e=>hj e.symm),hs j hj],by omega,fr2,by rw[c2,hset]⟩
   ·have hne:∀k:Nat,7≤k→(k=t)=False:=fun k hk=>by simp;omega
    simp +contextual only[go_sem,↓reduceIte,hne]
    rw[hold2 t (by omega)]
    simp +contextual only[go_sem,↓reduceIte,hne]
    exact hold t ht
   ·simp +contextual only[go_sem,↓reduceIte]
  case refine_10=>exact fr'.put (by omega) _
  case refine_9=>rw[next_put];omega
  case refine_8=>rw[get_put,if_pos rfl]
  case refine_7=>rw[get_put,if_neg (fun e=>hbc e.symm),gb']
  case refine_6=>rw[get_put,if_neg (fun e=>h8 e.symm),gs']
  all_goals simp +contextual only[go_sem,↓reduceIte,q1,q4,q6,q7]
 ·have:i=a.next.length:=by omega
  subst this
  rw[part_full _ _ hnl] at qc
  simp (maxSteps:=2000000) +contextual only[go_sem,↓reduceIte,r106_l2,q3,q7,zA,Nat.lt_irrefl]
  refine hk _ _ (fun t ht=>?_) qc hs hnx fr'
  have hne:∀k:Nat,7≤k→(k=t)=False:=fun k hk=>by simp;omega
  simp +contextual only[go_sem,↓reduceIte,hne]
  exact hold t ht
def rclL (A:Fa):Nat→List Nat→List Nat
 |0,L=>L
 |r+1,L=>bif nextL2 A L==L then L else rclL A r (nextL2 A L)
def clsL (A:Fa):List Nat:=rclL A (A.n+1) (List.replicate A.n 0)
theorem cano_congr {A:Fa}(hA:A.ok){f g:Nat→Nat}(h:∀s,s<A.n→f s=g s){s:Nat}(hs:s<A.n):cano A f s=cano A g s:=by
 have hE:∀u v,u<A.n→v<A.n→(A.E f u v↔A.E g u v):=fun u v hu hv=>by
  constructor
  ·intro k x hx;exact⟨(k x hx).1,by rw[←h _ (hA.lt u x hu hx),←h _ (hA.lt v x hv hx)];exact (k x hx).2⟩
  ·intro k x hx;exact⟨(k x hx).1,by rw[h _ (hA.lt u x hu hx),h _ (hA.lt v x hv hx)];exact (k x hx).2⟩
 obtain⟨a1,a2,a3⟩:=cano_spec A f s
 obtain⟨b1,b2,b3⟩:=cano_spec A g s
 have x1:¬cano A f s<cano A g s:=fun hl=>b3 _ hl ((hE s _ hs (by omega)).1 a2)
 have x2:¬cano A g s<cano A f s:=fun hl=>a3 _ hl ((hE s _ hs (by omega)).2 b2)
 omega
theorem rclL_rel {A:Fa}(hA:A.ok):∀(r:Nat) (L:List Nat) (f:Nat→Nat),L.length=A.n→(∀s,s<A.n→gt L s=f s)→(rclL A r L).length=A.n∧∀s,s<A.n→gt (rclL A r L) s=rclF A r f s
 |0,L,f,hl,h=>⟨hl,h⟩
 |r+1,L,f,hl,h=>by
  have hn:∀s,s<A.n→gt (nextL2 A L) s=cano A f s:=fun s hs=>by rw[nextL2_gt A L hs];exact cano_congr hA h hs
  have e:(nextL2 A L==L)=same2 (cano A f) f A.n:=by
   rw[Bool.eq_iff_iff,beq_iff_eq,same2_iff]
   constructor
   ·intro e s hs
    rw[←hn s hs,←h s hs,e]
   ·intro k
    refine List.ext_getElem (by rw[nextL2_len,hl]) fun i h1 h2=>?_
    rw[←gt_get h1,←gt_get h2,hn i (by omega),h i (by omega)]
    exact k i (by omega)
  rw[rclL,rclF,e]
  cases same2 (cano A f) f A.n with
  |true=>exact⟨hl,h⟩
  |false=>exact rclL_rel hA r _ _ (nextL2_len A L) hn
theorem clsL_len {A:Fa}(hA:A.ok):(clsL A).length=A.n:=(rclL_rel hA (A.n+1) (List.replicate A.n 0) (fun _=>0) (by simp) fun s hs=>by rw[gt_get (by simp;exact hs)];simp).1
theorem clsL_gt {A:Fa}(hA:A.ok){s:Nat}(hs:s<A.n):gt (clsL A) s=clsR A s:=(rclL_rel hA (A.n+1) (List.replicate A.n 0) (fun _=>0) (by simp) fun s hs=>by rw[gt_get (by simp;exact hs)];simp).2 s hs
theorem sameI_eq:∀a b:List Nat,sameI (nIs a) (nIs b)=(a==b)
 |[],[]=>rfl
 |x::a,[]=>rfl
 |[],y::b=>rfl
 |x::a,y::b=>by
  have ih:=sameI_eq a b
  show (bif (x:Int) != (y:Int) then false else sameI (nIs a) (nIs b))=_
  rw[ih,ineN]
  show _=(x==y&&a==b)
  cases h:x==y <;> simp[bne,h]
theorem frz_slN {s:St}{b d n:Nat}{cap:Option Nat}{L:List Nat}(hL:L.length=n)(hg:s.get b=some (.cells (nats L) 3 false 0 0)):frz U s (d+2) (.sl b 0 n cap 1)=some (.fz (nats L)):=by
 have:=frz_slI (d:=d) (cap:=cap) hg
 rw[nIs_len,hL] at this
 exact this
theorem z109 {args:List AV}{s:St}(h:zS args=false):callK U (calV U 109 args) 109 args s=calZ U 109 (mapO (frz U s 40) args) s:=z_of (by kernel_rfl) s h
theorem call109 {s:St}{b c n:Nat}{L N:List Nat}(hL:L.length=n)(hN:N.length=n)(hn:n<2^40)(gb:s.get b=some (.cells (nats L) 3 false 0 0))(gc:s.get c=some (.cells (nats N) 3 false 0 0)) :
  callK U (calV U 109 [.sl c 0 n (some n) 1,.sl b 0 n (some n) 1]) 109 [.sl c 0 n (some n) 1,.sl b 0 n (some n) 1] s=some (.bool (N==L),s):=by
 rw[z109 (by rfl),mapO_cons,frz_slN hN gc,mapO_cons,frz_slN hL gb,mapO_nil]
 have h:=c109 false false (nIs N) (nIs L) (by rw[nIs_len];omega)
 rw[encS_fz,encS_fz,sameI_eq] at h
 exact cz_of h (by kernel_rfl) rfl rfl s
theorem c106 {a:Auto}(ha:a.ok):calV U 106 [encA a]=some (.fz (nats (clsL a.fa))):=by
 refine yB k106 (by kernel_rfl) (by simp[zS,yH]) ?_
 rw[zU]
 have nn:=zH a.nNl (a.next.map zG)
 have nf:=zH a.fNl (a.fires.map zC)
 have cn:=zD a.nNl (a.next.map zG)
 have cf:=zD a.fNl (a.fires.map zC)
 have ln:=zX a.nNl (a.next.map zG)
 rw[List.length_map] at ln
 have hfew:=ha.few
 have m1:=fun (e:Env) (s:St) (ex:Ex) (h:Env.get e 14=.int .i64 (a.next.length:Int))=>@opA_mks40 _ ex 14 e s _ h (by omega)
 have m2:=fun (e:Env) (s:St) (ex:Ex) (h:Env.get e 21=.int .i64 (a.next.length:Int))=>@opA_mks40 _ ex 21 e s _ h (by omega)
 unfold encN encFs
 simp (maxSteps:=2000000) +contextual only[go_sem,↓reduceIte,r106,nn,nf,cn,cf,ln,m1]
 refine loop_to (σ:=Nat) (fun i=>a.next.length+1-i) (fun _=>some (.fz (nats (clsL a.fa)))) (fun i e s=>i≤a.next.length+1∧Env.get e 1=.ptr 8 0∧Env.get e 3=.int .i64 a.next.length∧Env.get e 5=.int .i64 (i:Nat)∧Fr s∧s.get 8=some (boxA a 72) ∧
  ∃b L,Env.get e 4=.sl b 0 a.next.length (some a.next.length) 1∧L.length=a.next.length∧8<b∧b<s.next∧s.get b=some (.cells (nats L) 3 false 0 0)∧rclL a.fa (a.next.length+1-i) L=clsL a.fa) 0 ?_ rfl ?_
 ·rintro Lp i e s ⟨hi,g1,g3,g5,fr,gs,b,L,g4,hL,hb8,hbn,gb,hrun⟩ IH
  by_cases hd:i<a.next.length+1
  ·have hle:decide ((i:Int)≤(a.next.length:Int))=true:=by simp;omega
   have hw:=zR hd (by omega)
   simp (maxSteps:=2000000) +contextual only[go_sem,↓reduceIte,r106_l3,g1,g3,g5,hle,m2]
   refine l106c (b:=b) (c:=s.next) (L:=L) (Post:=fun (x:Option AV)=>x=some (AV.fz (nats (clsL a.fa)))) ha hL (by omega) (by omega) ?_ ?_ ?_ ?_ ?_ ?_ ?_ ?_ ?_ ?_ ?_
   case refine_11 =>
    intro e2 s2 hold2 c2 hs2 hnx2 fr2
    have p1:Env.get e2 1=.ptr 8 0:=by rw[hold2 1 (by omega)];simp +contextual only[go_sem,↓reduceIte,g1]
    have p3:Env.get e2 3=.int .i64 a.next.length:=by rw[hold2 3 (by omega)];simp +contextual only[go_sem,↓reduceIte,g3]
    have p4:Env.get e2 4=.sl b 0 a.next.length (some a.next.length) 1:=by rw[hold2 4 (by omega)];simp +contextual only[go_sem,↓reduceIte,g4]
    have p5:Env.get e2 5=.int .i64 (i:Nat):=by rw[hold2 5 (by omega)];simp +contextual only[go_sem,↓reduceIte,g5]
    have p6:Env.get e2 6=.sl s.next 0 a.next.length (some a.next.length) 1:=by rw[hold2 6 (by omega)];simp +contextual only[go_sem,↓reduceIte]
    rw[next_new] at hnx2
    have gb2:s2.get b=some (.cells (nats L) 3 false 0 0):=by rw[hs2 b (by omega),get_new,if_neg (by omega),gb]
    have gs2:s2.get 8=some (boxA a 72):=by rw[hs2 8 (by omega),get_new,if_neg (by omega),gs]
    have hcall:=call109 hL (nextL2_len a.fa L) (by omega) gb2 c2
    rw[show a.next.length+1-i=(a.next.length+1-(i+1))+1 by omega,rclL] at hrun
    cases hsm:(nextL2 a.fa L==L) with
    |true =>
     rw[hsm,cond_true] at hrun
     rw[hsm] at hcall
     have hz:=frz_slN (d:=38) (cap:=some a.next.length) hL gb2
     rw[hrun] at hz
     simp (maxSteps:=2000000) +contextual only[go_sem,↓reduceIte,p4,p6,hcall]
     rw[frz_sl] at hz
     exact hz
    |false =>
     rw[hsm,cond_false] at hrun
     rw[hsm] at hcall
     simp (maxSteps:=2000000) +contextual only[go_sem,↓reduceIte,p4,p5,p6,hcall,hw]
     refine IH (i+1) _ _ (by omega) ⟨by omega,?_,?_,?_,fr2,gs2,s.next,nextL2 a.fa L,?_,nextL2_len a.fa L,by omega,by omega,c2,hrun⟩
     all_goals simp +contextual only[go_sem,↓reduceIte,p1,p3]
   case refine_10=>exact fr.new _
   case refine_9=>rw[next_new];omega
   case refine_8=>rw[get_new,if_pos rfl,nats_rep]
   case refine_7=>rw[get_new,if_neg (by omega),gb]
   case refine_6=>rw[get_new,if_neg (by omega),gs]
   all_goals simp +contextual only[go_sem,↓reduceIte,g1,g3,g4]
   all_goals rfl
  ·have:i=a.next.length+1:=by omega
   subst this
   have hle:decide (((a.next.length+1:Nat):Int)≤(a.next.length:Int))=false:=by simp;omega
   rw[Nat.sub_self,rclL] at hrun
   have hz:=frz_slN (d:=38) (cap:=some a.next.length) hL gb
   rw[hrun] at hz
   simp (maxSteps:=2000000) +contextual only[go_sem,↓reduceIte,r106_l3,g3,g4,g5,hle]
   rw[frz_sl] at hz
   exact hz
 ·refine⟨Nat.zero_le _,?_,?_,?_,?_,?_,9,List.replicate a.next.length 0,?_,by simp,by omega,?_,?_,rfl⟩
  case refine_4 =>
   repeat first|exact Fr.own|apply Fr.new|apply Fr.put|apply Fr.upto
   all_goals try simp +contextual only[go_sem,↓reduceIte]
  all_goals try simp +contextual only[go_sem,↓reduceIte,nats_rep,boxA]
  all_goals first|rfl|omega
def hasN (l:List Nat)(c:Nat):Int:=bif decide (idxN l c<l.length) then (idxN l c:Int) else -1
def hasF (c:Nat):Nat→List Nat→Int
 |_,[] => -1
 |i,x::l=>bif x==c then (i:Int) else hasF c (i+1) l
theorem hasF_eq (c:Nat):∀(l:List Nat) (i:Nat),hasF c i l=bif decide (idxN l c<l.length) then ((i+idxN l c:Nat):Int) else -1
 |[],i=>by simp[hasF,idxN]
 |x::l,i=>by
  rw[hasF,idxN,hasF_eq c l (i+1)]
  cases h:x==c with
  |true=>simp
  |false =>
   simp only[cond_false,List.length_cons]
   by_cases hl:idxN l c<l.length
   ·rw[decide_eq_true hl,decide_eq_true (by omega)]
    simp only[cond_true];omega
   ·rw[decide_eq_false hl,decide_eq_false (by omega)]
    rfl
theorem hasF_has (l:List Nat)(c:Nat):hasF c 0 l=hasN l c:=by rw[hasF_eq,hasN];simp only[Nat.zero_add]
theorem c107 (l:List Nat)(c:Nat)(hl:l.length≤2^40):calV U 107 [.fz (nats l),.int .i64 (c:Int)]=some (.int .i64 (hasN l c)):=by
 refine yB k107 (by kernel_rfl) (by simp[zS,still]) ?_
 rw[←hasF_has]
 have ln:lenRL (.fz (nats l))=some (.int .i64 l.length):=by rw[←encS_fz,zX,nats_len]
 simp (maxSteps:=2000000) +contextual only[go_sem,↓reduceIte,r107]
 refine loop_to (σ:=Nat) (fun i=>l.length-i) (fun i=>some (AV.int .i64 (hasF c i (l.drop i)))) (fun i e s=>i≤l.length∧Env.get e 0=.fz (nats l)∧Env.get e 1=.int .i64 (c:Int)∧Env.get e 5=.int .i64 (i:Nat)) 0 ?_ rfl ?_
 ·rintro L i e s ⟨hi,g0,g1,g5⟩ ih
  by_cases hd:i<l.length
  ·have hx:ixRA 1 (.fz (nats l)) (.int .i64 (i:Int))=some (.fp [.int .i64 ((gt l i:Nat):Int)] 0):=by
    have:=ixa_intV (nl:=false) (l:=nIs l) (i:=i) (by rw[nIs_len];exact hd)
    rw[encS_fz] at this
    rw[nats,this]
    simp[nIs,gt_get hd]
   have hw:=zR hd (by omega)
   rw[List.drop_eq_getElem_cons hd,hasF,←gt_get hd]
   cases hb:gt l i==c with
   |true=>simp +contextual only[go_sem,↓reduceIte,r107_l0,g0,g1,g5,zA,hd,ln,hx,ieqN,hb]
   |false =>
    simp +contextual only[go_sem,↓reduceIte,r107_l0,g0,g1,g5,zA,hd,ln,hx,ieqN,hb,hw]
    refine ih (i+1) _ _ (by omega) ⟨by omega,?_,?_,?_⟩ <;> simp +contextual only[go_sem,↓reduceIte,g0,g1,hw]
  ·have:i=l.length:=by omega
   subst this
   simp +contextual only[go_sem,↓reduceIte,r107_l0,g0,g5,zA,Nat.lt_irrefl,ln]
   rw[List.drop_length,hasF]
 ·refine⟨Nat.zero_le _,?_,?_,?_⟩ <;> simp +contextual only[go_sem,↓reduceIte] <;> rfl
theorem z107 {args:List AV}{s:St}(h:zS args=false):callK U (calV U 107 args) 107 args s=calZ U 107 (mapO (frz U s 40) args) s:=z_of (by kernel_rfl) s h
theorem call107 {s:St}{b n:Nat}{cap:Option Nat}{L:List Nat}(hL:L.length=n)(hn:n≤2^40)(gb:s.get b=some (.cells (nats L) 3 false 0 0))(c:Nat) :
  callK U (calV U 107 [.sl b 0 n cap 1,.int .i64 (c:Int)]) 107 [.sl b 0 n cap 1,.int .i64 (c:Int)] s=some (.int .i64 (hasN L c),s):=by
 rw[z107 (by rfl),mapO_cons,frz_slN hL gb,mapO_cons,frz_int,mapO_nil]
 exact cz_of (c107 L c (by omega)) (by kernel_rfl) rfl rfl s
theorem appN {s:St}{b n:Nat}{cap:Option Nat}{L:List Nat}(hL:L.length=n)(hc:cap=none∨cap=some n)(gb:s.get b=some (.cells (nats L) 3 false 0 0))(hb:b<s.next)(k:Nat) :
  ∃s1,appD 3 1 1 [.int .i64 (k:Int)] (.sl b 0 n cap 1) s=some (.sl s.next 0 (n+1) none 1,s1)∧s1.next=s.next+1∧s1.get s.next=some (.cells (nats (L++[k])) 3 false 0 0)∧(∀j,j≠b→j≠s.next→s1.get j=s.get j)∧(Fr s→Fr s1):=by
 have hcs:(nats L).length=n*1:=by rw[nats_len,hL,Nat.mul_one]
 rcases hc with rfl|rfl
 ·refine⟨(s.put b .gone).new (.cells (nats L++[.int .i64 (k:Int)]) 3 false 0 0),by rw[appD_sl,gb,appS_cells hcs (by omega) rfl],rfl,?_,fun j h1 h2=>?_,fun hf=>(hf.put hb _).new _⟩
  ·rw[get_new,next_put,if_pos rfl,nats_app]
  ·rw[get_new,next_put,if_neg (by omega),get_put,if_neg (by omega)]
 ·refine⟨s.new (.cells (nats L++[.int .i64 (k:Int)]) 3 false 0 0),?_,rfl,?_,fun j h1 h2=>?_,fun hf=>hf.new _⟩
  ·have hg:s.cells b=some (nats L):=by rw[cells_get,gb];rfl
   simp only[appD,hg]
   rw[←hcs,grab_all]
   simp only
   rw[if_neg (by omega)]
  ·rw[get_new,if_pos rfl,nats_app]
  ·rw[get_new,if_neg (by omega)]
theorem numRow_cons (κ:Nat→Nat)(c:Nat)(cs st:List Nat):zY κ (c::cs) st=bif decide (idxN (st.map κ) (κ c)<st.length) then ((zY κ cs st).1,idxN (st.map κ) (κ c)::(zY κ cs st).2) else ((zY κ cs (st++[c])).1,st.length::(zY κ cs (st++[c])).2):=rfl
theorem idxN_app (c:Nat):∀l:List Nat,¬idxN l c<l.length→idxN (l++[c]) c=l.length
 |[],_=>by simp[idxN]
 |x::l,h=>by
  rw[List.cons_append,idxN]
  rw[idxN] at h
  cases hx:x==c with
  |true=>rw[hx] at h;simp at h
  |false =>
   rw[hx] at h
   simp only[cond_false,List.length_cons] at h ⊢
   rw[idxN_app c l (by omega)]
theorem hasN_in {l:List Nat}{c:Nat}(h:idxN l c<l.length):hasN l c=((idxN l c:Nat):Int):=by rw[hasN,decide_eq_true h];rfl
theorem hasN_out {l:List Nat}{c:Nat}(h:¬idxN l c<l.length):hasN l c = -1:=by rw[hasN,decide_eq_false h];rfl
theorem ixa_natsF {l:List Nat}{i:Nat}(h:i<l.length):ixRA 1 (.fz (nats l)) (.int .i64 (i:Int))=some (.fp [.int .i64 ((gt l i:Nat):Int)] 0):=by
 have:=ixa_intV (nl:=false) (l:=nIs l) (i:=i) (by rw[nIs_len];exact h)
 rw[encS_fz] at this
 rw[nats,this]
 simp[nIs,gt_get h]
theorem bools_lay {l:List Bool}{i:Nat}(k:Bool)(h:i<l.length):lay i [.bool k] (zM l)=some (zM (l.set i k)):=by
 rw[lay_set _ _ _ (by rw[bools_len];exact h)]
 simp[zM,List.map_set]
def tgt (A:Fa)(q:Nat):List Nat:=(rowF A q).map (clsR A)
theorem tgt_len (A:Fa)(q:Nat):(tgt A q).length=A.m:=by simp[tgt,rowF]
theorem tgt_at (A:Fa)(q:Nat){x:Nat}(h:x<A.m):(tgt A q)[x]'(by rw[tgt_len];exact h)=clsR A (A.nx q x):=by simp[tgt,rowF]
def frow (A:Fa)(q:Nat):List Bool:=(List.range A.m).map (A.fr q)
theorem frow_len (A:Fa)(q:Nat):(frow A q).length=A.m:=by simp[frow]
theorem frow_at (A:Fa)(q:Nat){x:Nat}(h:x<A.m):(frow A q)[x]'(by rw[frow_len];exact h)=A.fr q x:=by simp[frow]
theorem l41a {β:Type}{fin:Fl→β}{ks:List K}{Post:β→Prop}{a:Auto}(ha:a.ok){L:List Nat}{i q b c f:Nat}{cap:Option Nat}(hq:q<a.next.length)(hcap:cap=none∨cap=some L.length)(hLn:∀z∈L,z<a.next.length)(hnd:(L.map id).Nodup)(hiL:i<L.length)(hLi:L[i]? = some q)
  (hbc:b≠c)(hbf:b≠f)(hcf:c≠f)(h8b:8≠b)(h8c:8≠c)(h8f:8≠f)
  {e:Env}{s:St}(g1:Env.get e 1=.ptr 8 0)(g3:Env.get e 3=.fz (nats (clsL a.fa)))(g4:Env.get e 4=.sl b 0 L.length cap 1)(g6:Env.get e 6=.int .i64 (i:Int))(g7:Env.get e 7=.sl c 0 (2^a.lines.toNat) (some (2^a.lines.toNat)) 1)(g8:Env.get e 8=.sl f 0 (2^a.lines.toNat) (some (2^a.lines.toNat)) 1)(g9:Env.get e 9=.int .i64 (0:Nat))
  (gs:s.get 8=some (boxA a 72))(gb:s.get b=some (.cells (nats L) 3 false 0 0))(gc:s.get c=some (.cells (nats (List.replicate (2^a.lines.toNat) 0)) 3 false 0 0))(gf:s.get f=some (.cells (zM (List.replicate (2^a.lines.toNat) false)) 4 false 0 0))(nb:b<s.next)(nc:c<s.next)(nf:f<s.next)(fr:Fr s)
  (hk:∀e' s' b' cap',(∀t:Nat,t<9→t≠4→Env.get e' t=Env.get e t)→Env.get e' 4=.sl b' 0 (zY id (tgt a.fa q) L).1.length cap' 1→(cap'=none∨cap'=some (zY id (tgt a.fa q) L).1.length)→(b'=b∨s.next≤b')→b'<s'.next→b'≠c→b'≠f →
   s'.get b'=some (.cells (nats (zY id (tgt a.fa q) L).1) 3 false 0 0)→s'.get c=some (.cells (nats (zY id (tgt a.fa q) L).2) 3 false 0 0)→s'.get f=some (.cells (zM (frow a.fa q)) 4 false 0 0) →
   (∀j,j<s.next→j≠b→j≠c→j≠f→s'.get j=s.get j)→s.next≤s'.next→Fr s'→Post (goN U fin ks e' s')) :
  Post (goL U fin (.bk 2::ks) r41_l0 e s):=by
 have hfew:=ha.few
 have hA:=ha.faok
 have hm16:=ha.m16
 have hTl:(tgt a.fa q).length=2^a.lines.toNat:=tgt_len a.fa q
 have hFl:(frow a.fa q).length=2^a.lines.toNat:=frow_len a.fa q
 obtain⟨_,_,_,hkl,_⟩:=numRow_nd (κ:=id) (tgt a.fa q) L hnd
 have hkl:(zY id (tgt a.fa q) L).2.length=2^a.lines.toNat:=by rw[hkl,hTl]
 generalize hk2:(zY id (tgt a.fa q) L).2=kf at *
 generalize hk1:(zY id (tgt a.fa q) L).1=Lf at *
 have hq':q<a.fires.length:=by rw[ha.fl];exact hq
 have r1:=ixa_rowI (nl:=a.nNl) hq
 have r2:=ixa_rowB (nl:=a.fNl) hq'
 unfold boxA at gs
 refine yE (σ:=Nat) (fun x=>2^a.lines.toNat-x) (fun x e' s'=>x≤2^a.lines.toNat∧(∀t:Nat,t<9→t≠4→Env.get e' t=Env.get e t)∧Env.get e' 9=.int .i64 (x:Nat) ∧
   s'.get c=some (.cells (nats (part kf 0 (2^a.lines.toNat) x)) 3 false 0 0)∧s'.get f=some (.cells (zM (part (frow a.fa q) false (2^a.lines.toNat) x)) 4 false 0 0) ∧
   (∀j,j<s.next→j≠b→j≠c→j≠f→s'.get j=s.get j)∧s.next≤s'.next∧Fr s' ∧
   ∃L' b' cap',zY id ((tgt a.fa q).drop x) L'=(Lf,kf.drop x)∧(∀j,j<L.length→L'[j]? = L[j]?)∧L.length≤L'.length∧(∀z∈L',z<a.next.length)∧(L'.map id).Nodup ∧
    Env.get e' 4=.sl b' 0 L'.length cap' 1∧(cap'=none∨cap'=some L'.length)∧(b'=b∨s.next≤b')∧b'<s'.next∧s'.get b'=some (.cells (nats L') 3 false 0 0)) 0 ?_
  ⟨Nat.zero_le _,fun _ _ _=>rfl,g9,by rw[gc];unfold part;rw[List.take_zero,List.nil_append,Nat.sub_zero],by rw[gf];unfold part;rw[List.take_zero,List.nil_append,Nat.sub_zero],fun _ _ _ _ _=>rfl,Nat.le_refl _,fr,
   L,b,cap,by rw[List.drop_zero,List.drop_zero,←hk1,←hk2],fun _ _=>rfl,Nat.le_refl _,hLn,hnd,g4,hcap,.inl rfl,nb,gb⟩
 rintro Lp x e' s' ⟨hx,hold,q9,qc,qf,hs,hnx,fr',L',b',cap',hnum,hpre,hle,hLn',hnd',q4,hcap',hb',nb',qb⟩ IH
 have q1:=(hold 1 (by omega) (by omega)).trans g1
 have q3:=(hold 3 (by omega) (by omega)).trans g3
 have q6:=(hold 6 (by omega) (by omega)).trans g6
 have q7:=(hold 7 (by omega) (by omega)).trans g7
 have q8:=(hold 8 (by omega) (by omega)).trans g8
 have h8n:8<s.next:=by
  refine Nat.lt_of_not_le fun h=>?_
  rw[fr 8 h] at gs
  cases gs
 have gs':=(hs 8 h8n h8b h8c h8f).trans gs
 have hbc':b'≠c:=by omega
 have hbf':b'≠f:=by omega
 have hL'n:L'.length≤a.next.length:=nodup_few hnd' hLn'
 by_cases hd:x<2^a.lines.toNat
 ·have hw:=zR hd (by omega)
  have hxm:x<(tgt a.fa q).length:=by omega
  have lt1:a.fa.nx q x<a.next.length:=hA.lt q x hq hd
  have n1:=ha.nxAt hq hd
  have f1:=ha.frAt hq hd
  have o1:=ixa_natsF (l:=clsL a.fa) (i:=a.fa.nx q x) (by rw[clsL_len hA];exact lt1)
  rw[clsL_gt hA lt1] at o1
  have hTx:(tgt a.fa q)[x]=clsR a.fa (a.fa.nx q x):=tgt_at a.fa q hd
  have hzn:clsR a.fa (a.fa.nx q x)<a.next.length:=Nat.lt_of_le_of_lt ((clsR_can a.fa).le _) lt1
  rw[List.drop_eq_getElem_cons hxm,hTx,List.drop_eq_getElem_cons (show x<kf.length by omega),numRow_cons,List.map_id] at hnum
  simp only[id] at hnum
  have hiL':i<L'.length:=by omega
  have hgi:=yL (l:=L') (i:=i) hiL'
  have hLq:gt L' i=q:=by
   have:=hpre i hiL
   rw[hLi,List.getElem?_eq_getElem hiL'] at this
   rw[gt_get hiL'];exact Option.some.inj this
  rw[hLq] at hgi
  have hcall:=fun (S:St) (h:S.get b'=some (.cells (nats L') 3 false 0 0))=>call107 (s:=S) (cap:=cap') (L:=L') rfl (by omega) h (clsR a.fa (a.fa.nx q x))
  have hpk:(part kf 0 (2^a.lines.toNat) x).length=2^a.lines.toNat:=part_len kf 0 hkl hx
  have hpf:(part (frow a.fa q) false (2^a.lines.toNat) x).length=2^a.lines.toNat:=part_len (frow a.fa q) false hFl hx
  have hfs:(part (frow a.fa q) false (2^a.lines.toNat) x).set x (a.fa.fr q x)=part (frow a.fa q) false (2^a.lines.toNat) (x+1):=by
   rw[←part_set (frow a.fa q) false hFl hd,frow_at a.fa q hd]
  have flay:=bools_lay (l:=part (frow a.fa q) false (2^a.lines.toNat) x) (i:=x) (a.fa.fr q x) (by omega)
  rw[hfs] at flay
  generalize hz:clsR a.fa (a.fa.nx q x)=z at *
  have x1:(c=8)=False:=by simp;omega
  have x2:(c=b')=False:=by simp;omega
  have x3:(c=f)=False:=by simp;omega
  have x4:(f=8)=False:=by simp;omega
  have x5:(f=b')=False:=by simp;omega
  have x6:(f=c)=False:=by simp;omega
  by_cases hin:idxN L' z<L'.length
  ·rw[decide_eq_true hin] at hnum
   simp only[cond_true] at hnum
   have hrest:zY id ((tgt a.fa q).drop (x+1)) L'=(Lf,kf.drop (x+1)):=by
    have h1:=congrArg Prod.fst hnum
    have h2:=congrArg Prod.snd hnum
    simp only[List.cons.injEq] at h1 h2
    exact Prod.ext h1 h2.2
   have hkx:kf[x]=idxN L' z:=by
    have h2:=congrArg Prod.snd hnum
    simp only[List.cons.injEq] at h2
    exact h2.1.symm
   have klay:=nats_lay (l:=part kf 0 (2^a.lines.toNat) x) (i:=x) (idxN L' z) (by omega)
   rw[←hkx,part_set kf 0 hkl hd,hkx] at klay
   rw[hasN_in hin] at hcall
   have hneg:decide (((idxN L' z:Nat):Int)<0)=false:=by simp
   simp (maxSteps:=2000000) +contextual only[go_sem,↓reduceIte,r41_l0,q1,q3,q4,q6,q7,q8,q9,gs',qb,qc,qf,zA,hd,zX,hiL',hgi,n1,f1,o1,r1,r2,hcall,hneg,klay,flay,hw,Nat.mul_one,x1,x2,x3,x4,x5,x6]
   refine IH (x+1) _ _ (by omega) ⟨by omega,fun t ht h4=>?_,?_,?_,?_,fun j h1 h2 h3 h4=>?_,?_,?_,L',b',cap',hrest,hpre,hle,hLn',hnd',?_,hcap',hb',?_,?_⟩
   ·have hne:∀k:Nat,9≤k→(k=t)=False:=fun k hk=>by simp;omega
    simp +contextual only[go_sem,↓reduceIte,hne]
    exact hold t ht h4
   ·simp +contextual only[go_sem,↓reduceIte,hw]
   ·simp +contextual only[go_sem,↓reduceIte,x6]
   ·simp +contextual only[go_sem,↓reduceIte]
   ·rw[get_put,if_neg (fun e=>h4 e.symm),zJ,get_put,if_neg (fun e=>h3 e.symm),zJ]
    exact hs j h1 h2 h3 h4
   ·simp only[next_put,zB];omega
   ·exact (((fr'.upto (by omega)).put (by rw[zB];omega) _).upto (by rw[next_put,zB];omega)).put (by rw[zB];omega) _
   ·simp +contextual only[go_sem,↓reduceIte,q4]
   ·simp only[next_put,zB];omega
   ·simp +contextual only[go_sem,↓reduceIte,x2,x5,qb]
  ·rw[decide_eq_false hin] at hnum
   simp only[cond_false] at hnum
   have hrest:zY id ((tgt a.fa q).drop (x+1)) (L'++[z])=(Lf,kf.drop (x+1)):=by
    have h1:=congrArg Prod.fst hnum
    have h2:=congrArg Prod.snd hnum
    simp only[List.cons.injEq] at h1 h2
    exact Prod.ext h1 h2.2
   have hkx:kf[x]=L'.length:=by
    have h2:=congrArg Prod.snd hnum
    simp only[List.cons.injEq] at h2
    exact h2.1.symm
   have hla:(L'++[z]).length=L'.length+1:=by simp
   have hnd2:((L'++[z]).map id).Nodup:=by
    rw[List.map_id] at hnd' ⊢
    rw[List.nodup_append]
    refine⟨hnd',by simp,fun p hp r hr=>?_⟩
    rw[List.mem_singleton.1 hr]
    rintro rfl
    exact hin ((idxN_lt L' p).2 hp)
   have hLn2:∀w∈L'++[z],w<a.next.length:=fun w hw=>by
    rcases List.mem_append.1 hw with h|h
    ·exact hLn' w h
    ·rw[List.mem_singleton.1 h];exact hzn
   have hL'2:(L'++[z]).length≤a.next.length:=nodup_few hnd2 hLn2
   have klay:=nats_lay (l:=part kf 0 (2^a.lines.toNat) x) (i:=x) L'.length (by omega)
   rw[←hkx,part_set kf 0 hkl hd,hkx] at klay
   rw[hasN_out hin] at hcall
   have hneg:decide ((-1:Int)<0)=true:=by decide
   have hb1:(L'.length+1)*8≤1099511627776:=by omega
   have hb2:L'.length+1≤1099511627776:=by omega
   simp (maxSteps:=2000000) +contextual only[go_sem,↓reduceIte,r41_l0,q1,q3,q4,q6,q7,q8,q9,gs',qb,qc,qf,zA,hd,zX,hiL',hgi,n1,f1,o1,r1,r2,hcall,hneg,hw,Nat.mul_one,x1,x2,x3,x4,x5,x6,zW,Nat.reducePow,Nat.one_mul,lenA_sl,hb1,hb2]
   obtain⟨s1,a1,a2,a3,a4,a5⟩:=appN (s:=(s'.upto (s'.next+15)).new (.cells [.int .i64 (z:Int)] 3 false 0 0)) (b:=b') (cap:=cap') (L:=L') rfl hcap' (by rw[get_new,zB,if_neg (by omega),zJ,qb]) (by rw[next_new,zB];omega) z
   rw[next_new,zB] at a1 a2 a3 a4
   rw[a1]
   have old:∀j,j<s'.next→j≠b'→s1.get j=s'.get j:=fun j h1 h2=>by rw[a4 j h2 (by omega),get_new,zB,if_neg (by omega),zJ]
   have u8:=(old 8 (by omega) (by omega)).trans gs'
   have uc:=(old c (by omega) (by omega)).trans qc
   have uf:=(old f (by omega) (by omega)).trans qf
   have hcall2:=fun (S:St) (h:S.get (s'.next+15+1)=some (.cells (nats (L'++[z])) 3 false 0 0))=>call107 (s:=S) (cap:=none) (L:=L'++[z]) hla (by omega) h z
   have hidx:=idxN_app z L' hin
   rw[hasN_in (show idxN (L'++[z]) z<(L'++[z]).length by omega),hidx] at hcall2
   have hgi2:=yL (l:=L'++[z]) (i:=i) (by omega)
   have hLq2:gt (L'++[z]) i=q:=by rw[gt_left hiL',hLq]
   rw[hLq2] at hgi2
   have y2:(c=s'.next+15+1)=False:=by simp;omega
   have y5:(f=s'.next+15+1)=False:=by simp;omega
   have hiL2:i<L'.length+1:=by omega
   simp (maxSteps:=2000000) +contextual only[go_sem,↓reduceIte,q1,q3,q6,q7,q8,q9,u8,uc,uf,a3,zX,hiL2,hgi2,f1,r1,r2,hcall2,klay,flay,hd,hw,Nat.mul_one,x1,x2,x3,x4,x5,x6,y2,y5]
   have fr1:=a5 ((fr'.upto (by omega)).new _)
   refine IH (x+1) _ _ (by omega) ⟨by omega,fun t ht h4=>?_,?_,?_,?_,fun j h1 h2 h3 h4=>?_,?_,?_,L'++[z],s'.next+15+1,none,hrest,fun j hj=>?_,by omega,hLn2,hnd2,?_,.inl rfl,.inr (by omega),?_,?_⟩
   ·have hne:∀k:Nat,9≤k→(k=t)=False:=fun k hk=>by simp;omega
    have hne4:(4=t)=False:=by simp;omega
    simp +contextual only[go_sem,↓reduceIte,hne,hne4]
    exact hold t ht h4
   ·simp +contextual only[go_sem,↓reduceIte,hw]
   ·simp +contextual only[go_sem,↓reduceIte,x6]
   ·simp +contextual only[go_sem,↓reduceIte]
   ·rw[get_put,if_neg (fun e=>h4 e.symm),zJ,get_put,if_neg (fun e=>h3 e.symm),old j (by omega) (by omega)]
    exact hs j h1 h2 h3 h4
   ·simp only[next_put,zB];omega
   ·exact (((fr1.put (by omega) _).upto (by rw[next_put];omega)).put (by rw[zB];omega) _)
   ·rw[List.getElem?_append_left (by omega)];exact hpre j hj
   ·simp +contextual only[go_sem,↓reduceIte,hla]
   ·simp only[next_put,zB];omega
   ·simp +contextual only[go_sem,↓reduceIte,y2,y5,a3]
 ·have:x=2^a.lines.toNat:=by omega
  subst this
  have hd0:(tgt a.fa q).drop (2^a.lines.toNat)=[]:=by rw[←hTl,List.drop_length]
  rw[hd0] at hnum
  have hLf:L'=Lf:=congrArg Prod.fst hnum
  subst hLf
  rw[part_full _ _ hkl] at qc
  rw[part_full _ _ hFl] at qf
  have lk:lenRL (.sl c 0 (2^a.lines.toNat) (some (2^a.lines.toNat)) 1)=some (.int .i64 ((2^a.lines.toNat:Nat):Int)):=rfl
  simp (maxSteps:=2000000) +contextual only[go_sem,↓reduceIte,r41_l0,q7,q9,zA,Nat.lt_irrefl]
  refine hk _ _ b' cap' (fun t ht h4=>?_) ?_ hcap' hb' nb' hbc' hbf' qb qc qf hs hnx fr'
  ·have hne:∀k:Nat,9≤k→(k=t)=False:=fun k hk=>by simp;omega
   simp +contextual only[go_sem,↓reduceIte,hne]
   exact hold t ht h4
  ·simp +contextual only[go_sem,↓reduceIte,q4]
theorem RowI.appT {s:St}{B:Nat}{t:TypeId}{i:Nat}{cs:List AV}{v:AV}(h:RowI s B t 1 i cs v)(hB:B≤s.next)(x:AV)(hx:Go.Am.noAgg x=true) :
  ∃s1,appD t 1 1 [x] v s=some (.sl s.next 0 (i+1) none 1,s1)∧s1.next=s.next+1∧RowI s1 B t 1 (i+1) (cs++[x]) (.sl s.next 0 (i+1) none 1) ∧
   (∀j c t' lo hi,s.get j=some (.cells c t' false lo hi)→j<s.next→t'≠t→s1.get j=some (.cells c t' false lo hi))∧(∀j,j<B→s1.get j=s.get j)∧(Fr s→Fr s1):=by
 obtain⟨s1,a1,a2,a3,a4,a5⟩:=h.app2 hB (m:=1) (new:=[x]) (by omega) rfl (by simp[hx])
 exact⟨s1,a1,a2,a3,fun j c t' lo hi hj hlt hne=>by rw[a4 j (by omega) (h.other hj hne),hj],fun j hj=>a4 j (by omega) (h.far (.inr hj)),a5⟩
theorem RowI.keepT {s s':St}{B:Nat}{t:TypeId}{i:Nat}{cs:List AV}{v:AV}(h:RowI s B t 1 i cs v)(hn:s.next≤s'.next)(hg:∀j c,s.get j=some (.cells c t false 0 0)→j<s.next→B≤j→s'.get j=some (.cells c t false 0 0)):RowI s' B t 1 i cs v:=by
 rcases h with⟨h0,h1,h2⟩|⟨h0,h1,b,h2,h3,h4,h5⟩
 ·exact .inl ⟨h0,h1,h2⟩
 ·exact .inr ⟨h0,h1,b,h2,by omega,h4,hg b _ h5 h3 h2⟩
def BlkI (s:St)(b:Nat)(t:TypeId)(c:AV)(l:List AV):Prop:=∃j,c=.sl j 0 l.length (some l.length) 1∧j<s.next∧j≠b∧12≤j∧s.get j=some (.cells l t false 0 0)
theorem BlkI.mono {s s':St}{b b':Nat}{t:TypeId}{c:AV}{l:List AV}(h:BlkI s b t c l)(hn:s.next≤s'.next)(hb:∀j,j<s.next→j≠b→j≠b')(hg:∀j,j<s.next→j≠b→12≤j→s.get j=some (.cells l t false 0 0)→s'.get j=some (.cells l t false 0 0)):BlkI s' b' t c l:=by
 obtain⟨j,h1,h2,h3,h4,h5⟩:=h
 exact⟨j,h1,by omega,hb j h2 h3,h4,hg j h2 h3 h4 h5⟩
theorem BlkI.frz {s:St}{b d:Nat}{c:AV}{l:List AV}{t:TypeId}(h:BlkI s b t c l)(hag:isAggT U t=some false)(hsz:size U t=some 1)(hna:l.all noAgg=true)(hf:mapO (Go.Am.frz U s d) l=some l):Go.Am.frz U s (d+1) c=some (.fz l):=by
 obtain⟨j,rfl,_,_,_,h5⟩:=h
 rw[frz_sl,h5,frzS_cells,Nat.mul_one,grab_all,hag,hsz,frzT_one,if_pos hna,chunks_all,hf,fzK_some]
theorem mapO_idx {A:Type}{f:AV→Option AV}{g:A→AV}:∀{cs:List AV} {rs:List A},cs.length=rs.length→(∀j (h:j<cs.length) (h':j<rs.length),f cs[j]=some (g rs[j]))→mapO f cs=some (rs.map g)
 |[],[],_,_=>rfl
 |c::cs,r::rs,hl,h=>by
  have h0:=h 0 (by simp) (by simp)
  simp only[List.getElem_cons_zero] at h0
  have ih:=mapO_idx (f:=f) (g:=g) (cs:=cs) (rs:=rs) (by simpa using hl) fun j h1 h2=>by
   have:=h (j+1) (by simpa using h1) (by simpa using h2)
   simpa using this
  rw[mapO_cons,h0,ih,List.map_cons]
  rfl
 |[],_::_,hl,_=>by simp at hl
 |_::_,[],hl,_=>by simp at hl
def minAutR (a:Auto):Auto:={ lines:=a.lines,nNl:=true,next:=(minR a.fa).map (fun x=>(false,nIs x.2)),fNl:=true,fires:=(minR a.fa).map (fun x=>(false,frow a.fa x.1)) }
theorem l41b {a:Auto}(ha:a.ok){e:Env}{s:St}(g1:Env.get e 1=.ptr 8 0)(g2:Env.get e 2=.ptr 9 0)(g3:Env.get e 3=.fz (nats (clsL a.fa)))(g4:Env.get e 4=.sl 10 0 1 (some 1) 1)(g5:Env.get e 5=.ptr 11 0)(g6:Env.get e 6=.int .i64 (0:Nat))
  (gs:s.get 8=some (boxA a 72))(g9:s.get 9=some (.cells [.int .i64 0,.nils,.nils] 72 false 0 0))(gb:s.get 10=some (.cells (nats [clsR a.fa 0]) 3 false 0 0))(go:s.get 11=some (.cells [.int .i64 a.lines,.nils,.nils] 72 false 0 0))(nx:12≤s.next)(fr:Fr s){ks:List K}{r:Option AV}
  (hk:∀e' s' v w,Env.get e' 5=.ptr 11 0→Env.get e' 2=.ptr 9 0→s'.get 11=some (.cells [.int .i64 a.lines,v,w] 72 false 0 0)→s'.get 9=some (.cells [.int .i64 0,.nils,.nils] 72 false 0 0)→noAgg v=true→noAgg w=true →
   (∀S d,S.next=s'.next→(∀j,j≠9→S.get j=s'.get j)→frz U S (d+3) v=some (encS true ((minR a.fa).map fun x=>AV.fz (nats x.2))))→(∀S d,S.next=s'.next→(∀j,j≠9→S.get j=s'.get j)→frz U S (d+3) w=some (encS true ((minR a.fa).map fun x=>AV.fz (zM (frow a.fa x.1)))))→goN U (finP U [.cell 2 72]) ks e' s'=r) :
  goL U (finP U [.cell 2 72]) (.bk 0::ks) r41_l1 e s=r:=by
 have hfew:=ha.few
 have hA:=ha.faok
 have hm16:=ha.m16
 have hsh:=bin_shl1 U 3 true .i64 (n:=a.lines) (show 0≤a.lines∧a.lines≤16 by have:=ha.lines;omega)
 have hm:(2:Int)^a.lines.toNat=((2^a.lines.toNat:Nat):Int):=by have:=mOf_nat a.lines;unfold mOf at this;exact this
 rw[hm] at hsh
 have h0n:clsR a.fa 0<a.next.length:=Nat.lt_of_le_of_lt ((clsR_can a.fa).le 0) ha.pos
 refine yE (σ:=Nat) (Post:=fun (x:Option AV)=>x=r) (fun i=>a.next.length-i) (fun i e s=>Env.get e 1=.ptr 8 0∧Env.get e 2=.ptr 9 0∧Env.get e 3=.fz (nats (clsL a.fa))∧Env.get e 5=.ptr 11 0∧Env.get e 6=.int .i64 (i:Nat)∧s.get 8=some (boxA a 72)∧s.get 9=some (.cells [.int .i64 0,.nils,.nils] 72 false 0 0)∧12≤s.next∧Fr s ∧
   ∃(L:List Nat) (b:Nat) (cap:Option Nat) (acc:List (Nat×List Nat)) (cN cF:List AV) (v w:AV),Env.get e 4=.sl b 0 L.length cap 1∧(cap=none∨cap=some L.length)∧s.get b=some (.cells (nats L) 3 false 0 0)∧b<s.next∧(b=10∨12≤b)∧(∀z∈L,z<a.next.length)∧(L.map id).Nodup ∧
    s.get 11=some (.cells [.int .i64 a.lines,v,w] 72 false 0 0)∧RowI s 12 40 1 i cN v∧RowI s 12 43 1 i cF w∧acc.length=i∧cN.length=i∧cF.length=i ∧
    (∀j (h:j<acc.length) (h':j<cN.length),BlkI s b 3 cN[j] (nats acc[j].2))∧(∀j (h:j<acc.length) (h':j<cF.length),BlkI s b 4 cF[j] (zM (frow a.fa acc[j].1))) ∧
    i≤L.length∧acc++bfsN id (tgt a.fa) (a.next.length+1-i) i L=minR a.fa) 0 ?_
  ⟨g1,g2,g3,g5,g6,gs,g9,nx,fr,[clsR a.fa 0],10,some 1,[],[],[],.nils,.nils,g4,.inr rfl,gb,by omega,.inl rfl,fun z hz=>by rw[List.mem_singleton.1 hz];exact h0n,by simp,go,RowI.nil _ _ _ _,RowI.nil _ _ _ _,rfl,rfl,rfl,fun j h=>by simp at h,fun j h=>by simp at h,Nat.zero_le _,rfl⟩
 clear g1 g2 g3 g4 g5 g6 gs g9 gb go nx fr e s
 rintro Lp i e s ⟨g1,g2,g3,g5,g6,gs,g9,nx,fr,L,b,cap,acc,cN,cF,v,w,g4,hcap,gb,nb,hb,hLn,hnd,go,hv,hw,hacc,hcN,hcF,hBN,hBF,hiL,hrun⟩ IH
 have hLlen:L.length≤a.next.length:=nodup_few hnd hLn
 by_cases hd:i<L.length
 ·have hwr:=zR hd (by omega)
  have hq:L[i]<a.next.length:=hLn _ (List.getElem_mem hd)
  have hLi:L[i]? = some L[i]:=List.getElem?_eq_getElem hd
  rw[show a.next.length+1-i=(a.next.length+1-(i+1))+1 by omega,bfsN,hLi] at hrun
  simp only at hrun
  generalize hqe:L[i]=q at *
  have gs':=gs
  unfold boxA at gs'
  have n8:∀q,(s.next+q=8)=False:=fun q=>by simp;omega
  have n8':(s.next=8)=False:=by simp;omega
  have m1:=fun (e:Env) (s:St) (ex:Ex) (h:Env.get e 28=.int .i64 ((2^a.lines.toNat:Nat):Int))=>@opA_mks40 _ ex 28 e s _ h (by omega)
  have m2:=fun (e:Env) (s:St) (ex:Ex) (h:Env.get e 32=.int .i64 ((2^a.lines.toNat:Nat):Int))=>@opA_mks43 _ ex 32 e s _ h (by omega)
  simp (maxSteps:=2000000) +contextual only[go_sem,↓reduceIte,r41_l1,g1,g4,g6,gs',zA,hd,hsh,m1,m2,n8,n8']
  refine l41a (Post:=fun (x:Option AV)=>x=r) (a:=a) (L:=L) (i:=i) (q:=q) (b:=b) (c:=s.next) (f:=s.next+1) (cap:=cap) ha hq hcap hLn hnd hd hLi (by omega) (by omega) (by omega) (by omega) (by omega) (by omega) ?_ ?_ ?_ ?_ ?_ ?_ ?_ ?_ ?_ ?_ ?_ ?_ ?_ ?_ ?_ ?_
  case refine_16 =>
   intro e2 s2 b2 cap2 hold2 p4 hcap2 hb2 nb2 hbc2 hbf2 qb2 qc2 qf2 hs2 hnx2 fr2
   simp only[next_new] at hnx2 hb2 hs2
   have E:∀t:Nat,t<9→t≠4→t≠7→t≠8→Env.get e2 t=Env.get e t:=fun t h1 h4 h7 h8=>by
    rw[hold2 t h1 h4]
    have hne:∀k:Nat,9≤k→(k=t)=False:=fun k hk=>by simp;omega
    have hne7:(7=t)=False:=by simp;omega
    have hne8:(8=t)=False:=by simp;omega
    simp +contextual only[go_sem,↓reduceIte,hne,hne7,hne8]
   have p1:=(E 1 (by omega) (by omega) (by omega) (by omega)).trans g1
   have p2:=(E 2 (by omega) (by omega) (by omega) (by omega)).trans g2
   have p3:=(E 3 (by omega) (by omega) (by omega) (by omega)).trans g3
   have p5:=(E 5 (by omega) (by omega) (by omega) (by omega)).trans g5
   have p6:=(E 6 (by omega) (by omega) (by omega) (by omega)).trans g6
   have p7:Env.get e2 7=.sl s.next 0 (2^a.lines.toNat) (some (2^a.lines.toNat)) 1:=by
    rw[hold2 7 (by omega) (by omega)];simp +contextual only[go_sem,↓reduceIte]
   have p8:Env.get e2 8=.sl (s.next+1) 0 (2^a.lines.toNat) (some (2^a.lines.toNat)) 1:=by
    rw[hold2 8 (by omega) (by omega)];simp +contextual only[go_sem,↓reduceIte]
   have old:∀j,j<s.next→j≠b→s2.get j=s.get j:=fun j h1 h2=>by
    rw[hs2 j (by omega) h2 (by omega) (by omega),get_new,next_new,if_neg (by omega),get_new,if_neg (by omega)]
   have u8:=(old 8 (by omega) (by omega)).trans gs
   have u9:=(old 9 (by omega) (by omega)).trans g9
   have u11:=(old 11 (by omega) (by omega)).trans go
   have typ:∀j c t',s.get j=some (.cells c t' false 0 0)→t'≠3→j≠b:=fun j c t' h ht e=>by
    rw[e,gb] at h;cases h;exact ht rfl
   have hv2:RowI s2 12 40 1 i cN v:=hv.keepT (by omega) fun j c h h1 _=>by rw[old j h1 (typ j c _ h (by decide))];exact h
   have hw2:RowI s2 12 43 1 i cF w:=hw.keepT (by omega) fun j c h h1 _=>by rw[old j h1 (typ j c _ h (by decide))];exact h
   have nbb:∀j,j<s.next→j≠b→j≠b2:=fun j h1 h2=>by omega
   have hBN2:∀j (h:j<acc.length) (h':j<cN.length),BlkI s2 b2 3 cN[j] (nats acc[j].2):=fun j h h'=>(hBN j h h').mono (by omega) nbb fun j h1 h2 _ h5=>by rw[old j h1 h2];exact h5
   have hBF2:∀j (h:j<acc.length) (h':j<cF.length),BlkI s2 b2 4 cF[j] (zM (frow a.fa acc[j].1)):=fun j h h'=>(hBF j h h').mono (by omega) nbb fun j h1 h2 _ h5=>by rw[old j h1 h2];exact h5
   have hTl:(tgt a.fa q).length=2^a.lines.toNat:=tgt_len a.fa q
   obtain⟨nd2,le2,_,kl2,_⟩:=numRow_nd (κ:=id) (tgt a.fa q) L hnd
   have kl2:(zY id (tgt a.fa q) L).2.length=2^a.lines.toNat:=by rw[kl2,hTl]
   have lt2:∀z∈(zY id (tgt a.fa q) L).1,z<a.next.length:=by
    have:=(numRow_rel (κ:=id) (ρ:=id) (Q:=fun z=>z<a.next.length) (fun _ _ _ _=>Iff.rfl) (tgt a.fa q) L (fun z hz=>by
     obtain⟨y,hy,rfl⟩:=List.mem_map.1 hz
     obtain⟨x,hx,rfl⟩:=List.mem_map.1 hy
     exact Nat.lt_of_le_of_lt ((clsR_can a.fa).le _) (hA.lt q x hq (List.mem_range.1 hx))) hLn).2
    exact this
   have hbN:BlkI s2 b2 3 (.sl s.next 0 (2^a.lines.toNat) (some (2^a.lines.toNat)) 1) (nats (zY id (tgt a.fa q) L).2):=⟨s.next,by rw[nats_len,kl2],by omega,fun e=>hbc2 e.symm,nx,qc2⟩
   have hbF:BlkI s2 b2 4 (.sl (s.next+1) 0 (2^a.lines.toNat) (some (2^a.lines.toNat)) 1) (zM (frow a.fa q)):=⟨s.next+1,by rw[bools_len,frow_len];rfl,by omega,fun e=>hbf2 e.symm,by omega,qf2⟩
   generalize hLf:(zY id (tgt a.fa q) L).1=Lf at *
   generalize hkf:(zY id (tgt a.fa q) L).2=kf at *
   have la1:=hv2.lenA
   have la2:=hw2.lenA
   have hb1:(i+1)*24≤1099511627776:=by omega
   have hb2:i+1≤1099511627776:=by omega
   simp (maxSteps:=2000000) +contextual only[go_sem,↓reduceIte,p5,p7,u11,zW,Nat.reducePow,Nat.one_mul,la1,hb1,hb2]
   generalize hcv:AV.sl s.next 0 (2^a.lines.toNat) (some (2^a.lines.toNat)) 1=cv at *
   generalize hcw:AV.sl (s.next+1) 0 (2^a.lines.toNat) (some (2^a.lines.toNat)) 1=cw at *
   have hv3:RowI (s2.new (.cells [cv] 40 false 0 0)) 12 40 1 i cN v:=hv2.keepT (by rw[next_new];omega) fun j c h h1 _=>by rw[get_new,if_neg (by omega)];exact h
   have nacv:noAgg cv=true:=by rw[←hcv];rfl
   have nacw:noAgg cw=true:=by rw[←hcw];rfl
   have ccw:cw.cells=[cw]:=by rw[←hcw];rfl
   obtain⟨s4,a1,a2,a3,a4,a5,a6⟩:=hv3.appT (by rw[next_new];omega) cv nacv
   have fr4:=a6 (fr2.new _)
   rw[next_new] at a1 a2 a3 a4
   rw[a1]
   have v11:s4.get 11=some (.cells [.int .i64 a.lines,v,w] 72 false 0 0):=by rw[a5 11 (by omega),get_new,if_neg (by omega),u11]
   simp (maxSteps:=2000000) +contextual only[go_sem,↓reduceIte,p5,p8,v11,ccw,zW,Nat.reducePow,Nat.one_mul,la2,hb1,hb2]
   have prA:∀x j c t',j≠11→j<s2.next→s2.get j=some (.cells c t' false 0 0)→t'≠40→(s4.put 11 x).get j=some (.cells c t' false 0 0):=fun x j c t' h1 h2 h3 h4=>by
    rw[get_put,if_neg (fun e=>h1 e.symm)]
    exact a4 j c t' 0 0 (by rw[get_new,if_neg (by omega)];exact h3) (by omega) h4
   have hw5:∀x,RowI ((s4.put 11 x).new (.cells [cw] 43 false 0 0)) 12 43 1 i cF w:=fun x=>hw2.keepT (by rw[next_new,next_put];omega) fun j c h h1 h2=>by
    rw[get_new,next_put,if_neg (by omega)]
    exact prA x j c _ (by omega) h1 h (by decide)
   generalize hx1:Blk.cells [.int .i64 a.lines,.sl (s2.next+1) 0 (i+1) none 1,w] 72 false 0 0=X1 at *
   obtain⟨s7,b1,c2,b3,b4,b5,b6⟩:=(hw5 X1).appT (by rw[next_new,next_put];omega) cw nacw
   have fr7:=b6 ((fr4.put (by omega) _).new _)
   rw[next_new,next_put] at b1 c2 b3 b4
   rw[b1]
   have w11:s7.get 11=some (.cells [.int .i64 a.lines,.sl (s2.next+1) 0 (i+1) none 1,w] 72 false 0 0):=by rw[b5 11 (by omega),get_new,next_put,if_neg (by omega),get_put,if_pos rfl,hx1]
   simp (maxSteps:=2000000) +contextual only[go_sem,↓reduceIte,p5,p6,w11,hwr]
   have prB:∀y j c t',j≠11→j<s2.next→s2.get j=some (.cells c t' false 0 0)→t'≠40→t'≠43→(s7.put 11 y).get j=some (.cells c t' false 0 0):=fun y j c t' h1 h2 h3 h4 h5=>by
    rw[get_put,if_neg (fun e=>h1 e.symm)]
    exact b4 j c t' 0 0 (by rw[get_new,next_put,if_neg (by omega)];exact prA X1 j c t' h1 h2 h3 h4) (by omega) h5
   have low:∀y j,j<11→(s7.put 11 y).get j=s2.get j:=fun y j hj=>by
    rw[get_put,if_neg (by omega),b5 j (by omega),get_new,next_put,if_neg (by omega),get_put,if_neg (by omega),a5 j (by omega),get_new,if_neg (by omega)]
   have hvE:∀y,RowI (s7.put 11 y) 12 40 1 (i+1) (cN++[cv]) (.sl (s2.next+1) 0 (i+1) none 1):=fun y=>a3.keepT (by rw[next_put];omega) fun j c h h1 h2=>by
    rw[get_put,if_neg (by omega)]
    exact b4 j c _ 0 0 (by rw[get_new,next_put,if_neg (by omega),get_put,if_neg (by omega)];exact h) (by omega) (by decide)
   have hwE:∀y,RowI (s7.put 11 y) 12 43 1 (i+1) (cF++[cw]) (.sl (s4.next+1) 0 (i+1) none 1):=fun y=>b3.keepT (by rw[next_put];omega) fun j c h h1 h2=>by
    rw[get_put,if_neg (by omega)];exact h
   have blk3:∀y c l,BlkI s2 b2 3 c l→BlkI (s7.put 11 y) b2 3 c l:=fun y c l h=>h.mono (by rw[next_put];omega) (fun _ _ h=>h) fun j h1 h2 h3 h5=>prB y j _ _ (by omega) h1 h5 (by decide) (by decide)
   have blk4:∀y c l,BlkI s2 b2 4 c l→BlkI (s7.put 11 y) b2 4 c l:=fun y c l h=>h.mono (by rw[next_put];omega) (fun _ _ h=>h) fun j h1 h2 h3 h5=>prB y j _ _ (by omega) h1 h5 (by decide) (by decide)
   rw[List.append_cons] at hrun
   refine IH (i+1) _ _ (by omega) ⟨?_,?_,?_,?_,?_,by rw[low _ 8 (by omega),u8],by rw[low _ 9 (by omega),u9],by rw[next_put];omega,fr7.put (by omega) _,Lf,b2,cap2,acc++[(q,kf)],cN++[cv],cF++[cw],_,_,?_,hcap2,prB _ _ _ _ (by omega) nb2 qb2 (by decide) (by decide),by rw[next_put];omega,by omega,lt2,nd2,by rw[get_put,if_pos rfl],hvE _,hwE _,by simp[hacc],by simp[hcN],by simp[hcF],fun j h h'=>?_,fun j h h'=>?_,by omega,hrun⟩
   case refine_7 =>
    by_cases hj:j<acc.length
    ·rw[List.getElem_append_left (by omega),List.getElem_append_left hj]
     exact blk3 _ _ _ (hBN2 j hj (by omega))
    ·have hj:j=acc.length:=by rw[List.length_append,List.length_singleton] at h;omega
     subst hj
     rw[List.getElem_append_right (by omega),List.getElem_append_right (by omega)]
     simp only[List.getElem_singleton]
     exact blk3 _ _ _ hbN
   case refine_8 =>
    by_cases hj:j<acc.length
    ·rw[List.getElem_append_left (by omega),List.getElem_append_left hj]
     exact blk4 _ _ _ (hBF2 j hj (by omega))
    ·have hj:j=acc.length:=by rw[List.length_append,List.length_singleton] at h;omega
     subst hj
     rw[List.getElem_append_right (by omega),List.getElem_append_right (by omega)]
     simp only[List.getElem_singleton]
     exact blk4 _ _ _ hbF
   all_goals simp +contextual only[go_sem,↓reduceIte,p1,p2,p3,p4,p5]
  case refine_15=>exact (fr.new _).new _
  case refine_14=>simp only[next_new];omega
  case refine_13=>simp only[next_new];omega
  case refine_12=>simp only[next_new];omega
  case refine_11=>rw[get_new,next_new,if_pos rfl]
  case refine_10=>rw[get_new,next_new,if_neg (by omega),get_new,if_pos rfl,nats_rep]
  case refine_9=>rw[get_new,next_new,if_neg (by omega),get_new,if_neg (by omega),gb]
  case refine_8=>rw[get_new,next_new,if_neg (by omega),get_new,if_neg (by omega),gs]
  all_goals simp +contextual only[go_sem,↓reduceIte,g1,g3,g4,g6]
  all_goals rfl
 ·have hie:i=L.length:=by omega
  have hno:bfsN id (tgt a.fa) (a.next.length+1-i) i L=[]:=by
   rw[show a.next.length+1-i=(a.next.length-i)+1 by omega,bfsN,List.getElem?_eq_none (by omega)]
  rw[hno,List.append_nil] at hrun
  have hle:decide ((i:Int)<(L.length:Int))=false:=by rw[zA];simp;omega
  simp (maxSteps:=2000000) +contextual only[go_sem,↓reduceIte,r41_l1,g4,g6,hle]
  have keepS:∀S:St,S.next=s.next→(∀j,j≠9→S.get j=s.get j)→RowI S 12 40 1 i cN v∧RowI S 12 43 1 i cF w∧(∀j (h:j<acc.length) (h':j<cN.length),BlkI S b 3 cN[j] (nats acc[j].2))∧∀j (h:j<acc.length) (h':j<cF.length),BlkI S b 4 cF[j] (zM (frow a.fa acc[j].1)):=fun S hn hg =>
   ⟨hv.keepT (by omega) fun j c h _ h2=>by rw[hg j (by omega)];exact h,hw.keepT (by omega) fun j c h _ h2=>by rw[hg j (by omega)];exact h,
    fun j h h'=>(hBN j h h').mono (by omega) (fun _ _ h=>h) fun j _ _ h3 h5=>by rw[hg j (by omega)];exact h5,fun j h h'=>(hBF j h h').mono (by omega) (fun _ _ h=>h) fun j _ _ h3 h5=>by rw[hg j (by omega)];exact h5⟩
  refine hk _ _ v w ?_ ?_ go g9 hv.noAgg hw.noAgg (fun S d hn hg=>?_) (fun S d hn hg=>?_)
  ·simp +contextual only[go_sem,↓reduceIte,g5]
  ·simp +contextual only[go_sem,↓reduceIte,g2]
  ·obtain⟨k1,k2,k3,k4⟩:=keepS S hn hg
   have k1:RowI S 12 40 1 cN.length cN v:=by rw[hcN];exact k1
   have hna:cN.all noAgg=true:=by
    rw[List.all_eq_true]
    intro x hx
    obtain⟨j,hj,rfl⟩:=List.mem_iff_getElem.1 hx
    obtain⟨_,e,_⟩:=k3 j (by omega) hj
    rw[e];rfl
   rw[←hrun]
   exact k1.frz_one U ag_40 sz_40 hna (d:=d+2) (mapO_idx (by omega) fun j h h'=>(k3 j h' h).frz ag_3 sz_3 (noAgg_ints _) (frz_ints _ _ _))
  ·obtain⟨k1,k2,k3,k4⟩:=keepS S hn hg
   have k2:RowI S 12 43 1 cF.length cF w:=by rw[hcF];exact k2
   have hna:cF.all noAgg=true:=by
    rw[List.all_eq_true]
    intro x hx
    obtain⟨j,hj,rfl⟩:=List.mem_iff_getElem.1 hx
    obtain⟨_,e,_⟩:=k4 j (by omega) hj
    rw[e];rfl
   rw[←hrun]
   exact k2.frz_one U ag_43 sz_43 hna (d:=d+2) (mapO_idx (by omega) fun j h h'=>(k4 j h' h).frz ag_4 sz_4 (noAgg_bools _) (frz_bools _ _ _))
theorem c41 {a:Auto}(ha:a.ok):calV U 41 [encA a]=some (encA (minAutR a)):=by
 refine yB k41 (by kernel_rfl) (by simp[zS,yH]) ?_
 have h106:=c106 ha
 rw[zU] at h106 ⊢
 have nn:=zH a.nNl (a.next.map zG)
 have nf:=zH a.fNl (a.fires.map zC)
 have cn:=zD a.nNl (a.next.map zG)
 have cf:=zD a.fNl (a.fires.map zC)
 have hA:=ha.faok
 have o1:=ixa_natsF (l:=clsL a.fa) (i:=0) (by rw[clsL_len hA];exact ha.pos)
 rw[clsL_gt hA ha.pos] at o1
 have o1:ixRA 1 (.fz (nats (clsL a.fa))) (.int .i64 0)=some (.fp [.int .i64 ((clsR a.fa 0:Nat):Int)] 0):=o1
 unfold encN encFs at h106 ⊢
 simp (maxSteps:=2000000) +contextual only[go_sem,↓reduceIte,r41,nn,nf,cn,cf,h106,o1]
 refine l41b ha ?_ ?_ ?_ ?_ ?_ ?_ ?_ ?_ ?_ ?_ ?_ ?_ ?_
 case refine_13 =>
  intro e' s' v w p5 p2 u11 u9 nav naw fv fw
  have hE:encA (minAutR a)=.agg [.int .i64 a.lines,encS true ((minR a.fa).map fun x=>AV.fz (nats x.2)),encS true ((minR a.fa).map fun x=>AV.fz (zM (frow a.fa x.1)))]:=by
   rw[zU,encN,encFs,minAutR]
   simp only[List.map_map]
   have e1:∀x:Nat×List Nat,(zG∘fun x:Nat×List Nat=>(false,nIs x.2)) x=AV.fz (nats x.2):=fun x=>by simp only[Function.comp,zG,encS_fz];rfl
   have e2:∀x:Nat×List Nat,(zC∘fun x:Nat×List Nat=>(false,frow a.fa x.1)) x=AV.fz (zM (frow a.fa x.1)):=fun x=>by simp only[Function.comp,zC,encS_fz]
   rw[List.map_congr_left (fun x _=>e1 x),List.map_congr_left (fun x _=>e2 x)]
  have fv':=fun x=>fv (s'.put 9 x) 36 (by rw[next_put]) fun j hj=>by rw[get_put,if_neg (fun e=>hj e.symm)]
  have fw':=fun x=>fw (s'.put 9 x) 36 (by rw[next_put]) fun j hj=>by rw[get_put,if_neg (fun e=>hj e.symm)]
  rw[hE]
  simp (maxSteps:=2000000) +contextual only[go_sem,↓reduceIte,p5,p2,u11,u9,nav,naw,fv',fw']
 case refine_12 =>
  repeat first|exact Fr.own|apply Fr.new|apply Fr.put|apply Fr.upto
  all_goals simp +contextual only[go_sem,↓reduceIte]
 all_goals simp +contextual only[go_sem,↓reduceIte]
 all_goals rfl
end Go.Am
