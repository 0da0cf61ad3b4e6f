/- A part of the proof of a statement of this seat: the machine on which the program is read, and what it computes; for every input. -/
import Derived.Test.YtkmaeondbkpajaaGreatDoorT04
import Derived.Test.YtkmaeondbkpajaaGreatDoorT02
set_option linter.all false
set_option linter.all false
namespace Go.Am
open Go Go.Proofs
variable [MaxLen]
set_option maxRecDepth 100000
instance seatStat : Stat := ⟨fun m c => ∃ n, n ≤ m ∧ okC U n c = true ∧ noRF c = true, fun t => Nat.beq t 150 || Nat.beq t 313⟩
theorem U_und (t : TypeId) : U.und t = Tryz.prog.underlying t := by unfold U; rfl
theorem U_inf (t : TypeId) : U.inf t = Tryz.prog.info? t := by unfold U; rfl
theorem U_ext (f : FuncId) : U.ext f = extU f := by unfold U; rfl
theorem U_pure (f : FuncId) : U.pure f = !keeps.contains f := by unfold U; rfl
theorem U_gbase (g : Nat) : U.gbase g = gbU g := by unfold U; rfl
theorem U_glob : U.glob = 8 := by unfold U; rfl
theorem U_fn (f : FuncId) : U.fn f = bif Nat.beq f 36 then none else Tryz.prog.funcs[f]? := by unfold U; rfl

/-- a function's body, resolved, and where its results stand -/
noncomputable def fnRC (f : FuncId) : Option (List ResultVar × RC) := match U.fn f with
  | some fn => match fn.body with
    | some c => some (fn.results.toList, rc U c)
    | none => none
  | none => none
theorem fnRC_some {f : FuncId} {rs : List ResultVar} {r : RC} (h : fnRC f = some (rs, r)) : ∃ fn c, U.fn f = some fn ∧ fn.body = some c ∧ fn.results.toList = rs ∧ rc U c = r := by
  unfold fnRC at h
  split at h
  · rename_i fn hf
    split at h
    · rename_i c hb
      cases h
      exact ⟨fn, c, hf, hb, rfl, rfl⟩
    · cases h
  · cases h
def isPure (f : FuncId) : Bool := !keeps.contains f && (extU f).isNone
def isKept (f : FuncId) : Bool := keeps.contains f && (extU f).isNone
theorem isPure_of {f : FuncId} (h : isPure f = true) : U.pure f = true ∧ U.ext f = none := by
  rw [isPure, Bool.and_eq_true, Option.isNone_iff_eq_none] at h
  rw [U_pure, U_ext]; exact h
theorem isKept_of {f : FuncId} (h : isKept f = true) : U.pure f = false ∧ U.ext f = none := by
  rw [isKept, Bool.and_eq_true, Option.isNone_iff_eq_none] at h
  rw [U_pure, U_ext, h.1]; exact ⟨rfl, h.2⟩

/-- a call in a state of its own, of values that nobody writes -/
theorem pure_go {f : FuncId} {rs : List ResultVar} {r : RC} (h : fnRC f = some (rs, r)) (hp : isPure f = true) {args : List AV} (hst : stills args = true) {v : AV}
    (hg : go U (finP U rs) [] r (bindArgs 0 args .nil) (ownSt U) = some v) : calV U f args = some v := by
  obtain ⟨fn, c, h1, h2, h3, h4⟩ := fnRC_some h
  obtain ⟨p1, p2⟩ := isPure_of hp
  exact calV_pure U p2 p1 h1 h2 h3 h4 hst hg
/-- a call in the state at hand -/
theorem kept_go {f : FuncId} {rs : List ResultVar} {r : RC} (h : fnRC f = some (rs, r)) (hp : isKept f = true) {args : List AV} {s : St} {x : AV × St}
    (hg : go U (finB U rs) [] r (bindArgs 0 args .nil) s = some x) : cal U f args s = some x := by
  obtain ⟨fn, c, h1, h2, h3, h4⟩ := fnRC_some h
  obtain ⟨p1, p2⟩ := isKept_of hp
  unfold cal callF
  rw [p2, p1]
  exact callB_go U h1 h2 h3 h4 hg
/-- with what stands in memory -/
theorem z_of {f : FuncId} (hp : isPure f = true) {args : List AV} (s : St) (hst : stills args = false) : callK U (calV U f args) f args s = calZ U f (mapO (frz U s 4000) args) s :=
  cal_calZ U s (isPure_of hp).2 (isPure_of hp).1 hst
def gateZ (p : Bool) (x : Option (AV × St)) (s : St) : Option (AV × St) := bif p then x else some (undef, s)
theorem gateZ_some (p : Bool) (v : AV) (s : St) : gateZ p (some (v, s)) s = some (bif p then v else undef, s) := by cases p <;> rfl
theorem gateZ_true (x : Option (AV × St)) (s : St) : gateZ true x s = x := (fun h => h) rfl
theorem gateZ_false (x : Option (AV × St)) (s : St) : gateZ false x s = some (undef, s) := (fun h => h) rfl
theorem zg_of {f : FuncId} (hp : isPure f = true) {p : Bool} {args : List AV} (s : St) (hst : stills args = false) : gateC U p (calV U f args) f args s = gateZ p (calZ U f (mapO (frz U s 4000) args) s) s := by
  unfold gateC gateZ
  rw [z_of hp s hst]
theorem flat_frz (s : St) : ∀ (d : Nat) (v v' : AV), frz U s d v = some v' → flat v' = true → v = v' := by
  intro d
  induction d with
  | zero => intro v v' h; simp [frz] at h
  | succ d ih =>
    intro v v' h hf
    have hl : ∀ (l l' : List AV), mapO (frz U s d) l = some l' → flats l' = true → l = l' := by
      intro l
      induction l with
      | nil => intro l' h _; simp only [mapO] at h; cases h; rfl
      | cons x l ihl =>
        intro l' h hf
        simp only [mapO] at h
        split at h
        · rename_i y r h1 h2
          cases h
          simp only [flats, Bool.and_eq_true] at hf
          rw [ih _ _ h1 hf.1, ihl _ h2 hf.2]
        · cases h
    cases v with
    | ptr b o =>
      rw [frz_ptr] at h
      unfold frzP at h
      split at h
      · simp only [fpK, Option.map_eq_some_iff] at h
        obtain ⟨_, _, rfl⟩ := h
        simp [flat] at hf
      · cases h
    | sl b o len cap esz =>
      rw [frz_sl] at h
      unfold frzS frzT fzK at h
      split at h
      · split at h
        · split at h
          · simp only [Option.map_eq_some_iff] at h
            obtain ⟨_, _, rfl⟩ := h
            simp [flat] at hf
          · cases h
        · cases h
      · cases h
    | map r =>
      simp only [frz] at h
      split at h
      · split at h
        · cases h; simp [flat] at hf
        · cases h
      · cases h
    | fn f x y =>
      simp only [frz] at h
      split at h
      · split at h
        · rename_i x' y' h1 h2
          cases h
          simp only [flat, Bool.and_eq_true] at hf
          rw [hl _ _ h1 hf.1.2, hl _ _ h2 hf.2]
        · cases h
      · cases h
    | iface t x =>
      simp only [frz] at h
      split at h
      · rename_i x' h1
        cases h
        simp only [flat] at hf
        rw [ih _ _ h1 hf]
      · cases h
    | agg cs =>
      simp only [frz] at h
      split at h
      · rename_i x' h1
        cases h
        simp only [flat] at hf
        rw [hl _ _ h1 hf]
      · cases h
    | tup cs =>
      simp only [frz] at h
      split at h
      · rename_i x' h1
        cases h
        simp only [flat] at hf
        rw [hl _ _ h1 hf]
      · cases h
    | _ => simp only [frz] at h; cases h; rfl
/-- the calls that the machine runs by itself -/
theorem v_of_q {f : FuncId} (hp : isPure f = true) {args : List AV} (hst : stills args = true) {v : AV} (h : callQ U (execL U) f args true = some v) : calV U f args = some v := by
  refine calV_of fun s => ?_
  obtain ⟨p1, p2⟩ := isPure_of hp
  unfold cal callF
  rw [p2]
  simp only [p1, if_true, callP, frzArgs, hst, h]
theorem und_2 : U.und 2 = some (.int .i64) := by kernel_rfl
theorem und_3 : U.und 3 = some (.int .i64) := by kernel_rfl
theorem und_5 : U.und 5 = some (.int .u8) := by kernel_rfl
theorem und_21 : U.und 21 = some (.int .i32) := by kernel_rfl
theorem und_26 : U.und 26 = some (.int .i64) := by kernel_rfl
theorem und_299 : U.und 278 = some (.int .u32) := by kernel_rfl
theorem und_301 : U.und 280 = some (.int .u64) := by kernel_rfl
theorem und_272 : U.und 236 = some (.int .u64) := by kernel_rfl
theorem ag_2 : isAggT U 2 = some false := by kernel_rfl
theorem sz_2 : size U 2 = some 1 := by kernel_rfl
theorem ag_3 : isAggT U 3 = some false := by kernel_rfl
theorem sz_3 : size U 3 = some 1 := by kernel_rfl
theorem ag_4 : isAggT U 4 = some false := by kernel_rfl
theorem sz_4 : size U 4 = some 1 := by kernel_rfl
theorem ag_5 : isAggT U 5 = some false := by kernel_rfl
theorem sz_5 : size U 5 = some 1 := by kernel_rfl
theorem ag_9 : isAggT U 9 = some false := by kernel_rfl
theorem sz_9 : size U 9 = some 1 := by kernel_rfl
theorem ag_21 : isAggT U 21 = some false := by kernel_rfl
theorem sz_21 : size U 21 = some 1 := by kernel_rfl
theorem ag_23 : isAggT U 23 = some false := by kernel_rfl
theorem sz_23 : size U 23 = some 1 := by kernel_rfl
theorem ag_25 : isAggT U 25 = some true := by kernel_rfl
theorem sz_25 : size U 25 = some 2 := by kernel_rfl
theorem ag_26 : isAggT U 26 = some false := by kernel_rfl
theorem sz_26 : size U 26 = some 1 := by kernel_rfl
theorem ag_29 : isAggT U 29 = some false := by kernel_rfl
theorem sz_29 : size U 29 = some 1 := by kernel_rfl
theorem ag_31 : isAggT U 31 = some true := by kernel_rfl
theorem sz_31 : size U 31 = some 2 := by kernel_rfl
theorem ag_37 : isAggT U 104 = some false := by kernel_rfl
theorem sz_37 : size U 104 = some 1 := by kernel_rfl
theorem ag_39 : isAggT U 106 = some true := by kernel_rfl
theorem sz_39 : size U 106 = some 7 := by kernel_rfl
theorem ag_40 : isAggT U 48 = some false := by kernel_rfl
theorem sz_40 : size U 48 = some 1 := by kernel_rfl
theorem ag_43 : isAggT U 72 = some false := by kernel_rfl
theorem sz_43 : size U 72 = some 1 := by kernel_rfl
theorem ag_46 : isAggT U 76 = some false := by kernel_rfl
theorem sz_46 : size U 76 = some 1 := by kernel_rfl
theorem ag_48 : isAggT U 78 = some true := by kernel_rfl
theorem sz_48 : size U 78 = some 7 := by kernel_rfl
theorem ag_66 : isAggT U 39 = some false := by kernel_rfl
theorem sz_66 : size U 39 = some 1 := by kernel_rfl
theorem ag_67 : isAggT U 40 = some false := by kernel_rfl
theorem sz_67 : size U 40 = some 1 := by kernel_rfl
theorem ag_69 : isAggT U 42 = some true := by kernel_rfl
theorem sz_69 : size U 42 = some 3 := by kernel_rfl
theorem ag_72 : isAggT U 46 = some true := by kernel_rfl
theorem sz_72 : size U 46 = some 3 := by kernel_rfl
theorem ag_90 : isAggT U 109 = some true := by kernel_rfl
theorem sz_90 : size U 109 = some 9 := by kernel_rfl
theorem ag_108 : isAggT U 63 = some false := by kernel_rfl
theorem sz_108 : size U 63 = some 1 := by kernel_rfl
theorem ag_116 : isAggT U 55 = some true := by kernel_rfl
theorem sz_116 : size U 55 = some 2 := by kernel_rfl
theorem ag_144 : isAggT U 113 = some true := by kernel_rfl
theorem sz_144 : size U 113 = some 9 := by kernel_rfl
theorem ag_152 : isAggT U 128 = some true := by kernel_rfl
theorem sz_152 : size U 128 = some 3 := by kernel_rfl
theorem ag_158 : isAggT U 137 = some true := by kernel_rfl
theorem sz_158 : size U 137 = some 3 := by kernel_rfl
theorem ag_183 : isAggT U 161 = some false := by kernel_rfl
theorem sz_183 : size U 161 = some 1 := by kernel_rfl
theorem ag_186 : isAggT U 164 = some true := by kernel_rfl
theorem sz_186 : size U 164 = some 2 := by kernel_rfl
theorem ag_205 : isAggT U 148 = some false := by kernel_rfl
theorem sz_205 : size U 148 = some 1 := by kernel_rfl
theorem ag_207 : isAggT U 150 = some true := by kernel_rfl
theorem sz_207 : size U 150 = some 2 := by kernel_rfl
theorem ag_236 : isAggT U 220 = some true := by kernel_rfl
theorem sz_236 : size U 220 = some 9 := by kernel_rfl
theorem ag_272 : isAggT U 236 = some false := by kernel_rfl
theorem sz_272 : size U 236 = some 1 := by kernel_rfl
theorem ag_299 : isAggT U 278 = some false := by kernel_rfl
theorem sz_299 : size U 278 = some 1 := by kernel_rfl
theorem ag_301 : isAggT U 280 = some false := by kernel_rfl
theorem sz_301 : size U 280 = some 1 := by kernel_rfl
attribute [go_sem ↓] gateZ_true gateZ_false
attribute [go_sem] gateZ_some Int.reduceBEq Int.reduceBNe Int.reduceAdd U_glob und_2 und_3 und_5 und_21 und_26 und_299 und_301 und_272 ag_2 sz_2 ag_3 sz_3 ag_4 sz_4 ag_5 sz_5 ag_9 sz_9 ag_21 sz_21 ag_23 sz_23 ag_25 sz_25 ag_26 sz_26 ag_29 sz_29 ag_31 sz_31 ag_37 sz_37 ag_39 sz_39 ag_40 sz_40 ag_43 sz_43 ag_46 sz_46 ag_48 sz_48 ag_66 sz_66 ag_67 sz_67 ag_69 sz_69 ag_72 sz_72 ag_90 sz_90 ag_108 sz_108 ag_116 sz_116 ag_144 sz_144 ag_152 sz_152 ag_158 sz_158 ag_183 sz_183 ag_186 sz_186 ag_205 sz_205 ag_207 sz_207 ag_236 sz_236 ag_272 sz_272 ag_299 sz_299 ag_301 sz_301
end Go.Am
set_option linter.unusedSimpArgs false
set_option linter.unusedVariables false
set_option linter.unusedSectionVars false
namespace Go.Am
open Go
structure Pb where
 lo:Nat
 hi:Nat
 e:Env
 op:ROp
 v:AV
def pb1 (v:AV)(x:Option (AV×St)):Bool:=match x with
 |some (u,_)=>same u v
 |none=>false
section
variable (X:Cx)
noncomputable def pbL (base:Nat)(e:Env)(op:ROp)(v:AV):List St→Bool
 |[]=>true
 |s::l=>pb1 v (rop X base none e s op)&&pbL base e op v l
noncomputable def pbsOk (base:Nat)(H:List St):List Pb→Bool
 |[]=>true
 |p::P=>pbL X base p.e p.op p.v ((H.take (p.hi+1)).drop p.lo)&&pbsOk base H P
abbrev ROC:=RO×Option (Nat×Nat)
def noneC (base:Nat)(s:St)(l:List ROC):Bool:=noneR base s (l.map Prod.fst)
def addP (c:Option (Nat×Nat))(e:Env)(op:ROp)(v:AV)(P:List Pb):List Pb:=match c with
 |some (lo,hi)=>⟨lo,hi,e,op,v⟩::P
 |none=>P
noncomputable def ropsC (base:Nat):List ROC→Env→St→List St→List Pb→Option (Env×St)
 |[],e,s,H,P=>bif pbsOk X base H P then some (e,s) else none
 |(o,c)::l,e,s,H,P=>match (bif wantR e o.g then rop X base o.at_ e s o.op else some (undef,s)) with
  |some (v,s')=>bif !o.w||noneC base s' l then ropsC base l (setDst e o.d v) s' (bif o.w then H++[s'] else H) (addP c e o.op v P) else none
  |none=>none
def calmI (ops:Array Oper)(i:Nat):Bool :=
 (aIdx X 0 ops.toList).all (fun k=>!decide (k<i)||bef ops k i)&&(wIdx X ops 0 ops.toList).all (fun k=>bef ops k i||bef ops i k)
def opC (ops:Array Oper)(i:Nat):Option (Nat×Nat):=match ops[i]? with
 |some o=>if ((cls X o.op).isR||(match cls X o.op with|.q=>true|_=>false))&&!calmI X ops i then
   some (countL (fun j=>bef ops j i) (wIdx X ops 0 ops.toList),countL (fun j=>!bef ops i j) (wIdx X ops 0 ops.toList)) else none
 |none=>none
def csD (ops:Array Oper):List (Option (Nat×Nat)):=(List.range ops.size).map (opC X ops)
def openD (ops:Array Oper):Bool :=
 !lateReg X ops&&(List.range ops.size).all fun i=>match ops[i]? with
  |some o=>!((cls X o.op).isR||(match cls X o.op with|.q=>true|_=>false))||calmI X ops i ||
   ((cls X o.op).isR&&(o.guard.isNone&&(aIdx X 0 ops.toList).all fun k=>!bef ops k i))
  |none=>true
def rcDrc:Code→Option (Nat×List ROC)
 |.region _ ops d=>if d&&openD X ops&&okD X ops then match rcOps X ops true 0 ops.toList with
   |some l=>some (ops.size,l.zip (csD X ops))
   |none=>none
   else none
 |_=>none
end
section
variable [Stat]
variable {X:Cx}{ops:Array Oper}{base:Nat}
theorem rcOps_length {b:Bool}:∀(l:List Oper) (i:Nat) (r:List RO),rcOps X ops b i l=some r→r.length=l.length
 |[],i,r,h=>by simp only[rcOps] at h;cases h;rfl
 |o::l,i,r,h=>by
  simp only[rcOps] at h
  split at h
  ·rename_i g r' h1 h2
   cases h
   simp[rcOps_length l (i+1) r' h2]
  ·cases h
theorem ropsC_D {r:Env×St}:∀(l:List ROC) (e:Env) (s:St) (H:List St) (P:List Pb),ropsC X base l e s H P=some r→ropsD X base (l.map Prod.fst) e s=some r
 |[],e,s,H,P,h=>by
  simp only[ropsC] at h
  cases hb:pbsOk X base H P with
  |true=>rw[hb] at h;exact h
  |false=>rw[hb] at h;cases h
 |(o,c)::l,e,s,H,P,h=>by
  simp only[ropsC] at h
  simp only[List.map_cons,ropsD]
  split at h
  ·rename_i v s' hv
   rw[hv]
   simp only
   cases hb:(!o.w||noneC base s' l) with
   |false=>rw[hb] at h;cases h
   |true =>
    rw[hb] at h
    rw[if_pos (by exact hb)]
    exact ropsC_D l _ _ _ _ h
  ·cases h
theorem roStep {i:Nat}{o:Oper}{g:Option (Nat×Bool)}{e:Env}{s s1:St}{v:AV}(h1:rcG ops o.guard=some g)
  (hr:(bif wantR e g then rop X base (if true&&(cls X o.op).isA then some i else none) e s (rcOp X o.op) else some (undef,s))=some (v,s1)) :
  stepD X (execL X) ops base i o e s=some (setDst e o.dst v,s1):=by
 have hwant:=rcG_spec h1 e
 cases hw:wantR e g with
 |false =>
  rw[hw] at hr hwant
  simp only[cond_false] at hr
  cases hr
  simp only[stepD,←hwant,Bool.false_eq_true,if_false]
 |true =>
  rw[hw] at hr hwant
  simp only[cond_true,Bool.true_and] at hr
  simp only[stepD,←hwant,if_true]
  by_cases ha:(cls X o.op).isA=true
  ·rw[if_pos ha] at hr
   obtain⟨s2,e1,e2⟩:=rop_at (isA_iff.1 ha) hr
   rw[isA_iff.1 ha]
   simp only[e1,e2]
  ·rw[if_neg ha] at hr
   have:=rop_spec hr
   cases hk:cls X o.op <;> rw[hk] at ha <;> first|exact absurd rfl ha|simp only[this]
theorem addA_no {i m:Nat}{tr:List (Env×St)}{s:St}:∀(l:List Nat),(∀k∈l,bef ops k i=false)→addA ops base i m tr l s=s
 |[],_=>rfl
 |j::l,h=>by
  unfold addA
  rw[if_neg (by simp[h j (List.mem_cons_self ..)])]
  exact addA_no l fun k hk=>h k (List.mem_cons_of_mem _ hk)
theorem pbsOk_mem {H:List St}:∀(P:List Pb),pbsOk X base H P=true→∀p∈P,pbL X base p.e p.op p.v ((H.take (p.hi+1)).drop p.lo)=true
 |[],_,p,hp=>by simp at hp
 |q::P,h,p,hp=>by
  simp only[pbsOk,Bool.and_eq_true] at h
  rcases List.mem_cons.1 hp with rfl|hp
  ·exact h.1
  ·exact pbsOk_mem P h.2 p hp
theorem pbL_mem {e:Env}{op:ROp}{v:AV}:∀(l:List St),pbL X base e op v l=true→∀s∈l,pb1 v (rop X base none e s op)=true
 |[],_,s,hs=>by simp at hs
 |x::l,h,s,hs=>by
  simp only[pbL,Bool.and_eq_true] at h
  rcases List.mem_cons.1 hs with rfl|hs
  ·exact h.1
  ·exact pbL_mem l h.2 s hs
theorem probes (hlr:lateReg X ops=false):∀(l:List Oper) (i:Nat) (l':List ROC) (e:Env) (s:St) (H:List St) (P:List Pb) (r:Env×St) (tr:List (Env×St)),
  rcOps X ops true i l=some (l'.map Prod.fst)→ropsC X base l' e s H P=some r→goD X (execL X) ops base i l e s=some tr →
  ∃P',pbsOk X base (H++(wIdx X ops i l).map (fun j=>trS tr (j+1-i))) P'=true∧(∀p∈P,p∈P') ∧
   ∀(k:Nat) o q lo hi,l[k]? = some o→l'[k]? = some (q,some (lo,hi))→o.guard=none→cls X o.op=.r →
    ∃v,opA X (execL X) (trE tr k) o.op (trS tr k)=some (v,trS tr (k+1))∧(⟨lo,hi,trE tr k,rcOp X o.op,v⟩:Pb)∈P'
 |[],i,l',e,s,H,P,r,tr,h1,h2,h3=>by
  have hl':l'=[]:=by
   simp only[rcOps] at h1
   cases l' with
   |nil=>rfl
   |cons x y=>simp at h1
  subst hl'
  simp only[ropsC] at h2
  refine⟨P,?_,fun p hp=>hp,fun k o q lo hi hk=>by simp at hk⟩
  simp only[wIdx,List.map_nil,List.append_nil]
  cases hb:pbsOk X base H P with
  |true=>rfl
  |false=>rw[hb] at h2;cases h2
 |o::l,i,l',e,s,H,P,r,tr,h1,h2,h3=>by
  simp only[rcOps] at h1
  split at h1
  ·rename_i g r' e1 e2
   cases l' with
   |nil=>simp at h1
   |cons x l2 =>
    obtain⟨ro,c⟩:=x
    simp only[List.map_cons,Option.some.injEq,List.cons.injEq] at h1
    obtain⟨rfl,rfl⟩:=h1
    simp only[ropsC] at h2
    split at h2
    ·rename_i v s1 hv
     have hst:=roStep e1 hv
     simp only[goD,hst] at h3
     split at h3
     ·rename_i tr' g1
      cases h3
      cases hb:(!(true&&(cls X o.op).isW)||noneC base s1 l2) with
      |false=>rw[hb] at h2;cases h2
      |true =>
       rw[hb] at h2
       simp only[cond_true] at h2
       obtain⟨P',q1,q2,q3⟩:=probes hlr l (i+1) l2 _ s1 _ _ r tr' e2 h2 g1
       obtain⟨k1,k2,_⟩:=goD_spec _ _ _ _ _ g1
       have hts:∀n,trS ((e,s)::tr') (n+1)=trS tr' n:=fun n=>by simp[trS]
       have hte:∀n,trE ((e,s)::tr') (n+1)=trE tr' n:=fun n=>by simp[trE]
       have hs1:trS tr' 0=s1:=by simp[trS,k2]
       have hmap:(wIdx X ops (i+1) l).map (fun j=>trS ((e,s)::tr') (j+1-i))=(wIdx X ops (i+1) l).map (fun j=>trS tr' (j+1-(i+1))):=by
        refine List.map_congr_left fun j hj=>?_
        obtain⟨k,_,_,hjk,_⟩:=(wIdx_mem l (i+1) j).1 hj
        rw[show j+1-i=(j+1-(i+1))+1 by omega,hts]
       refine⟨P',?_,fun p hp=>q2 p (by unfold addP;split <;> simp[hp]),fun k o' q lo hi hk1 hk2 hg hc=>?_⟩
       ·have hlt:late X ops i=false:=by simp[late,hlr]
        simp only[wIdx,hlt,Bool.not_false,Bool.and_true]
        cases hw:(cls X o.op).isW with
        |true =>
         rw[hw] at q1
         simp only[if_true,List.map_cons]
         rw[hmap,show i+1-i=0+1 by omega,hts,hs1]
         simpa using q1
        |false =>
         rw[hw] at q1
         simp only[Bool.false_eq_true,if_false]
         rw[hmap]
         simpa using q1
       ·cases k with
        |zero =>
         simp at hk1 hk2
         obtain⟨_,rfl⟩:=hk2
         subst hk1
         have hgn:g=none:=by rw[hg] at e1;simp[rcG] at e1;exact e1.symm
         subst hgn
         simp only[wantR,cond_true,hc,Cls.isA,Bool.and_false,Bool.false_eq_true,if_false] at hv
         have:=rop_spec hv
         refine⟨v,?_,?_⟩
         ·rw[hts,hs1];exact this
         ·exact q2 _ (by simp[addP,trE])
        |succ k =>
         obtain⟨v',w1,w2⟩:=q3 k o' q lo hi (by simpa using hk1) (by simpa using hk2) hg hc
         refine⟨v',?_,?_⟩
         ·rw[hte,hts,hts];exact w1
         ·rw[hte];exact w2
     ·cases h3
    ·cases h2
  ·cases h1
theorem drc_spec {l:List RO}{e:Env}{s:St}{r:Env×St}(hrc:rcOps X ops true 0 ops.toList=some l)(hopen:openD X ops=true)(hokd:okD X ops=true)(hn:noneR s.next s l=true)
  (hrC:ropsC X s.next (l.zip (csD X ops)) e { s with next:=s.next+ops.size } [{ s with next:=s.next+ops.size }] []=some r):drawA X (execL X) ops e s=some r:=by
 have hok:=okD_ok hokd
 have hlen:l.length=ops.size:=by rw[rcOps_length _ _ _ hrc];simp
 have hz1:(l.zip (csD X ops)).map Prod.fst=l:=by rw[List.map_fst_zip];rw[hlen];simp[csD]
 have hr:ropsD X s.next l e { s with next:=s.next+ops.size }=some r:=by
  have:=ropsC_D _ _ _ _ _ hrC
  rw[hz1] at this;exact this
 unfold openD at hopen
 simp only[Bool.and_eq_true,Bool.not_eq_true',List.all_eq_true,List.mem_range] at hopen
 obtain⟨hlr,hall⟩:=hopen
 obtain⟨tr,g1,g2,g3⟩:=ropsD_go _ _ _ _ _ hrc hr
 obtain⟨P',hP1,_,hP2⟩:=probes hlr ops.toList 0 (l.zip (csD X ops)) e _ _ [] r tr (by rw[hz1];exact hrc) hrC g1
 obtain⟨k1,k2,k3⟩:=goD_spec _ _ _ _ _ g1
 have k1:tr.length=ops.size+1:=by simpa using k1
 have ht:Tr0 X (execL X) ops s.next (trE tr) (trS tr):=⟨fun i o ho=>by
  have:=k3 i o (by simpa using ho)
  simpa using this⟩
 have hS0:trS tr 0={ s with next:=s.next+ops.size }:=by simp[trS,k2]
 have hlate:∀i,late X ops i=false:=fun i=>by simp[late,hlr]
 have wmem:∀j,j∈wIdx X ops 0 ops.toList↔∃o,ops[j]? = some o∧cls X o.op=.w:=by
  intro j
  rw[wIdx_mem]
  constructor
  ·rintro⟨k,o,h1,rfl,h3⟩
   simp only[Bool.and_eq_true] at h3
   exact⟨o,by simpa using h1,isW_iff.1 h3.1⟩
  ·rintro⟨o,h1,h3⟩
   exact⟨j,o,by simpa using h1,by omega,by simp[isW_iff.2 h3,hlate]⟩
 have amem:∀j,kA X ops j→j∈aIdx X 0 ops.toList:=by
  have:∀(l:List Oper) (i k:Nat) o,l[k]? = some o→cls X o.op=.a→i+k∈aIdx X i l:=by
   intro l
   induction l with
   |nil=>intro i k o h;simp at h
   |cons x l ih =>
    intro i k o h hc
    unfold aIdx
    cases k with
    |zero=>simp at h;subst h;rw[if_pos (isA_iff.2 hc)];exact List.mem_cons_self ..
    |succ k =>
     have:=ih (i+1) k o (by simpa using h) hc
     rw[show i+(k+1)=i+1+k by omega]
     split
     ·exact List.mem_cons_of_mem _ this
     ·exact this
  rintro j ⟨o,ho,hc⟩
  have:=this ops.toList 0 j o (by simpa using ho) hc
  simpa using this
 have hsts:=statesD_ok (tr:=tr) (wIdx X ops 0 ops.toList) fun j hj=>by
  obtain⟨o,ho,_⟩:=(wmem j).1 hj
  have:=(Array.getElem?_eq_some_iff.1 ho).1
  omega
 unfold drawA
 rw[g1]
 simp only[hsts]
 have hnoneM:∀m,m=0∨(∃j,m=j+1∧j∈wIdx X ops 0 ops.toList)→∀i,m≤i→kA X ops i→(trS tr m).get (s.next+i)=none:=by
  rintro m (rfl|⟨j,rfl,hj⟩) i hi ⟨o,ho,hc⟩
  ·rw[hS0]
   have:=noneR_start _ _ _ hrc hn i o (by simpa using ho) (isA_iff.2 hc)
   rw[Nat.zero_add] at this
   exact this
  ·obtain⟨oj,hoj,hcj⟩:=(wmem j).1 hj
   have:=g3 j oj (by simpa using hoj) (isW_iff.2 hcj) i (by omega) o (by simpa using ho) (isA_iff.2 hc)
   simpa using this
 have hss:∀m s1,(m,s1)∈(0,({ s with next:=s.next+ops.size }:St))::((wIdx X ops 0 ops.toList).map fun j=>(j+1,trS tr (j+1)))→(m=0∨∃j,m=j+1∧j∈wIdx X ops 0 ops.toList)∧s1=trS tr m:=by
  intro m s1 hm
  rcases List.mem_cons.1 hm with e|hm
  ·cases e;exact⟨.inl rfl,hS0.symm⟩
  ·obtain⟨j,hj,e⟩:=List.mem_map.1 hm
   cases e
   exact⟨.inr ⟨j,rfl,hj⟩,rfl⟩
 have hnA:noneAll X ops s.next ((0,({ s with next:=s.next+ops.size }:St))::((wIdx X ops 0 ops.toList).map fun j=>(j+1,trS tr (j+1))))=true:=noneAll_of _ fun m s1 hm i hi hk=>by
  obtain⟨h1,rfl⟩:=hss m s1 hm
  exact hnoneM m h1 i hi hk
 have hchk:checkR X (execL X) ops s.next (wIdx X ops 0 ops.toList) (aIdx X 0 ops.toList) ((0,({ s with next:=s.next+ops.size }:St))::((wIdx X ops 0 ops.toList).map fun j=>(j+1,trS tr (j+1)))) tr 0 ops.toList tr=true:=by
  refine checkR_of _ _ _ fun i o es ho htr hw=>?_
  have ho':ops[i]? = some o:=by simpa using ho
  have hi:i<ops.size:=(Array.getElem?_eq_some_iff.1 ho').1
  have hes:es=(trE tr i,trS tr i):=by simp[trE,trS,htr]
  subst hes
  simp only at hw
  rw[Nat.zero_add]
  have hop:cls X o.op≠.a→∃v,opA X (execL X) (trE tr i) o.op (trS tr i)=some (v,trS tr (i+1)):=fun hne=>by
   rcases stepD_cases (ht.step i o ho') with⟨h1,_⟩|⟨_,v,_,⟨hc,_⟩|⟨_,h3⟩⟩
   ·rw[hw] at h1;cases h1
   ·exact absurd (isA_iff.1 hc) hne
   ·exact⟨v,h3⟩
  have hone:(cls X o.op=.r∨cls X o.op=.q)→calmI X ops i=true→∃m,rangeR ops (wIdx X ops 0 ops.toList) ((0,({ s with next:=s.next+ops.size }:St))::((wIdx X ops 0 ops.toList).map fun j=>(j+1,trS tr (j+1)))) i=[(m,trS tr m)] ∧
    addA ops s.next i m tr (aIdx X 0 ops.toList) (trS tr m)=trS tr i:=by
   intro hk hst'
   unfold calmI at hst'
   rw[Bool.and_eq_true] at hst'
   obtain⟨ha,hwb⟩:=hst'
   rw[List.all_eq_true] at ha hwb
   have hab:∀k,k<i→kA X ops k→bef ops k i=true:=fun k hki hka=>by
    have:=ha k (amem k hka)
    simpa[hki] using this
   have hbw:∀k∈wIdx X ops 0 ops.toList,(bef ops k i=true↔k<i)∧(bef ops i k=true↔i<k):=by
    intro k hkm
    have:=hwb k hkm
    simp only[Bool.or_eq_true] at this
    rcases this with h1|h1
    ·have:=hok.bef_lt i k h1
     refine⟨⟨fun _=>this,fun _=>h1⟩,⟨fun h2=>?_,fun h2=>by omega⟩⟩
     have:=hok.bef_lt k i h2;omega
    ·have:=hok.bef_lt k i h1
     refine⟨⟨fun h2=>?_,fun h2=>by omega⟩,⟨fun _=>this,fun _=>h1⟩⟩
     have:=hok.bef_lt i k h2;omega
   have hne:∀k∈wIdx X ops 0 ops.toList,k≠i:=fun k hkm e=>by
    obtain⟨o2,ho2,hc2⟩:=(wmem k).1 hkm
    rw[e,ho'] at ho2;cases ho2
    rcases hk with hk|hk <;> rw[hk] at hc2 <;> cases hc2
   have hcnt:countL (fun j=>!bef ops i j) (wIdx X ops 0 ops.toList)=countL (fun j=>bef ops j i) (wIdx X ops 0 ops.toList):=by
    refine Nat.le_antisymm (countL_mono _ fun x hx h=>?_) (countL_mono _ fun x hx h=>?_)
    ·have h1:bef ops i x=false:=by simpa using h
     refine ((hbw x hx).1).2 (Nat.lt_of_not_le fun hle=>?_)
     have:=((hbw x hx).2).2 (by have:=hne x hx;omega)
     rw[h1] at this;cases this
    ·have h1:=((hbw x hx).1).1 h
     simp only[Bool.not_eq_true']
     cases hb:bef ops i x with
     |false=>rfl
     |true=>have:=((hbw x hx).2).1 hb;omega
   unfold rangeR
   rw[hcnt]
   generalize hq:countL (fun j=>bef ops j i) (wIdx X ops 0 ops.toList)=q
   have hsort:=List.pairwise_iff_getElem.1 (wIdx_sorted (X:=X) (ops:=ops) ops.toList 0)
   have hql:q≤(wIdx X ops 0 ops.toList).length:=by
    rw[←hq]
    generalize wIdx X ops 0 ops.toList=L
    induction L with
    |nil=>exact Nat.le_refl _
    |cons x L ih=>simp only[countL,List.length_cons];split <;> omega
   have hfirst:∀n (hn:n<(wIdx X ops 0 ops.toList).length),(n<q↔(wIdx X ops 0 ops.toList)[n]<i):=by
    obtain⟨p,hp1,hp2,hp3⟩:∃p,p≤(wIdx X ops 0 ops.toList).length∧(∀n (hn:n<(wIdx X ops 0 ops.toList).length),n<p→(wIdx X ops 0 ops.toList)[n]<i)∧(∀n (hn:n<(wIdx X ops 0 ops.toList).length),p≤n→¬(wIdx X ops 0 ops.toList)[n]<i):=by
     rcases last_of (fun n=>∃hn:n<(wIdx X ops 0 ops.toList).length,(wIdx X ops 0 ops.toList)[n]<i) (wIdx X ops 0 ops.toList).length with h|⟨n0,h1,⟨h2,h3⟩,h4⟩
     ·exact⟨0,Nat.zero_le _,fun n _ hn=>by omega,fun n hn _ hlt=>h n hn ⟨hn,hlt⟩⟩
     ·refine⟨n0+1,h1,fun n hn hlt=>?_,fun n hn hle hlt=>h4 n (by omega) hn ⟨hn,hlt⟩⟩
      by_cases e:n=n0
      ·subst e;exact h3
      ·have:=hsort n n0 hn h2 (by omega);omega
    have hpq:p=q:=by
     rw[←hq]
     refine (countL_split _ p hp1 (fun x hx=>?_) (fun x hx=>?_)).symm
     ·obtain⟨n,hn,rfl⟩:=List.mem_iff_getElem.1 hx
      rw[List.getElem_take]
      have hn':n<p∧n<(wIdx X ops 0 ops.toList).length:=by rw[List.length_take] at hn;omega
      exact ((hbw _ (List.getElem_mem hn'.2)).1).2 (hp2 n hn'.2 hn'.1)
     ·obtain⟨n,hn,rfl⟩:=List.mem_iff_getElem.1 hx
      rw[List.getElem_drop]
      rw[List.length_drop] at hn
      have:=hp3 (p+n) (by omega) (by omega)
      cases hb:bef ops (wIdx X ops 0 ops.toList)[p+n] i with
      |false=>rfl
      |true=>exact absurd (((hbw _ (List.getElem_mem (by omega))).1).1 hb) this
    subst hpq
    exact fun n hn=>⟨hp2 n hn,fun hlt=>Nat.lt_of_not_le fun hle=>hp3 n hn hle hlt⟩
   have fin:∀m,(m=0∨∃j,m=j+1∧j∈wIdx X ops 0 ops.toList)→m≤i→(∀k∈wIdx X ops 0 ops.toList,k<i→k<m) →
     addA ops s.next i m tr (aIdx X 0 ops.toList) (trS tr m)=trS tr i:=fun m hm hmi hwm =>
    addA_here ht k1 hok hi hmi (fun k ok h1 h2 hok' hc=>by
     have:=hwm k ((wmem k).2 ⟨ok,hok',hc⟩) h2;omega) hab (fun k h1 h2=>hnoneM m hm k h1 h2)
   cases q with
   |zero =>
    refine⟨0,by simp[hS0],fin 0 (.inl rfl) (Nat.zero_le _) fun k hkm hki=>?_⟩
    obtain⟨n,hn,rfl⟩:=List.mem_iff_getElem.1 hkm
    have:=(hfirst n hn).2 hki;omega
   |succ q =>
    have hqn:q<(wIdx X ops 0 ops.toList).length:=by omega
    have hqi:=(hfirst q hqn).1 (by omega)
    refine⟨(wIdx X ops 0 ops.toList)[q]+1,?_,fin _ (.inr ⟨_,rfl,List.getElem_mem _⟩) (by omega) fun k hkm hki=>?_⟩
    ·rw[List.drop_take]
     rw[show q+1+1-(q+1)=1 by omega,List.drop_succ_cons,List.drop_eq_getElem_cons (by simpa using hqn)]
     simp
    ·obtain⟨n,hn,rfl⟩:=List.mem_iff_getElem.1 hkm
     have hnq:=(hfirst n hn).2 hki
     by_cases e:n=q
     ·subst e;omega
     ·have:=hsort n q hn hqn (by omega);omega
  have hcase:=hall i hi
  rw[ho'] at hcase
  simp only at hcase
  refine⟨fun hk=>?_,fun hk=>?_⟩
  ·cases hcm:calmI X ops i with
   |true =>
    obtain⟨v,hv⟩:=hop (by rw[hk];simp)
    obtain⟨m,hm1,hm2⟩:=hone (.inl hk) hcm
    refine⟨v,_,hv,?_⟩
    rw[hm1]
    simp only[readsSame,hm2,hv,same_refl,Bool.and_self]
   |false =>
    rw[hk,hcm] at hcase
    simp only[Cls.isR,Bool.true_or,Bool.not_true,Bool.false_or,Bool.true_and,Bool.and_eq_true,Option.isNone_iff_eq_none,List.all_eq_true,Bool.not_eq_true'] at hcase
    obtain⟨hgn,hno⟩:=hcase
    have hcs:(l.zip (csD X ops))[i]? = some ((l[i]'(by omega)),some (countL (fun j=>bef ops j i) (wIdx X ops 0 ops.toList),countL (fun j=>!bef ops i j) (wIdx X ops 0 ops.toList))):=by
     rw[List.getElem?_zip_eq_some]
     refine⟨by simp[List.getElem?_eq_getElem (show i<l.length by omega)],?_⟩
     simp only[csD,List.getElem?_map,List.getElem?_range hi,Option.map_some,opC,ho',hk,hcm,Cls.isR]
     rfl
    obtain⟨v,hv,hmem⟩:=hP2 i o _ _ _ (by simpa using ho') hcs hgn hk
    refine⟨v,_,hv,?_⟩
    have hpl:=pbsOk_mem _ hP1 _ hmem
    simp only at hpl
    have hrng:∀x∈rangeR ops (wIdx X ops 0 ops.toList) ((0,({ s with next:=s.next+ops.size }:St))::((wIdx X ops 0 ops.toList).map fun j=>(j+1,trS tr (j+1)))) i,pb1 v (rop X s.next none (trE tr i) x.2 (rcOp X o.op))=true:=by
     intro x hx
     refine pbL_mem _ hpl x.2 ?_
     have:(([{ s with next:=s.next+ops.size }]:List St)++(wIdx X ops 0 ops.toList).map (fun j=>trS tr (j+1-0)))=((0,({ s with next:=s.next+ops.size }:St))::((wIdx X ops 0 ops.toList).map fun j=>(j+1,trS tr (j+1)))).map Prod.snd:=by
      simp[Function.comp_def]
     rw[this,←List.map_take,←List.map_drop]
     exact List.mem_map_of_mem hx
    generalize rangeR ops (wIdx X ops 0 ops.toList) ((0,({ s with next:=s.next+ops.size }:St))::((wIdx X ops 0 ops.toList).map fun j=>(j+1,trS tr (j+1)))) i=L at hrng
    induction L with
    |nil=>rfl
    |cons x L ih =>
     obtain⟨m,s1⟩:=x
     have h0:=hrng (m,s1) (List.mem_cons_self ..)
     simp only[readsSame]
     rw[addA_no _ hno]
     unfold pb1 at h0
     split at h0
     ·rename_i u s2 hu
      simp only at hu
      simp only[rop_spec hu,h0,Bool.true_and]
      exact ih fun x hx=>hrng x (List.mem_cons_of_mem _ hx)
     ·cases h0
  ·cases hcm:calmI X ops i with
   |true =>
    obtain⟨v,hv⟩:=hop (by rw[hk];simp)
    obtain⟨m,hm1,hm2⟩:=hone (.inr hk) hcm
    obtain⟨_,c,vs,us,e1,e2,e3,_⟩:=cls_c hk hv
    refine⟨c,vs,us,e1,e2,e3,?_⟩
    rw[hm1]
    simp only[argsSame,hm2,e3,sames_refl,Bool.and_self]
   |false =>
    rw[hk,hcm] at hcase
    simp[Cls.isR] at hcase
 rw[lateIds_nil hlr]
 simp only[lateOk,hchk,hnA,Bool.and_self,if_true]
 exact g2
end
section
variable (X:Cx){β:Type}(back:β)(fin:Fl→β)(ks:List K)
noncomputable def goC (base:Nat)(l:List ROC)(e:Env)(s:St)(H:List St)(P:List Pb):β:=match ropsC X base l e s H P with
 |some (e,s)=>goN X fin ks e s
 |none=>back
noncomputable def bndC (base:Nat)(x:Option (AV×St))(d:Option Nat)(w:Bool)(c:Option (Nat×Nat))(op:ROp)(l:List ROC)(e:Env)(H:List St)(P:List Pb):β:=match x with
 |some (v,s)=>bif !w||noneC base s l then goC X back fin ks base l (setDst e d v) s (bif w then H++[s] else H) (addP c e op v P) else back
 |none=>back
noncomputable def backC (c:Code)(e:Env)(s:St):β:=pop X fin ks (execL X c e s)
variable (base:Nat)(e:Env)(s:St)(H:List St)(P:List Pb)(l:List ROC)
theorem goC_nil:goC X back fin ks base [] e s H P=bif pbsOk X base H P then goN X fin ks e s else back:=by
 simp only[goC,ropsC]
 cases pbsOk X base H P <;> rfl
theorem goC_cons (d:Option Nat)(a:Option Nat)(w:Bool)(op:ROp)(c:Option (Nat×Nat)) :
  goC X back fin ks base ((⟨d,none,a,w,op⟩,c)::l) e s H P=bndC X back fin ks base (rop X base a e s op) d w c op l e H P:=by
 simp only[goC,ropsC,bndC,wantR,cond_true]
 cases rop X base a e s op with
 |none=>rfl
 |some x =>
  simp only
  cases (!w||noneC base x.2 l) <;> rfl
theorem goC_consG (d:Option Nat)(t:Nat)(b:Bool)(a:Option Nat)(w:Bool)(op:ROp)(c:Option (Nat×Nat)) :
  goC X back fin ks base ((⟨d,some (t,b),a,w,op⟩,c)::l) e s H P=bndC X back fin ks base (gateR X (gBool (Env.get e t) b) base a e s op) d w c op l e H P:=by
 simp only[goC,ropsC,bndC,gateR]
 have:wantR e (some (t,b))=gBool (Env.get e t) b:=rfl
 rw[this]
 cases (bif gBool (Env.get e t) b then rop X base a e s op else some (undef,s)) with
 |none=>rfl
 |some x =>
  simp only
  cases (!w||noneC base x.2 l) <;> rfl
theorem bndC_some0 (v:AV)(d:Option Nat)(op:ROp):bndC X back fin ks base (some (v,s)) d false none op l e H P=goC X back fin ks base l (setDst e d v) s H P:=(fun h=>h) rfl
theorem bndC_some0c (v:AV)(d:Option Nat)(lo hi:Nat)(op:ROp):bndC X back fin ks base (some (v,s)) d false (some (lo,hi)) op l e H P=goC X back fin ks base l (setDst e d v) s H (⟨lo,hi,e,op,v⟩::P):=(fun h=>h) rfl
theorem bndC_some1 (v:AV)(d:Option Nat)(op:ROp):bndC X back fin ks base (some (v,s)) d true none op l e H P=bif noneC base s l then goC X back fin ks base l (setDst e d v) s (H++[s]) P else back:=(fun h=>h) rfl
theorem noneC_nil:noneC base s []=true:=(fun h=>h) rfl
theorem noneC_cons0 (d:Option Nat)(g:Option (Nat×Bool))(w:Bool)(op:ROp)(c:Option (Nat×Nat)):noneC base s ((⟨d,g,none,w,op⟩,c)::l)=noneC base s l:=by
 simp[noneC,noneR]
theorem noneC_cons1 (i:Nat)(d:Option Nat)(g:Option (Nat×Bool))(w:Bool)(op:ROp)(c:Option (Nat×Nat)):noneC base s ((⟨d,g,some i,w,op⟩,c)::l)=((s.get (base+i)).isNone&&noneC base s l):=by
 simp[noneC,noneR]
theorem pbsOk_nil:pbsOk X base H []=true:=(fun h=>h) rfl
theorem pbsOk_cons (lo hi:Nat)(op:ROp)(v:AV):pbsOk X base H (⟨lo,hi,e,op,v⟩::P)=(pbL X base e op v ((H.take (hi+1)).drop lo)&&pbsOk X base H P):=(fun h=>h) rfl
theorem pbL_nil (op:ROp)(v:AV):pbL X base e op v []=true:=(fun h=>h) rfl
theorem pbL_cons (op:ROp)(v:AV)(L:List St):pbL X base e op v (s::L)=(pb1 v (rop X base none e s op)&&pbL X base e op v L):=(fun h=>h) rfl
def pbO (v:AV)(x:Option AV):Bool:=match x with
 |some u=>same u v
 |none=>false
theorem pb1_pure (v:AV)(x:Option AV):pb1 v (pureO x s)=pbO v x:=by cases x <;> rfl
theorem pbO_some (u v:AV):pbO v (some u)=same u v:=(fun h=>h) rfl
theorem pb_ld1 (v:AV)(x:Opd):pb1 v (rop X base none e s (.ld1 x))=pbO v (ld1 (evO e x) s):=pb1_pure s v _
theorem pb_ldn (v:AV)(n:Nat)(x:Opd):pb1 v (rop X base none e s (.ldn n x))=pbO v (ldn n (evO e x) s):=pb1_pure s v _
theorem pb_lenL (v:AV)(x:Opd):pb1 v (rop X base none e s (.lenL x))=pbO v (lenRL (evO e x)):=pb1_pure s v _
theorem pb_lenS (v:AV)(x:Opd):pb1 v (rop X base none e s (.lenS x))=pbO v (lenRS (evO e x)):=pb1_pure s v _
theorem pb_lenM (v:AV)(x:Opd):pb1 v (rop X base none e s (.lenM x))=pbO v (lenRM s (evO e x)):=pb1_pure s v _
theorem app_cons {α:Type}(x:α)(l m:List α):(x::l)++m=x::(l++m):=(fun h=>h) rfl
theorem app_nil {α:Type}(m:List α):([]:List α)++m=m:=(fun h=>h) rfl
theorem go_drc [Stat] {c:Code}{n:Nat}{l:List ROC}(h:rcDrc X c=some (n,l))(fin:Fl→β)(ks:List K)(e:Env)(s:St):go X fin ks (.raw c) e s =
  bif noneC s.next s l then goC X (backC X fin ks c e s) fin ks s.next l e { s with next:=s.next+n } [{ s with next:=s.next+n }] [] else backC X fin ks c e s:=by
 unfold rcDrc at h
 split at h
 ·rename_i id ops d
  split at h
  ·rename_i hc
   simp only[Bool.and_eq_true] at hc
   split at h
   ·rename_i l0 hl
    cases h
    have hz:noneC s.next s (l0.zip (csD X ops))=noneR s.next s l0:=by
     unfold noneC
     rw[List.map_fst_zip]
     rw[rcOps_length _ _ _ hl];simp[csD]
    rw[hz]
    cases hn:noneR s.next s l0 with
    |false=>rfl
    |true =>
     simp only[cond_true,goC]
     split
     ·rename_i e1 s1 h1
      have:=drc_spec hl hc.1.2 hc.2 hn h1
      simp only[go,den,goN]
      rw[execL_eq]
      simp only[stepA,hc.1.1,if_true,this]
     ·rfl
   ·cases h
  ·cases h
 ·cases h
end
@[congr] theorem bndC_congr {X:Cx} {β:Type} {back:β} {fin:Fl→β} {ks:List K} {base:Nat} {x x':Option (AV×St)} {d:Option Nat} {w:Bool} {c:Option (Nat×Nat)} {op:ROp} {l:List ROC} {e:Env} {H:List St} {P:List Pb} (h:x=x'):bndC X back fin ks base x d w c op l e H P=bndC X back fin ks base x' d w c op l e H P:=by rw[h]
attribute [go_sem ↓] goC_nil goC_cons goC_consG bndC_some0 bndC_some0c bndC_some1 noneC_nil noneC_cons0 noneC_cons1 pbsOk_nil pbsOk_cons pbL_nil pbL_cons pb_ld1 pb_ldn pb_lenL pb_lenS pb_lenM app_cons app_nil List.take_succ_cons List.take_zero List.drop_succ_cons List.drop_zero
attribute [go_sem] pbO_some same_refl
end Go.Am
set_option linter.all false
namespace Go.Am
open Go
variable [MaxLen]
set_option maxRecDepth 100000
set_option maxHeartbeats 8000000
/-- the parts of resolved code that are left as they are, in order -/
def raws : RC → List Code
  | .seq a b => raws a ++ raws b
  | .cond _ a b => raws a ++ raws b
  | .block _ b => raws b
  | .loop b => raws b
  | .raw c => [c]
  | _ => []
noncomputable def rawAt (f k : Nat) : Code := match U.fn f with
  | some fn => match fn.body with
    | some c => ((raws (rc U c))[k]?).getD .skip
    | none => .skip
  | none => .skip

end Go.Am
