/- A part of the proof of a statement of this seat: the machine on which the program is read, and what it computes; for every input. -/
import Derived.Test.YtikiipfbkfgmbaaGreatDoorS02
import Derived.Test.YtikiipfbkfgmbaaGreatDoorS03
import Derived.Test.YtikiipfbkfgmbaaGreatDoorS00
import Derived.Laws.BitsLemmas
set_option linter.unusedVariables false
namespace Go.Am
open Go

/-! # The data of the trigger layer, and how they stand as values of the machine -/

abbrev Str := List UInt8

inductive Cond where
  | mk (kind : Str) (a b mi ma : Int) (pat : Str) (nl : Bool) (kids : List Cond)

/-- a slice that nobody writes: nil or not -/
def encS (nl : Bool) (l : List AV) : AV := match nl, l with
  | true, [] => .nils
  | _, l => .fz l

mutual
def encC : Cond → AV
  | .mk k a b mi ma p nl kids => .agg [.str k, .int .i64 a, .int .i64 b, .int .i64 mi, .int .i64 ma, .str p, encS nl (encL kids)]
def encL : List Cond → List AV
  | [] => []
  | c :: l => encC c :: encL l
end
def Cond.kind : Cond → Str | .mk k _ _ _ _ _ _ _ => k
def Cond.a : Cond → Int | .mk _ a _ _ _ _ _ _ => a
def Cond.b : Cond → Int | .mk _ _ b _ _ _ _ _ => b
def Cond.mi : Cond → Int | .mk _ _ _ m _ _ _ _ => m
def Cond.ma : Cond → Int | .mk _ _ _ _ m _ _ _ => m
def Cond.pat : Cond → Str | .mk _ _ _ _ _ p _ _ => p
def Cond.nl : Cond → Bool | .mk _ _ _ _ _ _ n _ => n
def Cond.kids : Cond → List Cond | .mk _ _ _ _ _ _ _ l => l
def Cond.cells (c : Cond) : List AV := [.str c.kind, .int .i64 c.a, .int .i64 c.b, .int .i64 c.mi, .int .i64 c.ma, .str c.pat, encS c.nl (encL c.kids)]
structure Step where
  cond : Cond
  times : Int
  within : Int
def Step.cells (s : Step) : List AV := s.cond.cells ++ [.int .i64 s.times, .int .i64 s.within]
structure Prog where
  lines : Int
  nl : Bool
  steps : List Step
def ints (l : List Int) : List AV := l.map (.int .i64 ·)
def bools (l : List Bool) : List AV := l.map .bool

structure Auto where
  lines : Int
  nNl : Bool
  next : List (Bool × List Int)
  fNl : Bool
  fires : List (Bool × List Bool)
def encRow (r : Bool × List Int) : AV := encS r.1 (ints r.2)
def encFRow (r : Bool × List Bool) : AV := encS r.1 (bools r.2)
def encA (a : Auto) : AV := .agg [.int .i64 a.lines, encS a.nNl (a.next.map encRow), encS a.fNl (a.fires.map encFRow)]

/-! ### How such slices read -/
theorem encS_fz (l : List AV) : encS false l = .fz l := by cases l <;> rfl
theorem encS_cons (nl : Bool) (x : AV) (l : List AV) : encS nl (x :: l) = .fz (x :: l) := by cases nl <;> rfl
theorem still_encS (nl : Bool) (l : List AV) : still (encS nl l) = true := by
  cases nl <;> cases l <;> simp [encS, still]
theorem noAgg_encS (nl : Bool) (l : List AV) : noAgg (encS nl l) = true := by
  cases nl <;> cases l <;> simp [encS, noAgg]
theorem cells_encS (nl : Bool) (l : List AV) : (encS nl l).cells = [encS nl l] := by
  cases nl <;> cases l <;> simp [encS, AV.cells]
theorem lenL_encS (nl : Bool) (l : List AV) : lenRL (encS nl l) = some (.int .i64 l.length) := by
  cases nl <;> cases l <;> simp [encS, lenRL]
theorem frz_encS (X : Cx) (s : St) (d : Nat) (nl : Bool) (l : List AV) : frz X s (d + 1) (encS nl l) = some (encS nl l) := by
  cases nl <;> cases l <;> simp [encS, frz]
theorem ixa_encS (n : Nat) (nl : Bool) (l : List AV) (k : IntKind) (i : Int) (x : AV) (h0 : 0 ≤ i) (hx : l[i.toNat]? = some x) (hc : x.cells.length = n) (hn : n ≠ 0) : ixRA n (encS nl l) (.int k i) = some (.fp x.cells 0) := by
  have hl : l ≠ [] := by intro h; rw [h] at hx; simp at hx
  have : encS nl l = .fz l := by cases l with
    | nil => exact absurd rfl hl
    | cons y l => exact encS_cons ..
  rw [this, ixa_fz]
  simp [h0, hx, ixF, hc, hn]

theorem wrap_i64 {n : Int} (h0 : -2 ^ 63 ≤ n) (h1 : n < 2 ^ 63) : IntKind.i64.wrap n = n := by
  rw [IntKind.wrap_i64]
  omega
end Go.Am

set_option linter.all false
namespace Go.Am
open Go Go.Proofs
variable [MaxLen]
set_option maxRecDepth 100000
instance seatStat : Stat := ⟨fun m c => ∃ n, n ≤ m ∧ okC U n c = true ∧ noRF c = true, fun t => Nat.beq t 207⟩
theorem U_und (t : TypeId) : U.und t = Tryz.prog.underlying t := by unfold U; rfl
theorem U_inf (t : TypeId) : U.inf t = Tryz.prog.info? t := by unfold U; rfl
theorem U_ext (f : FuncId) : U.ext f = extU f := by unfold U; rfl
theorem U_pure (f : FuncId) : U.pure f = !keeps.contains f := by unfold U; rfl
theorem U_gbase (g : Nat) : U.gbase g = gbU g := by unfold U; rfl
theorem U_glob : U.glob = 8 := by unfold U; rfl
theorem U_fn (f : FuncId) : U.fn f = bif Nat.beq f 75 then none else Tryz.prog.funcs[f]? := by unfold U; rfl

/-- a function's body, resolved, and where its results stand -/
noncomputable def fnRC (f : FuncId) : Option (List ResultVar × RC) := match U.fn f with
  | some fn => match fn.body with
    | some c => some (fn.results.toList, rc U c)
    | none => none
  | none => none
theorem fnRC_some {f : FuncId} {rs : List ResultVar} {r : RC} (h : fnRC f = some (rs, r)) : ∃ fn c, U.fn f = some fn ∧ fn.body = some c ∧ fn.results.toList = rs ∧ rc U c = r := by
  unfold fnRC at h
  split at h
  · rename_i fn hf
    split at h
    · rename_i c hb
      cases h
      exact ⟨fn, c, hf, hb, rfl, rfl⟩
    · cases h
  · cases h
def isPure (f : FuncId) : Bool := !keeps.contains f && (extU f).isNone
def isKept (f : FuncId) : Bool := keeps.contains f && (extU f).isNone
theorem isPure_of {f : FuncId} (h : isPure f = true) : U.pure f = true ∧ U.ext f = none := by
  rw [isPure, Bool.and_eq_true, Option.isNone_iff_eq_none] at h
  rw [U_pure, U_ext]; exact h
theorem isKept_of {f : FuncId} (h : isKept f = true) : U.pure f = false ∧ U.ext f = none := by
  rw [isKept, Bool.and_eq_true, Option.isNone_iff_eq_none] at h
  rw [U_pure, U_ext, h.1]; exact ⟨rfl, h.2⟩

/-- a call in a state of its own, of values that nobody writes -/
theorem pure_go {f : FuncId} {rs : List ResultVar} {r : RC} (h : fnRC f = some (rs, r)) (hp : isPure f = true) {args : List AV} (hst : stills args = true) {v : AV}
    (hg : go U (finP U rs) [] r (bindArgs 0 args .nil) (ownSt U) = some v) : calV U f args = some v := by
  obtain ⟨fn, c, h1, h2, h3, h4⟩ := fnRC_some h
  obtain ⟨p1, p2⟩ := isPure_of hp
  exact calV_pure U p2 p1 h1 h2 h3 h4 hst hg
/-- a call in the state at hand -/
theorem kept_go {f : FuncId} {rs : List ResultVar} {r : RC} (h : fnRC f = some (rs, r)) (hp : isKept f = true) {args : List AV} {s : St} {x : AV × St}
    (hg : go U (finB U rs) [] r (bindArgs 0 args .nil) s = some x) : cal U f args s = some x := by
  obtain ⟨fn, c, h1, h2, h3, h4⟩ := fnRC_some h
  obtain ⟨p1, p2⟩ := isKept_of hp
  unfold cal callF
  rw [p2, p1]
  exact callB_go U h1 h2 h3 h4 hg
/-- with what stands in memory -/
theorem z_of {f : FuncId} (hp : isPure f = true) {args : List AV} (s : St) (hst : stills args = false) : callK U (calV U f args) f args s = calZ U f (mapO (frz U s 40) args) s :=
  cal_calZ U s (isPure_of hp).2 (isPure_of hp).1 hst
def gateZ (p : Bool) (x : Option (AV × St)) (s : St) : Option (AV × St) := bif p then x else some (undef, s)
theorem gateZ_some (p : Bool) (v : AV) (s : St) : gateZ p (some (v, s)) s = some (bif p then v else undef, s) := by cases p <;> rfl
theorem gateZ_true (x : Option (AV × St)) (s : St) : gateZ true x s = x := (fun h => h) rfl
theorem gateZ_false (x : Option (AV × St)) (s : St) : gateZ false x s = some (undef, s) := (fun h => h) rfl
theorem zg_of {f : FuncId} (hp : isPure f = true) {p : Bool} {args : List AV} (s : St) (hst : stills args = false) : gateC U p (calV U f args) f args s = gateZ p (calZ U f (mapO (frz U s 40) args) s) s := by
  unfold gateC gateZ
  rw [z_of hp s hst]
theorem flat_frz (s : St) : ∀ (d : Nat) (v v' : AV), frz U s d v = some v' → flat v' = true → v = v' := by
  intro d
  induction d with
  | zero => intro v v' h; simp [frz] at h
  | succ d ih =>
    intro v v' h hf
    have hl : ∀ (l l' : List AV), mapO (frz U s d) l = some l' → flats l' = true → l = l' := by
      intro l
      induction l with
      | nil => intro l' h _; simp only [mapO] at h; cases h; rfl
      | cons x l ihl =>
        intro l' h hf
        simp only [mapO] at h
        split at h
        · rename_i y r h1 h2
          cases h
          simp only [flats, Bool.and_eq_true] at hf
          rw [ih _ _ h1 hf.1, ihl _ h2 hf.2]
        · cases h
    cases v with
    | ptr b o =>
      rw [frz_ptr] at h
      unfold frzP at h
      split at h
      · simp only [fpK, Option.map_eq_some_iff] at h
        obtain ⟨_, _, rfl⟩ := h
        simp [flat] at hf
      · cases h
    | sl b o len cap esz =>
      rw [frz_sl] at h
      unfold frzS frzT fzK at h
      split at h
      · split at h
        · split at h
          · simp only [Option.map_eq_some_iff] at h
            obtain ⟨_, _, rfl⟩ := h
            simp [flat] at hf
          · cases h
        · cases h
      · cases h
    | map r =>
      simp only [frz] at h
      split at h
      · split at h
        · cases h; simp [flat] at hf
        · cases h
      · cases h
    | fn f x y =>
      simp only [frz] at h
      split at h
      · split at h
        · rename_i x' y' h1 h2
          cases h
          simp only [flat, Bool.and_eq_true] at hf
          rw [hl _ _ h1 hf.1.2, hl _ _ h2 hf.2]
        · cases h
      · cases h
    | iface t x =>
      simp only [frz] at h
      split at h
      · rename_i x' h1
        cases h
        simp only [flat] at hf
        rw [ih _ _ h1 hf]
      · cases h
    | agg cs =>
      simp only [frz] at h
      split at h
      · rename_i x' h1
        cases h
        simp only [flat] at hf
        rw [hl _ _ h1 hf]
      · cases h
    | tup cs =>
      simp only [frz] at h
      split at h
      · rename_i x' h1
        cases h
        simp only [flat] at hf
        rw [hl _ _ h1 hf]
      · cases h
    | _ => simp only [frz] at h; cases h; rfl
/-- the calls that the machine runs by itself -/
theorem v_of_q {f : FuncId} (hp : isPure f = true) {args : List AV} (hst : stills args = true) {v : AV} (h : callQ U (execL U) f args true = some v) : calV U f args = some v := by
  refine calV_of fun s => ?_
  obtain ⟨p1, p2⟩ := isPure_of hp
  unfold cal callF
  rw [p2]
  simp only [p1, if_true, callP, frzArgs, hst, h]
theorem und_2 : U.und 2 = some (.int .i64) := by kernel_rfl
theorem und_3 : U.und 3 = some (.int .i64) := by kernel_rfl
theorem und_5 : U.und 5 = some (.int .u8) := by kernel_rfl
theorem und_21 : U.und 21 = some (.int .i32) := by kernel_rfl
theorem und_26 : U.und 26 = some (.int .i64) := by kernel_rfl
theorem und_299 : U.und 299 = some (.int .u32) := by kernel_rfl
theorem und_301 : U.und 301 = some (.int .u64) := by kernel_rfl
theorem und_272 : U.und 272 = some (.int .u64) := by kernel_rfl
theorem ag_2 : isAggT U 2 = some false := by kernel_rfl
theorem sz_2 : size U 2 = some 1 := by kernel_rfl
theorem ag_3 : isAggT U 3 = some false := by kernel_rfl
theorem sz_3 : size U 3 = some 1 := by kernel_rfl
theorem ag_4 : isAggT U 4 = some false := by kernel_rfl
theorem sz_4 : size U 4 = some 1 := by kernel_rfl
theorem ag_5 : isAggT U 5 = some false := by kernel_rfl
theorem sz_5 : size U 5 = some 1 := by kernel_rfl
theorem ag_9 : isAggT U 9 = some false := by kernel_rfl
theorem sz_9 : size U 9 = some 1 := by kernel_rfl
theorem ag_21 : isAggT U 21 = some false := by kernel_rfl
theorem sz_21 : size U 21 = some 1 := by kernel_rfl
theorem ag_23 : isAggT U 23 = some false := by kernel_rfl
theorem sz_23 : size U 23 = some 1 := by kernel_rfl
theorem ag_25 : isAggT U 25 = some true := by kernel_rfl
theorem sz_25 : size U 25 = some 2 := by kernel_rfl
theorem ag_26 : isAggT U 26 = some false := by kernel_rfl
theorem sz_26 : size U 26 = some 1 := by kernel_rfl
theorem ag_29 : isAggT U 29 = some false := by kernel_rfl
theorem sz_29 : size U 29 = some 1 := by kernel_rfl
theorem ag_31 : isAggT U 31 = some true := by kernel_rfl
theorem sz_31 : size U 31 = some 2 := by kernel_rfl
theorem ag_37 : isAggT U 37 = some false := by kernel_rfl
theorem sz_37 : size U 37 = some 1 := by kernel_rfl
theorem ag_39 : isAggT U 39 = some true := by kernel_rfl
theorem sz_39 : size U 39 = some 7 := by kernel_rfl
theorem ag_40 : isAggT U 40 = some false := by kernel_rfl
theorem sz_40 : size U 40 = some 1 := by kernel_rfl
theorem ag_43 : isAggT U 43 = some false := by kernel_rfl
theorem sz_43 : size U 43 = some 1 := by kernel_rfl
theorem ag_46 : isAggT U 46 = some false := by kernel_rfl
theorem sz_46 : size U 46 = some 1 := by kernel_rfl
theorem ag_48 : isAggT U 48 = some true := by kernel_rfl
theorem sz_48 : size U 48 = some 7 := by kernel_rfl
theorem ag_66 : isAggT U 66 = some false := by kernel_rfl
theorem sz_66 : size U 66 = some 1 := by kernel_rfl
theorem ag_67 : isAggT U 67 = some false := by kernel_rfl
theorem sz_67 : size U 67 = some 1 := by kernel_rfl
theorem ag_69 : isAggT U 69 = some true := by kernel_rfl
theorem sz_69 : size U 69 = some 3 := by kernel_rfl
theorem ag_72 : isAggT U 72 = some true := by kernel_rfl
theorem sz_72 : size U 72 = some 3 := by kernel_rfl
theorem ag_90 : isAggT U 90 = some true := by kernel_rfl
theorem sz_90 : size U 90 = some 9 := by kernel_rfl
theorem ag_108 : isAggT U 108 = some false := by kernel_rfl
theorem sz_108 : size U 108 = some 1 := by kernel_rfl
theorem ag_116 : isAggT U 116 = some true := by kernel_rfl
theorem sz_116 : size U 116 = some 2 := by kernel_rfl
theorem ag_144 : isAggT U 144 = some true := by kernel_rfl
theorem sz_144 : size U 144 = some 9 := by kernel_rfl
theorem ag_152 : isAggT U 152 = some true := by kernel_rfl
theorem sz_152 : size U 152 = some 3 := by kernel_rfl
theorem ag_158 : isAggT U 158 = some true := by kernel_rfl
theorem sz_158 : size U 158 = some 3 := by kernel_rfl
theorem ag_176 : isAggT U 176 = some true := by kernel_rfl
theorem sz_176 : size U 176 = some 5 := by kernel_rfl
theorem ag_183 : isAggT U 183 = some false := by kernel_rfl
theorem sz_183 : size U 183 = some 1 := by kernel_rfl
theorem ag_186 : isAggT U 186 = some true := by kernel_rfl
theorem sz_186 : size U 186 = some 2 := by kernel_rfl
theorem ag_205 : isAggT U 205 = some false := by kernel_rfl
theorem sz_205 : size U 205 = some 1 := by kernel_rfl
theorem ag_207 : isAggT U 207 = some true := by kernel_rfl
theorem sz_207 : size U 207 = some 2 := by kernel_rfl
theorem ag_236 : isAggT U 236 = some true := by kernel_rfl
theorem sz_236 : size U 236 = some 9 := by kernel_rfl
theorem ag_272 : isAggT U 272 = some false := by kernel_rfl
theorem sz_272 : size U 272 = some 1 := by kernel_rfl
theorem ag_299 : isAggT U 299 = some false := by kernel_rfl
theorem sz_299 : size U 299 = some 1 := by kernel_rfl
theorem ag_301 : isAggT U 301 = some false := by kernel_rfl
theorem sz_301 : size U 301 = some 1 := by kernel_rfl
attribute [go_sem ↓] gateZ_true gateZ_false
attribute [go_sem] gateZ_some Int.reduceBEq Int.reduceBNe Int.reduceAdd U_glob und_2 und_3 und_5 und_21 und_26 und_299 und_301 und_272 ag_2 sz_2 ag_3 sz_3 ag_4 sz_4 ag_5 sz_5 ag_9 sz_9 ag_21 sz_21 ag_23 sz_23 ag_25 sz_25 ag_26 sz_26 ag_29 sz_29 ag_31 sz_31 ag_37 sz_37 ag_39 sz_39 ag_40 sz_40 ag_43 sz_43 ag_46 sz_46 ag_48 sz_48 ag_66 sz_66 ag_67 sz_67 ag_69 sz_69 ag_72 sz_72 ag_90 sz_90 ag_108 sz_108 ag_116 sz_116 ag_144 sz_144 ag_152 sz_152 ag_158 sz_158 ag_176 sz_176 ag_183 sz_183 ag_186 sz_186 ag_205 sz_205 ag_207 sz_207 ag_236 sz_236 ag_272 sz_272 ag_299 sz_299 ag_301 sz_301
end Go.Am

set_option linter.unusedSimpArgs false
set_option linter.unusedVariables false
set_option linter.unusedSectionVars false
namespace Go.Am
open Go

/-! # Drawn regions with reads whose place among the writes is open: such a read is looked at in each state that it may find -/

/-- a read to be looked at again: in the states lo to hi, with its value -/
structure Pb where
  lo : Nat
  hi : Nat
  e : Env
  op : ROp
  v : AV

def pb1 (v : AV) (x : Option (AV × St)) : Bool := match x with
  | some (u, _) => same u v
  | none => false

section
variable (X : Cx)
noncomputable def pbL (base : Nat) (e : Env) (op : ROp) (v : AV) : List St → Bool
  | [] => true
  | s :: l => pb1 v (rop X base none e s op) && pbL base e op v l
noncomputable def pbsOk (base : Nat) (H : List St) : List Pb → Bool
  | [] => true
  | p :: P => pbL X base p.e p.op p.v ((H.take (p.hi + 1)).drop p.lo) && pbsOk base H P

abbrev ROC := RO × Option (Nat × Nat)
def noneC (base : Nat) (s : St) (l : List ROC) : Bool := noneR base s (l.map Prod.fst)
def addP (c : Option (Nat × Nat)) (e : Env) (op : ROp) (v : AV) (P : List Pb) : List Pb := match c with
  | some (lo, hi) => ⟨lo, hi, e, op, v⟩ :: P
  | none => P

noncomputable def ropsC (base : Nat) : List ROC → Env → St → List St → List Pb → Option (Env × St)
  | [], e, s, H, P => bif pbsOk X base H P then some (e, s) else none
  | (o, c) :: l, e, s, H, P => match (bif wantR e o.g then rop X base o.at_ e s o.op else some (undef, s)) with
    | some (v, s') => bif !o.w || noneC base s' l then ropsC base l (setDst e o.d v) s' (bif o.w then H ++ [s'] else H) (addP c e o.op v P) else none
    | none => none

def calmI (ops : Array Oper) (i : Nat) : Bool :=
  (aIdx X 0 ops.toList).all (fun k => !decide (k < i) || bef ops k i) && (wIdx X ops 0 ops.toList).all (fun k => bef ops k i || bef ops i k)
def opC (ops : Array Oper) (i : Nat) : Option (Nat × Nat) := match ops[i]? with
  | some o => if ((cls X o.op).isR || (match cls X o.op with | .q => true | _ => false)) && !calmI X ops i then
      some (countL (fun j => bef ops j i) (wIdx X ops 0 ops.toList), countL (fun j => !bef ops i j) (wIdx X ops 0 ops.toList)) else none
  | none => none
def csD (ops : Array Oper) : List (Option (Nat × Nat)) := (List.range ops.size).map (opC X ops)
def openD (ops : Array Oper) : Bool :=
  !lateReg X ops && (List.range ops.size).all fun i => match ops[i]? with
    | some o => !((cls X o.op).isR || (match cls X o.op with | .q => true | _ => false)) || calmI X ops i ||
      ((cls X o.op).isR && (o.guard.isNone && (aIdx X 0 ops.toList).all fun k => !bef ops k i))
    | none => true

def rcDrc : Code → Option (Nat × List ROC)
  | .region _ ops d => if d && openD X ops && okD X ops then match rcOps X ops true 0 ops.toList with
      | some l => some (ops.size, l.zip (csD X ops))
      | none => none
      else none
  | _ => none
end

section
variable [Stat]
variable {X : Cx} {ops : Array Oper} {base : Nat}

theorem rcOps_length {b : Bool} : ∀ (l : List Oper) (i : Nat) (r : List RO), rcOps X ops b i l = some r → r.length = l.length
  | [], i, r, h => by simp only [rcOps] at h; cases h; rfl
  | o :: l, i, r, h => by
    simp only [rcOps] at h
    split at h
    · rename_i g r' h1 h2
      cases h
      simp [rcOps_length l (i + 1) r' h2]
    · cases h

theorem ropsC_D {r : Env × St} : ∀ (l : List ROC) (e : Env) (s : St) (H : List St) (P : List Pb), ropsC X base l e s H P = some r → ropsD X base (l.map Prod.fst) e s = some r
  | [], e, s, H, P, h => by
    simp only [ropsC] at h
    cases hb : pbsOk X base H P with
    | true => rw [hb] at h; exact h
    | false => rw [hb] at h; cases h
  | (o, c) :: l, e, s, H, P, h => by
    simp only [ropsC] at h
    simp only [List.map_cons, ropsD]
    split at h
    · rename_i v s' hv
      rw [hv]
      simp only
      cases hb : (!o.w || noneC base s' l) with
      | false => rw [hb] at h; cases h
      | true =>
        rw [hb] at h
        rw [if_pos (by exact hb)]
        exact ropsC_D l _ _ _ _ h
    · cases h

/-- the resolved step is the step -/
theorem roStep {i : Nat} {o : Oper} {g : Option (Nat × Bool)} {e : Env} {s s1 : St} {v : AV} (h1 : rcG ops o.guard = some g)
    (hr : (bif wantR e g then rop X base (if true && (cls X o.op).isA then some i else none) e s (rcOp X o.op) else some (undef, s)) = some (v, s1)) :
    stepD X (execL X) ops base i o e s = some (setDst e o.dst v, s1) := by
  have hwant := rcG_spec h1 e
  cases hw : wantR e g with
  | false =>
    rw [hw] at hr hwant
    simp only [cond_false] at hr
    cases hr
    simp only [stepD, ← hwant, Bool.false_eq_true, if_false]
  | true =>
    rw [hw] at hr hwant
    simp only [cond_true, Bool.true_and] at hr
    simp only [stepD, ← hwant, if_true]
    by_cases ha : (cls X o.op).isA = true
    · rw [if_pos ha] at hr
      obtain ⟨s2, e1, e2⟩ := rop_at (isA_iff.1 ha) hr
      rw [isA_iff.1 ha]
      simp only [e1, e2]
    · rw [if_neg ha] at hr
      have := rop_spec hr
      cases hk : cls X o.op <;> rw [hk] at ha <;> first | exact absurd rfl ha | simp only [this]

theorem addA_no {i m : Nat} {tr : List (Env × St)} {s : St} : ∀ (l : List Nat), (∀ k ∈ l, bef ops k i = false) → addA ops base i m tr l s = s
  | [], _ => rfl
  | j :: l, h => by
    unfold addA
    rw [if_neg (by simp [h j (List.mem_cons_self ..)])]
    exact addA_no l fun k hk => h k (List.mem_cons_of_mem _ hk)

theorem pbsOk_mem {H : List St} : ∀ (P : List Pb), pbsOk X base H P = true → ∀ p ∈ P, pbL X base p.e p.op p.v ((H.take (p.hi + 1)).drop p.lo) = true
  | [], _, p, hp => by simp at hp
  | q :: P, h, p, hp => by
    simp only [pbsOk, Bool.and_eq_true] at h
    rcases List.mem_cons.1 hp with rfl | hp
    · exact h.1
    · exact pbsOk_mem P h.2 p hp

theorem pbL_mem {e : Env} {op : ROp} {v : AV} : ∀ (l : List St), pbL X base e op v l = true → ∀ s ∈ l, pb1 v (rop X base none e s op) = true
  | [], _, s, hs => by simp at hs
  | x :: l, h, s, hs => by
    simp only [pbL, Bool.and_eq_true] at h
    rcases List.mem_cons.1 hs with rfl | hs
    · exact h.1
    · exact pbL_mem l h.2 s hs

theorem probes (hlr : lateReg X ops = false) : ∀ (l : List Oper) (i : Nat) (l' : List ROC) (e : Env) (s : St) (H : List St) (P : List Pb) (r : Env × St) (tr : List (Env × St)),
    rcOps X ops true i l = some (l'.map Prod.fst) → ropsC X base l' e s H P = some r → goD X (execL X) ops base i l e s = some tr →
    ∃ P', pbsOk X base (H ++ (wIdx X ops i l).map (fun j => trS tr (j + 1 - i))) P' = true ∧ (∀ p ∈ P, p ∈ P') ∧
      ∀ (k : Nat) o q lo hi, l[k]? = some o → l'[k]? = some (q, some (lo, hi)) → o.guard = none → cls X o.op = .r →
        ∃ v, opA X (execL X) (trE tr k) o.op (trS tr k) = some (v, trS tr (k + 1)) ∧ (⟨lo, hi, trE tr k, rcOp X o.op, v⟩ : Pb) ∈ P'
  | [], i, l', e, s, H, P, r, tr, h1, h2, h3 => by
    have hl' : l' = [] := by
      simp only [rcOps] at h1
      cases l' with
      | nil => rfl
      | cons x y => simp at h1
    subst hl'
    simp only [ropsC] at h2
    refine ⟨P, ?_, fun p hp => hp, fun k o q lo hi hk => by simp at hk⟩
    simp only [wIdx, List.map_nil, List.append_nil]
    cases hb : pbsOk X base H P with
    | true => rfl
    | false => rw [hb] at h2; cases h2
  | o :: l, i, l', e, s, H, P, r, tr, h1, h2, h3 => by
    simp only [rcOps] at h1
    split at h1
    · rename_i g r' e1 e2
      cases l' with
      | nil => simp at h1
      | cons x l2 =>
        obtain ⟨ro, c⟩ := x
        simp only [List.map_cons, Option.some.injEq, List.cons.injEq] at h1
        obtain ⟨rfl, rfl⟩ := h1
        simp only [ropsC] at h2
        split at h2
        · rename_i v s1 hv
          have hst := roStep e1 hv
          simp only [goD, hst] at h3
          split at h3
          · rename_i tr' g1
            cases h3
            cases hb : (!(true && (cls X o.op).isW) || noneC base s1 l2) with
            | false => rw [hb] at h2; cases h2
            | true =>
              rw [hb] at h2
              simp only [cond_true] at h2
              obtain ⟨P', q1, q2, q3⟩ := probes hlr l (i + 1) l2 _ s1 _ _ r tr' e2 h2 g1
              obtain ⟨k1, k2, _⟩ := goD_spec _ _ _ _ _ g1
              have hts : ∀ n, trS ((e, s) :: tr') (n + 1) = trS tr' n := fun n => by simp [trS]
              have hte : ∀ n, trE ((e, s) :: tr') (n + 1) = trE tr' n := fun n => by simp [trE]
              have hs1 : trS tr' 0 = s1 := by simp [trS, k2]
              have hmap : (wIdx X ops (i + 1) l).map (fun j => trS ((e, s) :: tr') (j + 1 - i)) = (wIdx X ops (i + 1) l).map (fun j => trS tr' (j + 1 - (i + 1))) := by
                refine List.map_congr_left fun j hj => ?_
                obtain ⟨k, _, _, hjk, _⟩ := (wIdx_mem l (i + 1) j).1 hj
                rw [show j + 1 - i = (j + 1 - (i + 1)) + 1 by omega, hts]
              refine ⟨P', ?_, fun p hp => q2 p (by unfold addP; split <;> simp [hp]), fun k o' q lo hi hk1 hk2 hg hc => ?_⟩
              · have hlt : late X ops i = false := by simp [late, hlr]
                simp only [wIdx, hlt, Bool.not_false, Bool.and_true]
                cases hw : (cls X o.op).isW with
                | true =>
                  rw [hw] at q1
                  simp only [if_true, List.map_cons]
                  rw [hmap, show i + 1 - i = 0 + 1 by omega, hts, hs1]
                  simpa using q1
                | false =>
                  rw [hw] at q1
                  simp only [Bool.false_eq_true, if_false]
                  rw [hmap]
                  simpa using q1
              · cases k with
                | zero =>
                  simp at hk1 hk2
                  obtain ⟨_, rfl⟩ := hk2
                  subst hk1
                  have hgn : g = none := by rw [hg] at e1; simp [rcG] at e1; exact e1.symm
                  subst hgn
                  simp only [wantR, cond_true, hc, Cls.isA, Bool.and_false, Bool.false_eq_true, if_false] at hv
                  have := rop_spec hv
                  refine ⟨v, ?_, ?_⟩
                  · rw [hts, hs1]; exact this
                  · exact q2 _ (by simp [addP, trE])
                | succ k =>
                  obtain ⟨v', w1, w2⟩ := q3 k o' q lo hi (by simpa using hk1) (by simpa using hk2) hg hc
                  refine ⟨v', ?_, ?_⟩
                  · rw [hte, hts, hts]; exact w1
                  · rw [hte]; exact w2
          · cases h3
        · cases h2
    · cases h1

theorem drc_spec {l : List RO} {e : Env} {s : St} {r : Env × St} (hrc : rcOps X ops true 0 ops.toList = some l) (hopen : openD X ops = true) (hokd : okD X ops = true) (hn : noneR s.next s l = true)
    (hrC : ropsC X s.next (l.zip (csD X ops)) e { s with next := s.next + ops.size } [{ s with next := s.next + ops.size }] [] = some r) : drawA X (execL X) ops e s = some r := by
  have hok := okD_ok hokd
  have hlen : l.length = ops.size := by rw [rcOps_length _ _ _ hrc]; simp
  have hz1 : (l.zip (csD X ops)).map Prod.fst = l := by rw [List.map_fst_zip]; rw [hlen]; simp [csD]
  have hr : ropsD X s.next l e { s with next := s.next + ops.size } = some r := by
    have := ropsC_D _ _ _ _ _ hrC
    rw [hz1] at this; exact this
  unfold openD at hopen
  simp only [Bool.and_eq_true, Bool.not_eq_true', List.all_eq_true, List.mem_range] at hopen
  obtain ⟨hlr, hall⟩ := hopen
  obtain ⟨tr, g1, g2, g3⟩ := ropsD_go _ _ _ _ _ hrc hr
  obtain ⟨P', hP1, _, hP2⟩ := probes hlr ops.toList 0 (l.zip (csD X ops)) e _ _ [] r tr (by rw [hz1]; exact hrc) hrC g1
  obtain ⟨k1, k2, k3⟩ := goD_spec _ _ _ _ _ g1
  have k1 : tr.length = ops.size + 1 := by simpa using k1
  have ht : Tr0 X (execL X) ops s.next (trE tr) (trS tr) := ⟨fun i o ho => by
    have := k3 i o (by simpa using ho)
    simpa using this⟩
  have hS0 : trS tr 0 = { s with next := s.next + ops.size } := by simp [trS, k2]
  have hlate : ∀ i, late X ops i = false := fun i => by simp [late, hlr]
  have wmem : ∀ j, j ∈ wIdx X ops 0 ops.toList ↔ ∃ o, ops[j]? = some o ∧ cls X o.op = .w := by
    intro j
    rw [wIdx_mem]
    constructor
    · rintro ⟨k, o, h1, rfl, h3⟩
      simp only [Bool.and_eq_true] at h3
      exact ⟨o, by simpa using h1, isW_iff.1 h3.1⟩
    · rintro ⟨o, h1, h3⟩
      exact ⟨j, o, by simpa using h1, by omega, by simp [isW_iff.2 h3, hlate]⟩
  have amem : ∀ j, kA X ops j → j ∈ aIdx X 0 ops.toList := by
    have : ∀ (l : List Oper) (i k : Nat) o, l[k]? = some o → cls X o.op = .a → i + k ∈ aIdx X i l := by
      intro l
      induction l with
      | nil => intro i k o h; simp at h
      | cons x l ih =>
        intro i k o h hc
        unfold aIdx
        cases k with
        | zero => simp at h; subst h; rw [if_pos (isA_iff.2 hc)]; exact List.mem_cons_self ..
        | succ k =>
          have := ih (i + 1) k o (by simpa using h) hc
          rw [show i + (k + 1) = i + 1 + k by omega]
          split
          · exact List.mem_cons_of_mem _ this
          · exact this
    rintro j ⟨o, ho, hc⟩
    have := this ops.toList 0 j o (by simpa using ho) hc
    simpa using this
  have hsts := statesD_ok (tr := tr) (wIdx X ops 0 ops.toList) fun j hj => by
    obtain ⟨o, ho, _⟩ := (wmem j).1 hj
    have := (Array.getElem?_eq_some_iff.1 ho).1
    omega
  unfold drawA
  rw [g1]
  simp only [hsts]
  -- no block stands where one is to be made
  have hnoneM : ∀ m, m = 0 ∨ (∃ j, m = j + 1 ∧ j ∈ wIdx X ops 0 ops.toList) → ∀ i, m ≤ i → kA X ops i → (trS tr m).get (s.next + i) = none := by
    rintro m (rfl | ⟨j, rfl, hj⟩) i hi ⟨o, ho, hc⟩
    · rw [hS0]
      have := noneR_start _ _ _ hrc hn i o (by simpa using ho) (isA_iff.2 hc)
      rw [Nat.zero_add] at this
      exact this
    · obtain ⟨oj, hoj, hcj⟩ := (wmem j).1 hj
      have := g3 j oj (by simpa using hoj) (isW_iff.2 hcj) i (by omega) o (by simpa using ho) (isA_iff.2 hc)
      simpa using this
  have hss : ∀ m s1, (m, s1) ∈ (0, ({ s with next := s.next + ops.size } : St)) :: ((wIdx X ops 0 ops.toList).map fun j => (j + 1, trS tr (j + 1))) → (m = 0 ∨ ∃ j, m = j + 1 ∧ j ∈ wIdx X ops 0 ops.toList) ∧ s1 = trS tr m := by
    intro m s1 hm
    rcases List.mem_cons.1 hm with e | hm
    · cases e; exact ⟨.inl rfl, hS0.symm⟩
    · obtain ⟨j, hj, e⟩ := List.mem_map.1 hm
      cases e
      exact ⟨.inr ⟨j, rfl, hj⟩, rfl⟩
  have hnA : noneAll X ops s.next ((0, ({ s with next := s.next + ops.size } : St)) :: ((wIdx X ops 0 ops.toList).map fun j => (j + 1, trS tr (j + 1)))) = true := noneAll_of _ fun m s1 hm i hi hk => by
    obtain ⟨h1, rfl⟩ := hss m s1 hm
    exact hnoneM m h1 i hi hk
  have hchk : checkR X (execL X) ops s.next (wIdx X ops 0 ops.toList) (aIdx X 0 ops.toList) ((0, ({ s with next := s.next + ops.size } : St)) :: ((wIdx X ops 0 ops.toList).map fun j => (j + 1, trS tr (j + 1)))) tr 0 ops.toList tr = true := by
    refine checkR_of _ _ _ fun i o es ho htr hw => ?_
    have ho' : ops[i]? = some o := by simpa using ho
    have hi : i < ops.size := (Array.getElem?_eq_some_iff.1 ho').1
    have hes : es = (trE tr i, trS tr i) := by simp [trE, trS, htr]
    subst hes
    simp only at hw
    rw [Nat.zero_add]
    -- the step
    have hop : cls X o.op ≠ .a → ∃ v, opA X (execL X) (trE tr i) o.op (trS tr i) = some (v, trS tr (i + 1)) := fun hne => by
      rcases stepD_cases (ht.step i o ho') with ⟨h1, _⟩ | ⟨_, v, _, ⟨hc, _⟩ | ⟨_, h3⟩⟩
      · rw [hw] at h1; cases h1
      · exact absurd (isA_iff.1 hc) hne
      · exact ⟨v, h3⟩
    -- the one state
    have hone : (cls X o.op = .r ∨ cls X o.op = .q) → calmI X ops i = true → ∃ m, rangeR ops (wIdx X ops 0 ops.toList) ((0, ({ s with next := s.next + ops.size } : St)) :: ((wIdx X ops 0 ops.toList).map fun j => (j + 1, trS tr (j + 1)))) i = [(m, trS tr m)] ∧
        addA ops s.next i m tr (aIdx X 0 ops.toList) (trS tr m) = trS tr i := by
      intro hk hst'
      unfold calmI at hst'
      rw [Bool.and_eq_true] at hst'
      obtain ⟨ha, hwb⟩ := hst'
      rw [List.all_eq_true] at ha hwb
      have hab : ∀ k, k < i → kA X ops k → bef ops k i = true := fun k hki hka => by
        have := ha k (amem k hka)
        simpa [hki] using this
      have hbw : ∀ k ∈ wIdx X ops 0 ops.toList, (bef ops k i = true ↔ k < i) ∧ (bef ops i k = true ↔ i < k) := by
        intro k hkm
        have := hwb k hkm
        simp only [Bool.or_eq_true] at this
        rcases this with h1 | h1
        · have := hok.bef_lt i k h1
          refine ⟨⟨fun _ => this, fun _ => h1⟩, ⟨fun h2 => ?_, fun h2 => by omega⟩⟩
          have := hok.bef_lt k i h2; omega
        · have := hok.bef_lt k i h1
          refine ⟨⟨fun h2 => ?_, fun h2 => by omega⟩, ⟨fun _ => this, fun _ => h1⟩⟩
          have := hok.bef_lt i k h2; omega
      have hne : ∀ k ∈ wIdx X ops 0 ops.toList, k ≠ i := fun k hkm e => by
        obtain ⟨o2, ho2, hc2⟩ := (wmem k).1 hkm
        rw [e, ho'] at ho2; cases ho2
        rcases hk with hk | hk <;> rw [hk] at hc2 <;> cases hc2
      have hcnt : countL (fun j => !bef ops i j) (wIdx X ops 0 ops.toList) = countL (fun j => bef ops j i) (wIdx X ops 0 ops.toList) := by
        refine Nat.le_antisymm (countL_mono _ fun x hx h => ?_) (countL_mono _ fun x hx h => ?_)
        · have h1 : bef ops i x = false := by simpa using h
          refine ((hbw x hx).1).2 (Nat.lt_of_not_le fun hle => ?_)
          have := ((hbw x hx).2).2 (by have := hne x hx; omega)
          rw [h1] at this; cases this
        · have h1 := ((hbw x hx).1).1 h
          simp only [Bool.not_eq_true']
          cases hb : bef ops i x with
          | false => rfl
          | true => have := ((hbw x hx).2).1 hb; omega
      unfold rangeR
      rw [hcnt]
      -- how many stand ahead
      generalize hq : countL (fun j => bef ops j i) (wIdx X ops 0 ops.toList) = q
      have hsort := List.pairwise_iff_getElem.1 (wIdx_sorted (X := X) (ops := ops) ops.toList 0)
      have hql : q ≤ (wIdx X ops 0 ops.toList).length := by
        rw [← hq]
        generalize wIdx X ops 0 ops.toList = L
        induction L with
        | nil => exact Nat.le_refl _
        | cons x L ih => simp only [countL, List.length_cons]; split <;> omega
      -- the first q are those ahead of i
      have hfirst : ∀ n (hn : n < (wIdx X ops 0 ops.toList).length), (n < q ↔ (wIdx X ops 0 ops.toList)[n] < i) := by
        -- the point where they part
        obtain ⟨p, hp1, hp2, hp3⟩ : ∃ p, p ≤ (wIdx X ops 0 ops.toList).length ∧ (∀ n (hn : n < (wIdx X ops 0 ops.toList).length), n < p → (wIdx X ops 0 ops.toList)[n] < i) ∧ (∀ n (hn : n < (wIdx X ops 0 ops.toList).length), p ≤ n → ¬ (wIdx X ops 0 ops.toList)[n] < i) := by
          rcases last_of (fun n => ∃ hn : n < (wIdx X ops 0 ops.toList).length, (wIdx X ops 0 ops.toList)[n] < i) (wIdx X ops 0 ops.toList).length with h | ⟨n0, h1, ⟨h2, h3⟩, h4⟩
          · exact ⟨0, Nat.zero_le _, fun n _ hn => by omega, fun n hn _ hlt => h n hn ⟨hn, hlt⟩⟩
          · refine ⟨n0 + 1, h1, fun n hn hlt => ?_, fun n hn hle hlt => h4 n (by omega) hn ⟨hn, hlt⟩⟩
            by_cases e : n = n0
            · subst e; exact h3
            · have := hsort n n0 hn h2 (by omega); omega
        have hpq : p = q := by
          rw [← hq]
          refine (countL_split _ p hp1 (fun x hx => ?_) (fun x hx => ?_)).symm
          · obtain ⟨n, hn, rfl⟩ := List.mem_iff_getElem.1 hx
            rw [List.getElem_take]
            have hn' : n < p ∧ n < (wIdx X ops 0 ops.toList).length := by rw [List.length_take] at hn; omega
            exact ((hbw _ (List.getElem_mem hn'.2)).1).2 (hp2 n hn'.2 hn'.1)
          · obtain ⟨n, hn, rfl⟩ := List.mem_iff_getElem.1 hx
            rw [List.getElem_drop]
            rw [List.length_drop] at hn
            have := hp3 (p + n) (by omega) (by omega)
            cases hb : bef ops (wIdx X ops 0 ops.toList)[p + n] i with
            | false => rfl
            | true => exact absurd (((hbw _ (List.getElem_mem (by omega))).1).1 hb) this
        subst hpq
        exact fun n hn => ⟨hp2 n hn, fun hlt => Nat.lt_of_not_le fun hle => hp3 n hn hle hlt⟩
      have fin : ∀ m, (m = 0 ∨ ∃ j, m = j + 1 ∧ j ∈ wIdx X ops 0 ops.toList) → m ≤ i → (∀ k ∈ wIdx X ops 0 ops.toList, k < i → k < m) →
          addA ops s.next i m tr (aIdx X 0 ops.toList) (trS tr m) = trS tr i := fun m hm hmi hwm =>
        addA_here ht k1 hok hi hmi (fun k ok h1 h2 hok' hc => by
          have := hwm k ((wmem k).2 ⟨ok, hok', hc⟩) h2; omega) hab (fun k h1 h2 => hnoneM m hm k h1 h2)
      cases q with
      | zero =>
        refine ⟨0, by simp [hS0], fin 0 (.inl rfl) (Nat.zero_le _) fun k hkm hki => ?_⟩
        obtain ⟨n, hn, rfl⟩ := List.mem_iff_getElem.1 hkm
        have := (hfirst n hn).2 hki; omega
      | succ q =>
        have hqn : q < (wIdx X ops 0 ops.toList).length := by omega
        have hqi := (hfirst q hqn).1 (by omega)
        refine ⟨(wIdx X ops 0 ops.toList)[q] + 1, ?_, fin _ (.inr ⟨_, rfl, List.getElem_mem _⟩) (by omega) fun k hkm hki => ?_⟩
        · rw [List.drop_take]
          rw [show q + 1 + 1 - (q + 1) = 1 by omega, List.drop_succ_cons, List.drop_eq_getElem_cons (by simpa using hqn)]
          simp
        · obtain ⟨n, hn, rfl⟩ := List.mem_iff_getElem.1 hkm
          have hnq := (hfirst n hn).2 hki
          by_cases e : n = q
          · subst e; omega
          · have := hsort n q hn hqn (by omega); omega
    have hcase := hall i hi
    rw [ho'] at hcase
    simp only at hcase
    refine ⟨fun hk => ?_, fun hk => ?_⟩
    · cases hcm : calmI X ops i with
      | true =>
        obtain ⟨v, hv⟩ := hop (by rw [hk]; simp)
        obtain ⟨m, hm1, hm2⟩ := hone (.inl hk) hcm
        refine ⟨v, _, hv, ?_⟩
        rw [hm1]
        simp only [readsSame, hm2, hv, same_refl, Bool.and_self]
      | false =>
        rw [hk, hcm] at hcase
        simp only [Cls.isR, Bool.true_or, Bool.not_true, Bool.false_or, Bool.true_and, Bool.and_eq_true, Option.isNone_iff_eq_none, List.all_eq_true, Bool.not_eq_true'] at hcase
        obtain ⟨hgn, hno⟩ := hcase
        have hcs : (l.zip (csD X ops))[i]? = some ((l[i]'(by omega)), some (countL (fun j => bef ops j i) (wIdx X ops 0 ops.toList), countL (fun j => !bef ops i j) (wIdx X ops 0 ops.toList))) := by
          rw [List.getElem?_zip_eq_some]
          refine ⟨by simp [List.getElem?_eq_getElem (show i < l.length by omega)], ?_⟩
          simp only [csD, List.getElem?_map, List.getElem?_range hi, Option.map_some, opC, ho', hk, hcm, Cls.isR]
          rfl
        obtain ⟨v, hv, hmem⟩ := hP2 i o _ _ _ (by simpa using ho') hcs hgn hk
        refine ⟨v, _, hv, ?_⟩
        have hpl := pbsOk_mem _ hP1 _ hmem
        simp only at hpl
        -- the states
        have hrng : ∀ x ∈ rangeR ops (wIdx X ops 0 ops.toList) ((0, ({ s with next := s.next + ops.size } : St)) :: ((wIdx X ops 0 ops.toList).map fun j => (j + 1, trS tr (j + 1)))) i, pb1 v (rop X s.next none (trE tr i) x.2 (rcOp X o.op)) = true := by
          intro x hx
          refine pbL_mem _ hpl x.2 ?_
          have : (([{ s with next := s.next + ops.size }] : List St) ++ (wIdx X ops 0 ops.toList).map (fun j => trS tr (j + 1 - 0))) = ((0, ({ s with next := s.next + ops.size } : St)) :: ((wIdx X ops 0 ops.toList).map fun j => (j + 1, trS tr (j + 1)))).map Prod.snd := by
            simp [Function.comp_def]
          rw [this, ← List.map_take, ← List.map_drop]
          exact List.mem_map_of_mem hx
        generalize rangeR ops (wIdx X ops 0 ops.toList) ((0, ({ s with next := s.next + ops.size } : St)) :: ((wIdx X ops 0 ops.toList).map fun j => (j + 1, trS tr (j + 1)))) i = L at hrng
        induction L with
        | nil => rfl
        | cons x L ih =>
          obtain ⟨m, s1⟩ := x
          have h0 := hrng (m, s1) (List.mem_cons_self ..)
          simp only [readsSame]
          rw [addA_no _ hno]
          unfold pb1 at h0
          split at h0
          · rename_i u s2 hu
            simp only at hu
            simp only [rop_spec hu, h0, Bool.true_and]
            exact ih fun x hx => hrng x (List.mem_cons_of_mem _ hx)
          · cases h0
    · cases hcm : calmI X ops i with
      | true =>
        obtain ⟨v, hv⟩ := hop (by rw [hk]; simp)
        obtain ⟨m, hm1, hm2⟩ := hone (.inr hk) hcm
        obtain ⟨_, c, vs, us, e1, e2, e3, _⟩ := cls_c hk hv
        refine ⟨c, vs, us, e1, e2, e3, ?_⟩
        rw [hm1]
        simp only [argsSame, hm2, e3, sames_refl, Bool.and_self]
      | false =>
        rw [hk, hcm] at hcase
        simp [Cls.isR] at hcase
  rw [lateIds_nil hlr]
  simp only [lateOk, hchk, hnA, Bool.and_self, if_true]
  exact g2


end

/-! ### Read by simp -/

section
variable (X : Cx) {β : Type} (back : β) (fin : Fl → β) (ks : List K)

noncomputable def goC (base : Nat) (l : List ROC) (e : Env) (s : St) (H : List St) (P : List Pb) : β := match ropsC X base l e s H P with
  | some (e, s) => goN X fin ks e s
  | none => back
noncomputable def bndC (base : Nat) (x : Option (AV × St)) (d : Option Nat) (w : Bool) (c : Option (Nat × Nat)) (op : ROp) (l : List ROC) (e : Env) (H : List St) (P : List Pb) : β := match x with
  | some (v, s) => bif !w || noneC base s l then goC X back fin ks base l (setDst e d v) s (bif w then H ++ [s] else H) (addP c e op v P) else back
  | none => back
/-- the code itself, left unread -/
noncomputable def backC (c : Code) (e : Env) (s : St) : β := pop X fin ks (execL X c e s)

variable (base : Nat) (e : Env) (s : St) (H : List St) (P : List Pb) (l : List ROC)
theorem goC_nil : goC X back fin ks base [] e s H P = bif pbsOk X base H P then goN X fin ks e s else back := by
  simp only [goC, ropsC]
  cases pbsOk X base H P <;> rfl
theorem goC_cons (d : Option Nat) (a : Option Nat) (w : Bool) (op : ROp) (c : Option (Nat × Nat)) :
    goC X back fin ks base ((⟨d, none, a, w, op⟩, c) :: l) e s H P = bndC X back fin ks base (rop X base a e s op) d w c op l e H P := by
  simp only [goC, ropsC, bndC, wantR, cond_true]
  cases rop X base a e s op with
  | none => rfl
  | some x =>
    simp only
    cases (!w || noneC base x.2 l) <;> rfl
theorem goC_consG (d : Option Nat) (t : Nat) (b : Bool) (a : Option Nat) (w : Bool) (op : ROp) (c : Option (Nat × Nat)) :
    goC X back fin ks base ((⟨d, some (t, b), a, w, op⟩, c) :: l) e s H P = bndC X back fin ks base (gateR X (gBool (Env.get e t) b) base a e s op) d w c op l e H P := by
  simp only [goC, ropsC, bndC, gateR]
  have : wantR e (some (t, b)) = gBool (Env.get e t) b := rfl
  rw [this]
  cases (bif gBool (Env.get e t) b then rop X base a e s op else some (undef, s)) with
  | none => rfl
  | some x =>
    simp only
    cases (!w || noneC base x.2 l) <;> rfl
theorem bndC_some0 (v : AV) (d : Option Nat) (op : ROp) : bndC X back fin ks base (some (v, s)) d false none op l e H P = goC X back fin ks base l (setDst e d v) s H P := (fun h => h) rfl
theorem bndC_some0c (v : AV) (d : Option Nat) (lo hi : Nat) (op : ROp) : bndC X back fin ks base (some (v, s)) d false (some (lo, hi)) op l e H P = goC X back fin ks base l (setDst e d v) s H (⟨lo, hi, e, op, v⟩ :: P) := (fun h => h) rfl
theorem bndC_some1 (v : AV) (d : Option Nat) (op : ROp) : bndC X back fin ks base (some (v, s)) d true none op l e H P = bif noneC base s l then goC X back fin ks base l (setDst e d v) s (H ++ [s]) P else back := (fun h => h) rfl
theorem noneC_nil : noneC base s [] = true := (fun h => h) rfl
theorem noneC_cons0 (d : Option Nat) (g : Option (Nat × Bool)) (w : Bool) (op : ROp) (c : Option (Nat × Nat)) : noneC base s ((⟨d, g, none, w, op⟩, c) :: l) = noneC base s l := by
  simp [noneC, noneR]
theorem noneC_cons1 (i : Nat) (d : Option Nat) (g : Option (Nat × Bool)) (w : Bool) (op : ROp) (c : Option (Nat × Nat)) : noneC base s ((⟨d, g, some i, w, op⟩, c) :: l) = ((s.get (base + i)).isNone && noneC base s l) := by
  simp [noneC, noneR]
theorem pbsOk_nil : pbsOk X base H [] = true := (fun h => h) rfl
theorem pbsOk_cons (lo hi : Nat) (op : ROp) (v : AV) : pbsOk X base H (⟨lo, hi, e, op, v⟩ :: P) = (pbL X base e op v ((H.take (hi + 1)).drop lo) && pbsOk X base H P) := (fun h => h) rfl
theorem pbL_nil (op : ROp) (v : AV) : pbL X base e op v [] = true := (fun h => h) rfl
theorem pbL_cons (op : ROp) (v : AV) (L : List St) : pbL X base e op v (s :: L) = (pb1 v (rop X base none e s op) && pbL X base e op v L) := (fun h => h) rfl
def pbO (v : AV) (x : Option AV) : Bool := match x with
  | some u => same u v
  | none => false
theorem pb1_pure (v : AV) (x : Option AV) : pb1 v (pureO x s) = pbO v x := by cases x <;> rfl
theorem pbO_some (u v : AV) : pbO v (some u) = same u v := (fun h => h) rfl
theorem pb_ld1 (v : AV) (x : Opd) : pb1 v (rop X base none e s (.ld1 x)) = pbO v (ld1 (evO e x) s) := pb1_pure s v _
theorem pb_ldn (v : AV) (n : Nat) (x : Opd) : pb1 v (rop X base none e s (.ldn n x)) = pbO v (ldn n (evO e x) s) := pb1_pure s v _
theorem pb_lenL (v : AV) (x : Opd) : pb1 v (rop X base none e s (.lenL x)) = pbO v (lenRL (evO e x)) := pb1_pure s v _
theorem pb_lenS (v : AV) (x : Opd) : pb1 v (rop X base none e s (.lenS x)) = pbO v (lenRS (evO e x)) := pb1_pure s v _
theorem pb_lenM (v : AV) (x : Opd) : pb1 v (rop X base none e s (.lenM x)) = pbO v (lenRM s (evO e x)) := pb1_pure s v _
theorem app_cons {α : Type} (x : α) (l m : List α) : (x :: l) ++ m = x :: (l ++ m) := (fun h => h) rfl
theorem app_nil {α : Type} (m : List α) : ([] : List α) ++ m = m := (fun h => h) rfl

theorem go_drc [Stat] {c : Code} {n : Nat} {l : List ROC} (h : rcDrc X c = some (n, l)) (fin : Fl → β) (ks : List K) (e : Env) (s : St) : go X fin ks (.raw c) e s =
    bif noneC s.next s l then goC X (backC X fin ks c e s) fin ks s.next l e { s with next := s.next + n } [{ s with next := s.next + n }] [] else backC X fin ks c e s := by
  unfold rcDrc at h
  split at h
  · rename_i id ops d
    split at h
    · rename_i hc
      simp only [Bool.and_eq_true] at hc
      split at h
      · rename_i l0 hl
        cases h
        have hz : noneC s.next s (l0.zip (csD X ops)) = noneR s.next s l0 := by
          unfold noneC
          rw [List.map_fst_zip]
          rw [rcOps_length _ _ _ hl]; simp [csD]
        rw [hz]
        cases hn : noneR s.next s l0 with
        | false => rfl
        | true =>
          simp only [cond_true, goC]
          split
          · rename_i e1 s1 h1
            have := drc_spec hl hc.1.2 hc.2 hn h1
            simp only [go, den, goN]
            rw [execL_eq]
            simp only [stepA, hc.1.1, if_true, this]
          · rfl
      · cases h
    · cases h
  · cases h
end

@[congr] theorem bndC_congr {X : Cx} {β : Type} {back : β} {fin : Fl → β} {ks : List K} {base : Nat} {x x' : Option (AV × St)} {d : Option Nat} {w : Bool} {c : Option (Nat × Nat)} {op : ROp} {l : List ROC} {e : Env} {H : List St} {P : List Pb} (h : x = x') : bndC X back fin ks base x d w c op l e H P = bndC X back fin ks base x' d w c op l e H P := by rw [h]

attribute [go_sem ↓] goC_nil goC_cons goC_consG bndC_some0 bndC_some0c bndC_some1 noneC_nil noneC_cons0 noneC_cons1 pbsOk_nil pbsOk_cons pbL_nil pbL_cons pb_ld1 pb_ldn pb_lenL pb_lenS pb_lenM app_cons app_nil List.take_succ_cons List.take_zero List.drop_succ_cons List.drop_zero
attribute [go_sem] pbO_some same_refl

end Go.Am

set_option linter.all false
namespace Go.Am
open Go
variable [MaxLen]
set_option maxRecDepth 100000
set_option maxHeartbeats 8000000

/-- the parts of resolved code that are left as they are, in order -/
def raws : RC → List Code
  | .seq a b => raws a ++ raws b
  | .cond _ a b => raws a ++ raws b
  | .block _ b => raws b
  | .loop b => raws b
  | .raw c => [c]
  | _ => []
noncomputable def rawAt (f k : Nat) : Code := match U.fn f with
  | some fn => match fn.body with
    | some c => ((raws (rc U c))[k]?).getD .skip
    | none => .skip
  | none => .skip

/-- strobe/strobelaw04.shortSignal; results .tmp 4 -/
def r22 : RC := (.seq (.ops [⟨some 4, none, none, false, .mov (.v (.bool false))⟩]) (.seq (.ops [⟨some 5, none, none, false, .mov (.t 0)⟩,
  ⟨some 6, none, none, false, .lenL (.t 5)⟩,
  ⟨some 7, none, none, false, .mov (.t 1)⟩,
  ⟨some 8, none, none, false, .bin .leq 3 false (.t 6) (.t 7)⟩,
  ⟨some 9, none, none, false, .mov (.t 8)⟩,
  ⟨some 10, some (9, false), none, false, .mov (.t 0)⟩,
  ⟨some 11, some (9, false), none, false, .lenL (.t 10)⟩,
  ⟨some 12, some (9, false), none, false, .bin .gtr 3 true (.t 11) (.v (.int .i64 4096))⟩,
  ⟨some 13, some (9, false), none, false, .mov (.t 12)⟩,
  ⟨some 14, some (13, true), none, false, .mov (.t 0)⟩,
  ⟨some 15, some (13, true), none, false, .lenL (.t 14)⟩,
  ⟨some 16, some (13, true), none, false, .bin .leq 3 true (.t 15) (.v (.int .i64 4098))⟩,
  ⟨some 17, some (9, false), none, false, .pick (.t 13) (.t 16) (.v (.bool false))⟩,
  ⟨some 18, none, none, false, .pick (.t 9) (.v (.bool true)) (.t 17)⟩,
  ⟨some 4, none, none, false, .mov (.t 18)⟩]) .ret))
theorem k22 : fnRC 22 = some ([.tmp 4], r22) := by kernel_rfl

def r28_l0 : RC := (.seq (.seq (.ops [⟨some 9, none, none, false, .mov (.t 5)⟩,
  ⟨some 10, none, none, false, .mov (.t 1)⟩,
  ⟨some 11, none, none, false, .lenL (.t 10)⟩,
  ⟨some 12, none, none, false, .bin .lss 3 false (.t 9) (.t 11)⟩]) (.cond (.t 12) .skip (.exit 0))) (.seq (.block 1 (.seq (.drw 8 [⟨some 15, none, none, false, .mov (.t 1)⟩,
  ⟨some 16, none, none, false, .mov (.t 5)⟩,
  ⟨some 17, none, none, false, .ixa 1 (.t 15) (.t 16)⟩,
  ⟨some 18, none, none, false, .ld1 (.t 17)⟩,
  ⟨some 19, none, none, false, .mov (.t 0)⟩,
  ⟨some 20, none, none, false, .bin .shl 3 true (.v (.int .i64 1)) (.t 19)⟩,
  ⟨some 21, none, none, false, .bin .sub 3 true (.t 20) (.v (.int .i64 1))⟩,
  ⟨some 22, none, none, false, .call 94 [(.t 18), (.v (.int .i64 0)), (.t 21)]⟩]) (.cond (.t 22) (.seq (.ops [⟨some 4, none, none, false, .mov (.v (.int .i64 3))⟩]) .ret) .skip))) (.ops [⟨some 13, none, none, false, .mov (.t 5)⟩,
  ⟨some 14, none, none, false, .bin .add 3 true (.t 13) (.v (.int .i64 1))⟩,
  ⟨some 5, none, none, false, .mov (.t 14)⟩])))
/-- strobe/stroberef04.CheckSignal; results .tmp 4 -/
def r28 : RC := (.seq (.ops [⟨some 4, none, none, false, .mov (.v (.int .i64 0))⟩]) (.seq (.seq (.ops [⟨some 6, none, none, false, .mov (.t 1)⟩,
  ⟨some 7, none, none, false, .lenL (.t 6)⟩,
  ⟨some 8, none, none, false, .bin .gtr 3 true (.t 7) (.v (.int .i64 4096))⟩]) (.cond (.t 8) (.seq (.ops [⟨some 4, none, none, false, .mov (.v (.int .i64 5))⟩]) .ret) .skip)) (.seq (.seq (.ops [⟨some 5, none, none, false, .mov (.v (.int .i64 0))⟩]) (.block 0 (.loop r28_l0))) (.seq (.ops [⟨some 4, none, none, false, .mov (.v (.int .i64 0))⟩]) .ret))))
theorem k28 : fnRC 28 = some ([.tmp 4], r28) := by kernel_rfl

/-- strobe/strobelaw04.list; results .tmp 8 -/
def r36 : RC := (.seq (.ops [⟨some 8, none, none, false, .mov (.v (.bool false))⟩]) (.seq (.seq (.ops [⟨some 9, none, none, false, .mov (.t 2)⟩,
  ⟨some 10, none, none, false, .bin .neq 3 true (.t 9) (.v (.int .i64 0))⟩]) (.cond (.t 10) (.seq (.ops [⟨some 11, none, none, false, .mov (.t 0)⟩,
  ⟨some 12, none, none, false, .lenL (.t 11)⟩,
  ⟨some 13, none, none, false, .bin .eql 3 true (.t 12) (.v (.int .i64 0))⟩,
  ⟨some 14, none, none, false, .mov (.t 13)⟩,
  ⟨some 15, some (14, true), none, false, .mov (.t 1)⟩,
  ⟨some 16, some (14, true), none, false, .mov (.t 2)⟩,
  ⟨some 17, some (14, true), none, false, .bin .eql 3 false (.t 15) (.t 16)⟩,
  ⟨some 18, none, none, false, .pick (.t 14) (.t 17) (.v (.bool false))⟩,
  ⟨some 8, none, none, false, .mov (.t 18)⟩]) .ret) .skip)) (.seq (.ops [⟨some 19, none, none, false, .mov (.t 1)⟩,
  ⟨some 20, none, none, false, .bin .eql 26 true (.t 19) (.v (.int .i64 0))⟩,
  ⟨some 21, none, none, false, .mov (.t 20)⟩,
  ⟨some 22, some (21, true), none, false, .mov (.t 0)⟩,
  ⟨some 23, some (21, true), none, false, .mov (.t 3)⟩,
  ⟨some 24, some (21, true), none, false, .call 56 [(.t 22), (.t 23)]⟩,
  ⟨some 25, none, none, false, .pick (.t 21) (.t 24) (.v (.bool false))⟩,
  ⟨some 8, none, none, false, .mov (.t 25)⟩]) .ret)))
theorem k36 : fnRC 36 = some ([.tmp 8], r36) := by kernel_rfl

/-- strobe/strobelaw04.integer; results .tmp 8 -/
def r54 : RC := (.seq (.ops [⟨some 8, none, none, false, .mov (.v (.bool false))⟩]) (.seq (.seq (.ops [⟨some 9, none, none, false, .mov (.t 2)⟩,
  ⟨some 10, none, none, false, .bin .neq 3 true (.t 9) (.v (.int .i64 0))⟩]) (.cond (.t 10) (.seq (.ops [⟨some 11, none, none, false, .mov (.t 0)⟩,
  ⟨some 12, none, none, false, .bin .eql 3 true (.t 11) (.v (.int .i64 0))⟩,
  ⟨some 13, none, none, false, .mov (.t 12)⟩,
  ⟨some 14, some (13, true), none, false, .mov (.t 1)⟩,
  ⟨some 15, some (13, true), none, false, .mov (.t 2)⟩,
  ⟨some 16, some (13, true), none, false, .bin .eql 3 false (.t 14) (.t 15)⟩,
  ⟨some 17, none, none, false, .pick (.t 13) (.t 16) (.v (.bool false))⟩,
  ⟨some 8, none, none, false, .mov (.t 17)⟩]) .ret) .skip)) (.seq (.ops [⟨some 18, none, none, false, .mov (.t 1)⟩,
  ⟨some 19, none, none, false, .bin .eql 26 true (.t 18) (.v (.int .i64 0))⟩,
  ⟨some 20, none, none, false, .mov (.t 19)⟩,
  ⟨some 21, some (20, true), none, false, .mov (.t 0)⟩,
  ⟨some 22, some (20, true), none, false, .mov (.t 3)⟩,
  ⟨some 23, some (20, true), none, false, .bin .eql 3 false (.t 21) (.t 22)⟩,
  ⟨some 24, none, none, false, .pick (.t 20) (.t 23) (.v (.bool false))⟩,
  ⟨some 8, none, none, false, .mov (.t 24)⟩]) .ret)))
theorem k54 : fnRC 54 = some ([.tmp 8], r54) := by kernel_rfl

/-- strobe/stroberef04.SameTimes; results .tmp 4 -/
def r56 : RC := (.seq (.ops [⟨some 4, none, none, false, .mov (.v (.bool false))⟩]) (.seq (.ops [⟨some 5, none, none, false, .mov (.t 0)⟩,
  ⟨some 6, none, none, false, .mov (.t 1)⟩,
  ⟨some 7, none, none, false, .call 109 [(.t 5), (.t 6)]⟩,
  ⟨some 4, none, none, false, .mov (.t 7)⟩]) .ret))
theorem k56 : fnRC 56 = some ([.tmp 4], r56) := by kernel_rfl

/-- strobe/trigger.checkSignal; results .tmp 4 -/
def r91 : RC := (.seq (.ops [⟨some 2, none, none, false, .box 3 (.t 0)⟩,
  ⟨some 4, none, none, false, .mov (.v (.int .i64 0))⟩]) (.seq (.seq (.ops [⟨some 5, none, none, false, .mov (.t 1)⟩,
  ⟨some 6, none, none, false, .lenL (.t 5)⟩,
  ⟨some 7, none, none, false, .bin .gtr 3 true (.t 6) (.v (.int .i64 4096))⟩]) (.cond (.t 7) (.seq (.ops [⟨some 4, none, none, false, .mov (.v (.int .i64 5))⟩]) .ret) .skip)) (.seq (.ops [⟨some 8, none, none, false, .mov (.t 1)⟩,
  ⟨some 9, none, none, false, .mkf 159 [] [(.t 2)]⟩,
  ⟨some 10, none, none, false, .call 125 [(.t 8), (.t 9)]⟩,
  ⟨some 11, none, none, false, .call 116 [(.t 10), (.v (.int .i64 3))]⟩,
  ⟨some 4, none, none, false, .mov (.t 11)⟩]) .ret)))
theorem k91 : fnRC 91 = some ([.tmp 4], r91) := by kernel_rfl

def r109_l0 : RC := (.seq (.seq (.ops [⟨some 11, none, none, false, .mov (.t 5)⟩,
  ⟨some 12, none, none, false, .mov (.t 0)⟩,
  ⟨some 13, none, none, false, .lenL (.t 12)⟩,
  ⟨some 14, none, none, false, .bin .lss 3 false (.t 11) (.t 13)⟩]) (.cond (.t 14) .skip (.exit 0))) (.seq (.block 1 (.seq (.drw 9 [⟨some 17, none, none, false, .mov (.t 0)⟩,
  ⟨some 18, none, none, false, .mov (.t 5)⟩,
  ⟨some 19, none, none, false, .ixa 1 (.t 17) (.t 18)⟩,
  ⟨some 20, none, none, false, .ld1 (.t 19)⟩,
  ⟨some 21, none, none, false, .mov (.t 1)⟩,
  ⟨some 22, none, none, false, .mov (.t 5)⟩,
  ⟨some 23, none, none, false, .ixa 1 (.t 21) (.t 22)⟩,
  ⟨some 24, none, none, false, .ld1 (.t 23)⟩,
  ⟨some 25, none, none, false, .bin .neq 3 false (.t 20) (.t 24)⟩]) (.cond (.t 25) (.seq (.ops [⟨some 4, none, none, false, .mov (.v (.bool false))⟩]) .ret) .skip))) (.ops [⟨some 15, none, none, false, .mov (.t 5)⟩,
  ⟨some 16, none, none, false, .bin .add 3 true (.t 15) (.v (.int .i64 1))⟩,
  ⟨some 5, none, none, false, .mov (.t 16)⟩])))
/-- strobe/stroberef04.same; results .tmp 4 -/
def r109 : RC := (.seq (.ops [⟨some 4, none, none, false, .mov (.v (.bool false))⟩]) (.seq (.seq (.ops [⟨some 6, none, none, false, .mov (.t 0)⟩,
  ⟨some 7, none, none, false, .lenL (.t 6)⟩,
  ⟨some 8, none, none, false, .mov (.t 1)⟩,
  ⟨some 9, none, none, false, .lenL (.t 8)⟩,
  ⟨some 10, none, none, false, .bin .neq 3 false (.t 7) (.t 9)⟩]) (.cond (.t 10) (.seq (.ops [⟨some 4, none, none, false, .mov (.v (.bool false))⟩]) .ret) .skip)) (.seq (.seq (.ops [⟨some 5, none, none, false, .mov (.v (.int .i64 0))⟩]) (.block 0 (.loop r109_l0))) (.seq (.ops [⟨some 4, none, none, false, .mov (.v (.bool true))⟩]) .ret))))
theorem k109 : fnRC 109 = some ([.tmp 4], r109) := by kernel_rfl

/-- slices.ContainsFunc[[]int,int]; results .tmp 4 -/
def r125 : RC := (.seq (.ops [⟨some 4, none, none, false, .mov (.v (.bool false))⟩]) (.seq (.ops [⟨some 5, none, none, false, .mov (.t 0)⟩,
  ⟨some 6, none, none, false, .mov (.t 1)⟩,
  ⟨some 7, none, none, false, .call 179 [(.t 5), (.t 6)]⟩,
  ⟨some 8, none, none, false, .bin .geq 3 true (.t 7) (.v (.int .i64 0))⟩,
  ⟨some 4, none, none, false, .mov (.t 8)⟩]) .ret))
theorem k125 : fnRC 125 = some ([.tmp 4], r125) := by kernel_rfl

/-- strobe/trigger.checkSignal$1; results .tmp 3 -/
def r159 : RC := (.seq (.ops [⟨some 3, none, none, false, .mov (.v (.bool false))⟩]) (.seq (.ops [⟨some 4, none, none, false, .mov (.t 0)⟩,
  ⟨some 5, none, none, false, .bin .lss 3 true (.t 4) (.v (.int .i64 0))⟩,
  ⟨some 6, none, none, false, .mov (.t 5)⟩,
  ⟨some 7, some (6, false), none, false, .mov (.t 0)⟩,
  ⟨some 8, some (6, false), none, false, .ld1 (.t 1)⟩,
  ⟨some 9, some (6, false), none, false, .bin .shl 3 true (.v (.int .i64 1)) (.t 8)⟩,
  ⟨some 10, some (6, false), none, false, .bin .geq 3 false (.t 7) (.t 9)⟩,
  ⟨some 11, none, none, false, .pick (.t 6) (.v (.bool true)) (.t 10)⟩,
  ⟨some 3, none, none, false, .mov (.t 11)⟩]) .ret))
theorem k159 : fnRC 159 = some ([.tmp 3], r159) := by kernel_rfl

def r179_l0 : RC := (.seq (.ops [⟨some 9, none, none, false, .bin .lss 3 false (.t 8) (.t 7)⟩]) (.seq (.cond (.t 9) .skip (.exit 0)) (.seq (.block 1 (.seq (.ops [⟨some 10, none, none, false, .mov (.t 8)⟩,
  ⟨some 5, none, none, false, .mov (.t 10)⟩]) (.seq (.ops [⟨some 11, none, none, false, .mov (.t 1)⟩,
  ⟨some 12, none, none, false, .mov (.t 0)⟩,
  ⟨some 13, none, none, false, .mov (.t 5)⟩,
  ⟨some 14, none, none, false, .ixa 1 (.t 12) (.t 13)⟩,
  ⟨some 15, none, none, false, .ld1 (.t 14)⟩,
  ⟨some 16, none, none, false, .callv (.t 11) [(.t 15)]⟩]) (.cond (.t 16) (.seq (.ops [⟨some 17, none, none, false, .mov (.t 5)⟩,
  ⟨some 4, none, none, false, .mov (.t 17)⟩]) .ret) .skip)))) (.ops [⟨some 18, none, none, false, .bin .add 3 true (.t 8) (.v (.int .i64 1))⟩,
  ⟨some 8, none, none, false, .mov (.t 18)⟩]))))
/-- slices.IndexFunc[[]int,int]; results .tmp 4 -/
def r179 : RC := (.seq (.ops [⟨some 4, none, none, false, .mov (.v (.int .i64 0))⟩]) (.seq (.seq (.ops [⟨some 6, none, none, false, .mov (.t 0)⟩,
  ⟨some 7, none, none, false, .lenL (.t 6)⟩,
  ⟨some 8, none, none, false, .mov (.v (.int .i64 0))⟩]) (.block 0 (.loop r179_l0))) (.seq (.ops [⟨some 4, none, none, false, .mov (.v (.int .i64 (-1)))⟩]) .ret)))
theorem k179 : fnRC 179 = some ([.tmp 4], r179) := by kernel_rfl


end Go.Am

set_option linter.all false
namespace Go.Am
open Go
variable [MaxLen]
set_option maxRecDepth 100000
set_option maxHeartbeats 8000000

/-- strobe/strobelaw04.TriggerRuns; results .tmp 4 -/
def r10 : RC := (.seq (.ops [⟨some 2, none, none, false, .box 72 (.t 0)⟩,
  ⟨some 4, none, none, false, .mov (.v (.bool false))⟩]) (.seq (.seq (.ops [⟨some 17, none, none, false, .call 16 []⟩,
  ⟨some 18, none, none, false, .un .not (.t 17)⟩,
  ⟨some 19, none, none, false, .mov (.t 18)⟩,
  ⟨some 20, some (19, false), none, false, .ldn 3 (.t 2)⟩,
  ⟨some 21, some (19, false), none, false, .call 44 [(.t 20), (.v (.int .i64 12))]⟩,
  ⟨some 22, some (19, false), none, false, .un .not (.t 21)⟩,
  ⟨some 23, none, none, false, .pick (.t 19) (.v (.bool true)) (.t 22)⟩,
  ⟨some 24, none, none, false, .mov (.t 23)⟩,
  ⟨some 25, some (24, false), none, false, .mov (.t 1)⟩,
  ⟨some 26, some (24, false), none, false, .call 22 [(.t 25), (.v (.int .i64 60))]⟩,
  ⟨some 27, some (24, false), none, false, .un .not (.t 26)⟩,
  ⟨some 28, none, none, false, .pick (.t 24) (.v (.bool true)) (.t 27)⟩]) (.cond (.t 28) (.seq (.ops [⟨some 29, none, none, false, .call 16 []⟩,
  ⟨some 4, none, none, false, .mov (.t 29)⟩]) .ret) .skip)) (.seq (.ops [⟨some 30, none, none, false, .ldn 3 (.t 2)⟩,
  ⟨some 5, none, none, false, .al [(.int .i64 0), .nils, .nils] 69⟩,
  ⟨none, none, none, false, .st 3 (.t 5) (.t 30)⟩]) (.seq (.ops [⟨some 31, none, none, false, .ldn 3 (.t 2)⟩,
  ⟨some 32, none, none, false, .call 50 [(.t 31)]⟩,
  ⟨some 6, none, none, false, .mov (.t 32)⟩]) (.seq (.seq (.ops [⟨some 33, none, none, false, .ldn 3 (.t 5)⟩,
  ⟨some 34, none, none, false, .call 58 [(.t 33)]⟩,
  ⟨some 35, none, none, false, .mov (.t 6)⟩,
  ⟨some 36, none, none, false, .bin .neq 3 false (.t 34) (.t 35)⟩]) (.cond (.t 36) (.seq (.ops [⟨some 4, none, none, false, .mov (.v (.bool false))⟩]) .ret) .skip)) (.seq (.ops [⟨some 38, none, none, false, .ldn 3 (.t 5)⟩,
  ⟨some 39, none, none, false, .mov (.t 1)⟩,
  ⟨some 40, none, none, false, .call 57 [(.t 38), (.t 39)]⟩,
  ⟨some 37, none, none, false, .mov (.t 40)⟩,
  ⟨some 41, none, none, false, .ext (.t 37) 0⟩,
  ⟨some 42, none, none, false, .ext (.t 37) 1⟩,
  ⟨some 7, none, none, false, .mov (.t 41)⟩,
  ⟨some 8, none, none, false, .mov (.t 42)⟩]) (.seq (.ops [⟨some 44, none, none, false, .ldn 3 (.t 5)⟩,
  ⟨some 45, none, none, false, .mov (.t 1)⟩,
  ⟨some 46, none, none, false, .call 62 [(.t 44), (.t 45)]⟩,
  ⟨some 43, none, none, false, .mov (.t 46)⟩,
  ⟨some 47, none, none, false, .ext (.t 43) 0⟩,
  ⟨some 48, none, none, false, .ext (.t 43) 1⟩,
  ⟨some 9, none, none, false, .mov (.t 47)⟩,
  ⟨some 10, none, none, false, .mov (.t 48)⟩]) (.seq (.ops [⟨some 50, none, none, false, .ldn 3 (.t 5)⟩,
  ⟨some 51, none, none, false, .call 59 [(.t 50)]⟩,
  ⟨some 49, none, none, false, .mov (.t 51)⟩,
  ⟨some 52, none, none, false, .ext (.t 49) 0⟩,
  ⟨some 53, none, none, false, .ext (.t 49) 1⟩,
  ⟨some 11, none, none, false, .al [(.int .i64 0), .nils, .nils] 69⟩,
  ⟨none, none, none, false, .st 3 (.t 11) (.t 52)⟩,
  ⟨some 12, none, none, false, .mov (.t 53)⟩]) (.seq (.ops [⟨some 54, none, none, false, .mov (.t 6)⟩,
  ⟨some 13, none, none, false, .mov (.t 54)⟩]) (.seq (.ops [⟨some 14, none, none, false, .mov (.v .nils)⟩]) (.seq (.ops [⟨some 15, none, none, false, .mov (.v (.int .i64 0))⟩]) (.seq (.ops [⟨some 16, none, none, false, .al [(.int .i64 0), .nils, .nils] 72⟩]) (.seq (.seq (.ops [⟨some 55, none, none, false, .mov (.t 6)⟩,
  ⟨some 56, none, none, false, .bin .eql 3 true (.t 55) (.v (.int .i64 0))⟩]) (.cond (.t 56) (.seq (.ops [⟨some 57, none, none, false, .ldn 3 (.t 2)⟩,
  ⟨some 58, none, none, false, .call 41 [(.t 57)]⟩,
  ⟨none, none, none, false, .st 3 (.t 16) (.t 58)⟩]) (.ops [⟨some 59, none, none, false, .fa 0 (.t 2)⟩,
  ⟨some 60, none, none, false, .ld1 (.t 59)⟩,
  ⟨some 61, none, none, false, .mov (.t 1)⟩,
  ⟨some 62, none, none, false, .call 28 [(.t 60), (.t 61)]⟩,
  ⟨some 13, none, none, false, .mov (.t 62)⟩])) .skip)) (.seq (.seq (.ops [⟨some 63, none, none, false, .mov (.t 13)⟩,
  ⟨some 64, none, none, false, .bin .eql 3 true (.t 63) (.v (.int .i64 0))⟩]) (.cond (.t 64) (.ops [⟨some 66, none, none, false, .ldn 3 (.t 2)⟩,
  ⟨some 67, none, none, false, .mov (.t 1)⟩,
  ⟨some 68, none, none, false, .call 63 [(.t 66), (.t 67)]⟩,
  ⟨some 65, none, none, false, .mov (.t 68)⟩,
  ⟨some 69, none, none, false, .ext (.t 65) 0⟩,
  ⟨some 70, none, none, false, .ext (.t 65) 1⟩,
  ⟨some 14, none, none, false, .mov (.t 69)⟩,
  ⟨some 15, none, none, false, .mov (.t 70)⟩]) .skip)) (.seq (.ops [⟨some 71, none, none, false, .mov (.t 7)⟩,
  ⟨some 72, none, none, false, .mov (.t 8)⟩,
  ⟨some 73, none, none, false, .mov (.t 13)⟩,
  ⟨some 74, none, none, false, .mov (.t 14)⟩,
  ⟨some 75, none, none, false, .call 36 [(.t 71), (.t 72), (.t 73), (.t 74)]⟩,
  ⟨some 76, none, none, false, .mov (.t 75)⟩,
  ⟨some 77, some (76, true), none, false, .mov (.t 9)⟩,
  ⟨some 78, some (76, true), none, false, .mov (.t 10)⟩,
  ⟨some 79, some (76, true), none, false, .mov (.t 13)⟩,
  ⟨some 80, some (76, true), none, false, .mov (.t 15)⟩,
  ⟨some 81, some (76, true), none, false, .call 54 [(.t 77), (.t 78), (.t 79), (.t 80)]⟩,
  ⟨some 82, none, none, false, .pick (.t 76) (.t 81) (.v (.bool false))⟩,
  ⟨some 83, none, none, false, .mov (.t 82)⟩,
  ⟨some 84, some (83, true), none, false, .ldn 3 (.t 11)⟩,
  ⟨some 85, some (83, true), none, false, .mov (.t 12)⟩,
  ⟨some 86, some (83, true), none, false, .mov (.t 6)⟩,
  ⟨some 87, some (83, true), none, false, .ldn 3 (.t 16)⟩,
  ⟨some 88, some (83, true), none, false, .call 43 [(.t 84), (.t 85), (.t 86), (.t 87)]⟩,
  ⟨some 89, none, none, false, .pick (.t 83) (.t 88) (.v (.bool false))⟩,
  ⟨some 4, none, none, false, .mov (.t 89)⟩]) .ret)))))))))))))))
theorem k10 : fnRC 10 = some ([.tmp 4], r10) := by kernel_rfl

def r41_l0 : RC := (.seq (.seq (.ops [⟨some 34, none, none, false, .mov (.t 9)⟩,
  ⟨some 35, none, none, false, .mov (.t 7)⟩,
  ⟨some 36, none, none, false, .lenL (.t 35)⟩,
  ⟨some 37, none, none, false, .bin .lss 3 false (.t 34) (.t 36)⟩]) (.cond (.t 37) .skip (.exit 2))) (.seq (.block 3 (.seq (.drw 15 [⟨some 40, none, none, false, .mov (.t 3)⟩,
  ⟨some 41, none, none, false, .fa 1 (.t 1)⟩,
  ⟨some 42, none, none, false, .ld1 (.t 41)⟩,
  ⟨some 43, none, none, false, .mov (.t 4)⟩,
  ⟨some 44, none, none, false, .mov (.t 6)⟩,
  ⟨some 45, none, none, false, .ixa 1 (.t 43) (.t 44)⟩,
  ⟨some 46, none, none, false, .ld1 (.t 45)⟩,
  ⟨some 47, none, none, false, .ixa 1 (.t 42) (.t 46)⟩,
  ⟨some 48, none, none, false, .ld1 (.t 47)⟩,
  ⟨some 49, none, none, false, .mov (.t 9)⟩,
  ⟨some 50, none, none, false, .ixa 1 (.t 48) (.t 49)⟩,
  ⟨some 51, none, none, false, .ld1 (.t 50)⟩,
  ⟨some 52, none, none, false, .ixa 1 (.t 40) (.t 51)⟩,
  ⟨some 53, none, none, false, .ld1 (.t 52)⟩,
  ⟨some 10, none, none, false, .mov (.t 53)⟩]) (.seq (.seq (.ops [⟨some 54, none, none, false, .mov (.t 4)⟩,
  ⟨some 55, none, none, false, .mov (.t 10)⟩,
  ⟨some 56, none, none, false, .call 107 [(.t 54), (.t 55)]⟩,
  ⟨some 57, none, none, false, .bin .lss 3 true (.t 56) (.v (.int .i64 0))⟩]) (.cond (.t 57) (.ops [⟨some 58, none, none, false, .mov (.t 4)⟩,
  ⟨some 59, none, none, false, .mov (.t 10)⟩,
  ⟨some 60, none, none, false, .bsl 3 1 1 [(.int .i64 0)] [(0, 1, (.t 59))]⟩,
  ⟨some 61, none, none, false, .app 3 1 8 (.t 58) (.t 60)⟩,
  ⟨some 4, none, none, false, .mov (.t 61)⟩]) .skip)) (.seq (.ops [⟨some 62, none, none, false, .mov (.t 7)⟩,
  ⟨some 63, none, none, false, .mov (.t 9)⟩,
  ⟨some 64, none, none, false, .mov (.t 4)⟩,
  ⟨some 65, none, none, false, .mov (.t 10)⟩,
  ⟨some 66, none, none, false, .call 107 [(.t 64), (.t 65)]⟩,
  ⟨some 67, none, none, false, .ixa 1 (.t 62) (.t 63)⟩,
  ⟨none, none, none, false, .st 1 (.t 67) (.t 66)⟩]) (.drw 15 [⟨some 68, none, none, false, .mov (.t 8)⟩,
  ⟨some 69, none, none, false, .mov (.t 9)⟩,
  ⟨some 70, none, none, false, .fa 2 (.t 1)⟩,
  ⟨some 71, none, none, false, .ld1 (.t 70)⟩,
  ⟨some 72, none, none, false, .mov (.t 4)⟩,
  ⟨some 73, none, none, false, .mov (.t 6)⟩,
  ⟨some 74, none, none, false, .ixa 1 (.t 72) (.t 73)⟩,
  ⟨some 75, none, none, false, .ld1 (.t 74)⟩,
  ⟨some 76, none, none, false, .ixa 1 (.t 71) (.t 75)⟩,
  ⟨some 77, none, none, false, .ld1 (.t 76)⟩,
  ⟨some 78, none, none, false, .mov (.t 9)⟩,
  ⟨some 79, none, none, false, .ixa 1 (.t 77) (.t 78)⟩,
  ⟨some 80, none, none, false, .ld1 (.t 79)⟩,
  ⟨some 81, none, none, false, .ixa 1 (.t 68) (.t 69)⟩,
  ⟨none, none, none, true, .st 1 (.t 81) (.t 80)⟩]))))) (.ops [⟨some 38, none, none, false, .mov (.t 9)⟩,
  ⟨some 39, none, none, false, .bin .add 3 true (.t 38) (.v (.int .i64 1))⟩,
  ⟨some 9, none, none, false, .mov (.t 39)⟩])))
def r41_l1 : RC := (.seq (.seq (.ops [⟨some 20, none, none, false, .mov (.t 6)⟩,
  ⟨some 21, none, none, false, .mov (.t 4)⟩,
  ⟨some 22, none, none, false, .lenL (.t 21)⟩,
  ⟨some 23, none, none, false, .bin .lss 3 false (.t 20) (.t 22)⟩]) (.cond (.t 23) .skip (.exit 0))) (.seq (.block 1 (.seq (.ops [⟨some 26, none, none, false, .fa 0 (.t 1)⟩,
  ⟨some 27, none, none, false, .ld1 (.t 26)⟩,
  ⟨some 28, none, none, false, .bin .shl 3 true (.v (.int .i64 1)) (.t 27)⟩,
  ⟨some 29, none, none, false, .raw (.makeSlice 40 (.tmp 28) (.tmp 28))⟩,
  ⟨some 7, none, none, false, .mov (.t 29)⟩]) (.seq (.ops [⟨some 30, none, none, false, .fa 0 (.t 1)⟩,
  ⟨some 31, none, none, false, .ld1 (.t 30)⟩,
  ⟨some 32, none, none, false, .bin .shl 3 true (.v (.int .i64 1)) (.t 31)⟩,
  ⟨some 33, none, none, false, .raw (.makeSlice 43 (.tmp 32) (.tmp 32))⟩,
  ⟨some 8, none, none, false, .mov (.t 33)⟩]) (.seq (.seq (.ops [⟨some 9, none, none, false, .mov (.v (.int .i64 0))⟩]) (.block 2 (.loop r41_l0))) (.seq (.ops [⟨some 82, none, none, false, .fa 1 (.t 5)⟩,
  ⟨some 83, none, none, false, .ld1 (.t 82)⟩,
  ⟨some 84, none, none, false, .mov (.t 7)⟩,
  ⟨some 85, none, none, false, .bsl 40 1 1 [.nils] [(0, 1, (.t 84))]⟩,
  ⟨some 86, none, none, false, .app 40 1 24 (.t 83) (.t 85)⟩,
  ⟨some 87, none, none, false, .fa 1 (.t 5)⟩,
  ⟨none, none, none, false, .st 1 (.t 87) (.t 86)⟩]) (.ops [⟨some 88, none, none, false, .fa 2 (.t 5)⟩,
  ⟨some 89, none, none, false, .ld1 (.t 88)⟩,
  ⟨some 90, none, none, false, .mov (.t 8)⟩,
  ⟨some 91, none, none, false, .bsl 43 1 1 [.nils] [(0, 1, (.t 90))]⟩,
  ⟨some 92, none, none, false, .app 43 1 24 (.t 89) (.t 91)⟩,
  ⟨some 93, none, none, false, .fa 2 (.t 5)⟩,
  ⟨none, none, none, false, .st 1 (.t 93) (.t 92)⟩])))))) (.ops [⟨some 24, none, none, false, .mov (.t 6)⟩,
  ⟨some 25, none, none, false, .bin .add 3 true (.t 24) (.v (.int .i64 1))⟩,
  ⟨some 6, none, none, false, .mov (.t 25)⟩])))
/-- strobe/stroberef04.Minimal; results .cell 2 72 -/
def r41 : RC := (.seq (.ops [⟨some 1, none, none, false, .box 72 (.t 0)⟩,
  ⟨some 2, none, none, false, .al [(.int .i64 0), .nils, .nils] 72⟩]) (.seq (.ops [⟨some 11, none, none, false, .ldn 3 (.t 1)⟩,
  ⟨some 12, none, none, false, .call 106 [(.t 11)]⟩,
  ⟨some 3, none, none, false, .mov (.t 12)⟩]) (.seq (.ops [⟨some 13, none, none, false, .mov (.t 3)⟩,
  ⟨some 14, none, none, false, .ixa 1 (.t 13) (.v (.int .i64 0))⟩,
  ⟨some 15, none, none, false, .ld1 (.t 14)⟩,
  ⟨some 16, none, none, false, .bsl 3 1 1 [(.int .i64 0)] [(0, 1, (.t 15))]⟩,
  ⟨some 4, none, none, false, .mov (.t 16)⟩]) (.seq (.ops [⟨some 17, none, none, false, .fa 0 (.t 1)⟩,
  ⟨some 18, none, none, false, .ld1 (.t 17)⟩,
  ⟨some 19, none, none, false, .bld [(.int .i64 0), .nils, .nils] [(0, 1, (.t 18))]⟩,
  ⟨some 5, none, none, false, .al [(.int .i64 0), .nils, .nils] 72⟩,
  ⟨none, none, none, false, .st 3 (.t 5) (.t 19)⟩]) (.seq (.seq (.ops [⟨some 6, none, none, false, .mov (.v (.int .i64 0))⟩]) (.block 0 (.loop r41_l1))) (.seq (.ops [⟨some 94, none, none, false, .ldn 3 (.t 5)⟩,
  ⟨none, none, none, false, .st 3 (.t 2) (.t 94)⟩]) .ret))))))
theorem k41 : fnRC 41 = some ([.cell 2 72], r41) := by kernel_rfl

/-- strobe/strobelaw04.automaton; results .tmp 8 -/
def r43 : RC := (.seq (.ops [⟨some 4, none, none, false, .box 69 (.t 0)⟩,
  ⟨some 7, none, none, false, .box 72 (.t 3)⟩,
  ⟨some 8, none, none, false, .mov (.v (.bool false))⟩]) (.seq (.seq (.ops [⟨some 9, none, none, false, .mov (.t 2)⟩,
  ⟨some 10, none, none, false, .bin .neq 3 true (.t 9) (.v (.int .i64 0))⟩]) (.cond (.t 10) (.seq (.ops [⟨some 11, none, none, false, .ldn 3 (.t 4)⟩,
  ⟨some 12, none, none, false, .bld [(.int .i64 0), .nils, .nils] []⟩,
  ⟨some 13, none, none, false, .call 60 [(.t 11), (.t 12)]⟩,
  ⟨some 14, none, none, false, .mov (.t 13)⟩,
  ⟨some 15, some (14, true), none, false, .mov (.t 1)⟩,
  ⟨some 16, some (14, true), none, false, .mov (.t 2)⟩,
  ⟨some 17, some (14, true), none, false, .bin .eql 3 false (.t 15) (.t 16)⟩,
  ⟨some 18, none, none, false, .pick (.t 14) (.t 17) (.v (.bool false))⟩,
  ⟨some 8, none, none, false, .mov (.t 18)⟩]) .ret) .skip)) (.seq (.ops [⟨some 19, none, none, false, .mov (.t 1)⟩,
  ⟨some 20, none, none, false, .bin .eql 26 true (.t 19) (.v (.int .i64 0))⟩,
  ⟨some 21, none, none, false, .mov (.t 20)⟩,
  ⟨some 22, some (21, true), none, false, .ldn 3 (.t 4)⟩,
  ⟨some 23, some (21, true), none, false, .ldn 3 (.t 7)⟩,
  ⟨some 24, some (21, true), none, false, .call 60 [(.t 22), (.t 23)]⟩,
  ⟨some 25, none, none, false, .pick (.t 21) (.t 24) (.v (.bool false))⟩,
  ⟨some 8, none, none, false, .mov (.t 25)⟩]) .ret)))
theorem k43 : fnRC 43 = some ([.tmp 8], r43) := by kernel_rfl

def r44_l0 : RC := (.seq (.seq (.ops [⟨some 30, none, none, false, .mov (.t 5)⟩,
  ⟨some 31, none, none, false, .fa 1 (.t 2)⟩,
  ⟨some 32, none, none, false, .ld1 (.t 31)⟩,
  ⟨some 33, none, none, false, .lenL (.t 32)⟩,
  ⟨some 34, none, none, false, .bin .lss 3 false (.t 30) (.t 33)⟩]) (.cond (.t 34) .skip (.exit 0))) (.seq (.block 1 (.seq (.ops [⟨some 37, none, none, false, .fa 1 (.t 2)⟩,
  ⟨some 38, none, none, false, .ld1 (.t 37)⟩,
  ⟨some 39, none, none, false, .mov (.t 5)⟩,
  ⟨some 40, none, none, false, .ixa 1 (.t 38) (.t 39)⟩,
  ⟨some 41, none, none, false, .ld1 (.t 40)⟩,
  ⟨some 42, none, none, false, .lenL (.t 41)⟩,
  ⟨some 43, none, none, false, .bin .gtr 3 true (.t 42) (.v (.int .i64 18))⟩]) (.cond (.t 43) (.seq (.ops [⟨some 4, none, none, false, .mov (.v (.bool false))⟩]) .ret) .skip))) (.ops [⟨some 35, none, none, false, .mov (.t 5)⟩,
  ⟨some 36, none, none, false, .bin .add 3 true (.t 35) (.v (.int .i64 1))⟩,
  ⟨some 5, none, none, false, .mov (.t 36)⟩])))
def r44_l1 : RC := (.seq (.seq (.ops [⟨some 44, none, none, false, .mov (.t 6)⟩,
  ⟨some 45, none, none, false, .fa 2 (.t 2)⟩,
  ⟨some 46, none, none, false, .ld1 (.t 45)⟩,
  ⟨some 47, none, none, false, .lenL (.t 46)⟩,
  ⟨some 48, none, none, false, .bin .lss 3 false (.t 44) (.t 47)⟩]) (.cond (.t 48) .skip (.exit 2))) (.seq (.block 3 (.seq (.ops [⟨some 51, none, none, false, .fa 2 (.t 2)⟩,
  ⟨some 52, none, none, false, .ld1 (.t 51)⟩,
  ⟨some 53, none, none, false, .mov (.t 6)⟩,
  ⟨some 54, none, none, false, .ixa 1 (.t 52) (.t 53)⟩,
  ⟨some 55, none, none, false, .ld1 (.t 54)⟩,
  ⟨some 56, none, none, false, .lenL (.t 55)⟩,
  ⟨some 57, none, none, false, .bin .gtr 3 true (.t 56) (.v (.int .i64 18))⟩]) (.cond (.t 57) (.seq (.ops [⟨some 4, none, none, false, .mov (.v (.bool false))⟩]) .ret) .skip))) (.ops [⟨some 49, none, none, false, .mov (.t 6)⟩,
  ⟨some 50, none, none, false, .bin .add 3 true (.t 49) (.v (.int .i64 1))⟩,
  ⟨some 6, none, none, false, .mov (.t 50)⟩])))
/-- strobe/stroberef04.ShortAutomaton; results .tmp 4 -/
def r44 : RC := (.seq (.ops [⟨some 2, none, none, false, .box 72 (.t 0)⟩,
  ⟨some 4, none, none, false, .mov (.v (.bool false))⟩]) (.seq (.seq (.ops [⟨some 7, none, none, false, .fa 1 (.t 2)⟩,
  ⟨some 8, none, none, false, .ld1 (.t 7)⟩,
  ⟨some 9, none, none, false, .lenL (.t 8)⟩,
  ⟨some 10, none, none, false, .mov (.t 1)⟩,
  ⟨some 11, none, none, false, .bin .gtr 3 false (.t 9) (.t 10)⟩,
  ⟨some 12, none, none, false, .mov (.t 11)⟩,
  ⟨some 13, some (12, true), none, false, .fa 1 (.t 2)⟩,
  ⟨some 14, some (12, true), none, false, .ld1 (.t 13)⟩,
  ⟨some 15, some (12, true), none, false, .lenL (.t 14)⟩,
  ⟨some 16, some (12, true), none, false, .bin .leq 3 true (.t 15) (.v (.int .i64 256))⟩,
  ⟨some 17, none, none, false, .pick (.t 12) (.t 16) (.v (.bool false))⟩,
  ⟨some 18, none, none, false, .mov (.t 17)⟩,
  ⟨some 19, some (18, false), none, false, .fa 1 (.t 2)⟩,
  ⟨some 20, some (18, false), none, false, .ld1 (.t 19)⟩,
  ⟨some 21, some (18, false), none, false, .lenL (.t 20)⟩,
  ⟨some 22, some (18, false), none, false, .bin .gtr 3 true (.t 21) (.v (.int .i64 258))⟩,
  ⟨some 23, none, none, false, .pick (.t 18) (.v (.bool true)) (.t 22)⟩,
  ⟨some 24, none, none, false, .mov (.t 23)⟩,
  ⟨some 25, some (24, false), none, false, .fa 2 (.t 2)⟩,
  ⟨some 26, some (24, false), none, false, .ld1 (.t 25)⟩,
  ⟨some 27, some (24, false), none, false, .lenL (.t 26)⟩,
  ⟨some 28, some (24, false), none, false, .bin .gtr 3 true (.t 27) (.v (.int .i64 260))⟩,
  ⟨some 29, none, none, false, .pick (.t 24) (.v (.bool true)) (.t 28)⟩]) (.cond (.t 29) (.seq (.ops [⟨some 4, none, none, false, .mov (.v (.bool false))⟩]) .ret) .skip)) (.seq (.seq (.ops [⟨some 5, none, none, false, .mov (.v (.int .i64 0))⟩]) (.block 0 (.loop r44_l0))) (.seq (.seq (.ops [⟨some 6, none, none, false, .mov (.v (.int .i64 0))⟩]) (.block 2 (.loop r44_l1))) (.seq (.ops [⟨some 4, none, none, false, .mov (.v (.bool true))⟩]) .ret)))))
theorem k44 : fnRC 44 = some ([.tmp 4], r44) := by kernel_rfl

def r50_l0 : RC := (.seq (.seq (.ops [⟨some 52, none, none, false, .mov (.t 4)⟩,
  ⟨some 53, none, none, false, .fa 1 (.t 1)⟩,
  ⟨some 54, none, none, false, .ld1 (.t 53)⟩,
  ⟨some 55, none, none, false, .mov (.t 3)⟩,
  ⟨some 56, none, none, false, .ixa 1 (.t 54) (.t 55)⟩,
  ⟨some 57, none, none, false, .ld1 (.t 56)⟩,
  ⟨some 58, none, none, false, .lenL (.t 57)⟩,
  ⟨some 59, none, none, false, .bin .lss 3 false (.t 52) (.t 58)⟩]) (.cond (.t 59) .skip (.exit 2))) (.seq (.block 3 (.seq (.drw 13 [⟨some 62, none, none, false, .fa 1 (.t 1)⟩,
  ⟨some 63, none, none, false, .ld1 (.t 62)⟩,
  ⟨some 64, none, none, false, .mov (.t 3)⟩,
  ⟨some 65, none, none, false, .ixa 1 (.t 63) (.t 64)⟩,
  ⟨some 66, none, none, false, .ld1 (.t 65)⟩,
  ⟨some 67, none, none, false, .mov (.t 4)⟩,
  ⟨some 68, none, none, false, .ixa 1 (.t 66) (.t 67)⟩,
  ⟨some 69, none, none, false, .ld1 (.t 68)⟩,
  ⟨some 70, none, none, false, .fa 1 (.t 1)⟩,
  ⟨some 71, none, none, false, .ld1 (.t 70)⟩,
  ⟨some 72, none, none, false, .lenL (.t 71)⟩,
  ⟨some 73, none, none, false, .bin .sub 3 true (.t 72) (.v (.int .i64 1))⟩,
  ⟨some 74, none, none, false, .call 94 [(.t 69), (.v (.int .i64 0)), (.t 73)]⟩]) (.cond (.t 74) (.seq (.ops [⟨some 2, none, none, false, .mov (.v (.int .i64 10))⟩]) .ret) .skip))) (.ops [⟨some 60, none, none, false, .mov (.t 4)⟩,
  ⟨some 61, none, none, false, .bin .add 3 true (.t 60) (.v (.int .i64 1))⟩,
  ⟨some 4, none, none, false, .mov (.t 61)⟩])))
def r50_l1 : RC := (.seq (.seq (.ops [⟨some 23, none, none, false, .mov (.t 3)⟩,
  ⟨some 24, none, none, false, .fa 1 (.t 1)⟩,
  ⟨some 25, none, none, false, .ld1 (.t 24)⟩,
  ⟨some 26, none, none, false, .lenL (.t 25)⟩,
  ⟨some 27, none, none, false, .bin .lss 3 false (.t 23) (.t 26)⟩]) (.cond (.t 27) .skip (.exit 0))) (.seq (.block 1 (.seq (.seq (.drw 22 [⟨some 30, none, none, false, .fa 1 (.t 1)⟩,
  ⟨some 31, none, none, false, .ld1 (.t 30)⟩,
  ⟨some 32, none, none, false, .mov (.t 3)⟩,
  ⟨some 33, none, none, false, .ixa 1 (.t 31) (.t 32)⟩,
  ⟨some 34, none, none, false, .ld1 (.t 33)⟩,
  ⟨some 35, none, none, false, .lenL (.t 34)⟩,
  ⟨some 36, none, none, false, .fa 0 (.t 1)⟩,
  ⟨some 37, none, none, false, .ld1 (.t 36)⟩,
  ⟨some 38, none, none, false, .bin .shl 3 true (.v (.int .i64 1)) (.t 37)⟩,
  ⟨some 39, none, none, false, .bin .neq 3 false (.t 35) (.t 38)⟩,
  ⟨some 40, none, none, false, .mov (.t 39)⟩,
  ⟨some 41, some (40, false), none, false, .fa 2 (.t 1)⟩,
  ⟨some 42, some (40, false), none, false, .ld1 (.t 41)⟩,
  ⟨some 43, some (40, false), none, false, .mov (.t 3)⟩,
  ⟨some 44, some (40, false), none, false, .ixa 1 (.t 42) (.t 43)⟩,
  ⟨some 45, some (40, false), none, false, .ld1 (.t 44)⟩,
  ⟨some 46, some (40, false), none, false, .lenL (.t 45)⟩,
  ⟨some 47, some (40, false), none, false, .fa 0 (.t 1)⟩,
  ⟨some 48, some (40, false), none, false, .ld1 (.t 47)⟩,
  ⟨some 49, some (40, false), none, false, .bin .shl 3 true (.v (.int .i64 1)) (.t 48)⟩,
  ⟨some 50, some (40, false), none, false, .bin .neq 3 false (.t 46) (.t 49)⟩,
  ⟨some 51, none, none, false, .pick (.t 40) (.v (.bool true)) (.t 50)⟩]) (.cond (.t 51) (.seq (.ops [⟨some 2, none, none, false, .mov (.v (.int .i64 2))⟩]) .ret) .skip)) (.seq (.ops [⟨some 4, none, none, false, .mov (.v (.int .i64 0))⟩]) (.block 2 (.loop r50_l0))))) (.ops [⟨some 28, none, none, false, .mov (.t 3)⟩,
  ⟨some 29, none, none, false, .bin .add 3 true (.t 28) (.v (.int .i64 1))⟩,
  ⟨some 3, none, none, false, .mov (.t 29)⟩])))
/-- strobe/stroberef04.CheckAutomaton; results .tmp 2 -/
def r50 : RC := (.seq (.ops [⟨some 1, none, none, false, .box 72 (.t 0)⟩,
  ⟨some 2, none, none, false, .mov (.v (.int .i64 0))⟩]) (.seq (.seq (.ops [⟨some 5, none, none, false, .fa 0 (.t 1)⟩,
  ⟨some 6, none, none, false, .ld1 (.t 5)⟩,
  ⟨some 7, none, none, false, .call 94 [(.t 6), (.v (.int .i64 1)), (.v (.int .i64 4))]⟩]) (.cond (.t 7) (.seq (.ops [⟨some 2, none, none, false, .mov (.v (.int .i64 3))⟩]) .ret) .skip)) (.seq (.seq (.ops [⟨some 8, none, none, false, .fa 1 (.t 1)⟩,
  ⟨some 9, none, none, false, .ld1 (.t 8)⟩,
  ⟨some 10, none, none, false, .lenL (.t 9)⟩,
  ⟨some 11, none, none, false, .bin .eql 3 true (.t 10) (.v (.int .i64 0))⟩]) (.cond (.t 11) (.seq (.ops [⟨some 2, none, none, false, .mov (.v (.int .i64 12))⟩]) .ret) .skip)) (.seq (.seq (.ops [⟨some 12, none, none, false, .fa 1 (.t 1)⟩,
  ⟨some 13, none, none, false, .ld1 (.t 12)⟩,
  ⟨some 14, none, none, false, .lenL (.t 13)⟩,
  ⟨some 15, none, none, false, .bin .gtr 3 true (.t 14) (.v (.int .i64 256))⟩]) (.cond (.t 15) (.seq (.ops [⟨some 2, none, none, false, .mov (.v (.int .i64 5))⟩]) .ret) .skip)) (.seq (.seq (.ops [⟨some 16, none, none, false, .fa 2 (.t 1)⟩,
  ⟨some 17, none, none, false, .ld1 (.t 16)⟩,
  ⟨some 18, none, none, false, .lenL (.t 17)⟩,
  ⟨some 19, none, none, false, .fa 1 (.t 1)⟩,
  ⟨some 20, none, none, false, .ld1 (.t 19)⟩,
  ⟨some 21, none, none, false, .lenL (.t 20)⟩,
  ⟨some 22, none, none, false, .bin .neq 3 false (.t 18) (.t 21)⟩]) (.cond (.t 22) (.seq (.ops [⟨some 2, none, none, false, .mov (.v (.int .i64 2))⟩]) .ret) .skip)) (.seq (.seq (.ops [⟨some 3, none, none, false, .mov (.v (.int .i64 0))⟩]) (.block 0 (.loop r50_l1))) (.seq (.ops [⟨some 2, none, none, false, .mov (.v (.int .i64 0))⟩]) .ret)))))))
theorem k50 : fnRC 50 = some ([.tmp 2], r50) := by kernel_rfl

def r57_l0 : RC := (.seq (.ops [⟨some 20, none, none, false, .bin .lss 3 false (.t 19) (.t 18)⟩]) (.seq (.cond (.t 20) .skip (.exit 0)) (.seq (.block 1 (.seq (.ops [⟨some 21, none, none, false, .mov (.t 19)⟩,
  ⟨some 22, none, none, false, .ixa 1 (.t 17) (.t 19)⟩,
  ⟨some 23, none, none, false, .ld1 (.t 22)⟩,
  ⟨some 9, none, none, false, .mov (.t 21)⟩,
  ⟨some 10, none, none, false, .mov (.t 23)⟩]) (.seq (.seq (.ops [⟨some 24, none, none, false, .fa 2 (.t 2)⟩,
  ⟨some 25, none, none, false, .ld1 (.t 24)⟩,
  ⟨some 26, none, none, false, .mov (.t 7)⟩,
  ⟨some 27, none, none, false, .ixa 1 (.t 25) (.t 26)⟩,
  ⟨some 28, none, none, false, .ld1 (.t 27)⟩,
  ⟨some 29, none, none, false, .mov (.t 10)⟩,
  ⟨some 30, none, none, false, .ixa 1 (.t 28) (.t 29)⟩,
  ⟨some 31, none, none, false, .ld1 (.t 30)⟩]) (.cond (.t 31) (.ops [⟨some 32, none, none, false, .mov (.t 8)⟩,
  ⟨some 33, none, none, false, .mov (.t 9)⟩,
  ⟨some 34, none, none, false, .bsl 3 1 1 [(.int .i64 0)] [(0, 1, (.t 33))]⟩,
  ⟨some 35, none, none, false, .app 3 1 8 (.t 32) (.t 34)⟩,
  ⟨some 8, none, none, false, .mov (.t 35)⟩]) .skip)) (.ops [⟨some 36, none, none, false, .fa 1 (.t 2)⟩,
  ⟨some 37, none, none, false, .ld1 (.t 36)⟩,
  ⟨some 38, none, none, false, .mov (.t 7)⟩,
  ⟨some 39, none, none, false, .ixa 1 (.t 37) (.t 38)⟩,
  ⟨some 40, none, none, false, .ld1 (.t 39)⟩,
  ⟨some 41, none, none, false, .mov (.t 10)⟩,
  ⟨some 42, none, none, false, .ixa 1 (.t 40) (.t 41)⟩,
  ⟨some 43, none, none, false, .ld1 (.t 42)⟩,
  ⟨some 7, none, none, false, .mov (.t 43)⟩])))) (.ops [⟨some 44, none, none, false, .bin .add 3 true (.t 19) (.v (.int .i64 1))⟩,
  ⟨some 19, none, none, false, .mov (.t 44)⟩]))))
/-- strobe/trigger.Run; results .tmp 4,.tmp 5 -/
def r57 : RC := (.seq (.ops [⟨some 2, none, none, false, .box 69 (.t 0)⟩,
  ⟨some 4, none, none, false, .mov (.v .nils)⟩,
  ⟨some 5, none, none, false, .mov (.v (.int .i64 0))⟩]) (.seq (.seq (.ops [⟨some 11, none, none, false, .ldn 3 (.t 2)⟩,
  ⟨some 12, none, none, false, .mov (.t 1)⟩,
  ⟨some 13, none, none, false, .call 123 [(.t 11), (.t 12)]⟩,
  ⟨some 6, none, none, false, .mov (.t 13)⟩]) (.seq (.ops [⟨some 14, none, none, false, .mov (.t 6)⟩,
  ⟨some 15, none, none, false, .bin .neq 26 true (.t 14) (.v (.int .i64 0))⟩]) (.cond (.t 15) (.seq (.ops [⟨some 16, none, none, false, .mov (.t 6)⟩,
  ⟨some 4, none, none, false, .mov (.v .nils)⟩,
  ⟨some 5, none, none, false, .mov (.t 16)⟩]) .ret) .skip))) (.seq (.ops [⟨some 7, none, none, false, .mov (.v (.int .i64 0))⟩]) (.seq (.ops [⟨some 8, none, none, false, .mov (.v .nils)⟩]) (.seq (.seq (.ops [⟨some 17, none, none, false, .mov (.t 1)⟩,
  ⟨some 18, none, none, false, .lenL (.t 17)⟩,
  ⟨some 19, none, none, false, .mov (.v (.int .i64 0))⟩]) (.block 0 (.loop r57_l0))) (.seq (.ops [⟨some 45, none, none, false, .mov (.t 8)⟩,
  ⟨some 4, none, none, false, .mov (.t 45)⟩,
  ⟨some 5, none, none, false, .mov (.v (.int .i64 0))⟩]) .ret))))))
theorem k57 : fnRC 57 = some ([.tmp 4, .tmp 5], r57) := by kernel_rfl

def r58_l0 : RC := (.seq (.ops [⟨some 39, none, none, false, .bin .lss 3 false (.t 38) (.t 37)⟩]) (.seq (.cond (.t 39) .skip (.exit 0)) (.seq (.block 1 (.seq (.ops [⟨some 40, none, none, false, .mov (.t 38)⟩,
  ⟨some 41, none, none, false, .ixa 1 (.t 36) (.t 38)⟩,
  ⟨some 42, none, none, false, .ld1 (.t 41)⟩,
  ⟨some 4, none, none, false, .mov (.t 40)⟩,
  ⟨some 5, none, none, false, .mov (.t 42)⟩]) (.seq (.drw 19 [⟨some 43, none, none, false, .mov (.t 5)⟩,
  ⟨some 44, none, none, false, .lenL (.t 43)⟩,
  ⟨some 45, none, none, false, .fa 0 (.t 1)⟩,
  ⟨some 46, none, none, false, .ld1 (.t 45)⟩,
  ⟨some 47, none, none, false, .bin .shl 3 true (.v (.int .i64 1)) (.t 46)⟩,
  ⟨some 48, none, none, false, .bin .neq 3 false (.t 44) (.t 47)⟩,
  ⟨some 49, none, none, false, .mov (.t 48)⟩,
  ⟨some 50, some (49, false), none, false, .fa 2 (.t 1)⟩,
  ⟨some 51, some (49, false), none, false, .ld1 (.t 50)⟩,
  ⟨some 52, some (49, false), none, false, .mov (.t 4)⟩,
  ⟨some 53, some (49, false), none, false, .ixa 1 (.t 51) (.t 52)⟩,
  ⟨some 54, some (49, false), none, false, .ld1 (.t 53)⟩,
  ⟨some 55, some (49, false), none, false, .lenL (.t 54)⟩,
  ⟨some 56, some (49, false), none, false, .fa 0 (.t 1)⟩,
  ⟨some 57, some (49, false), none, false, .ld1 (.t 56)⟩,
  ⟨some 58, some (49, false), none, false, .bin .shl 3 true (.v (.int .i64 1)) (.t 57)⟩,
  ⟨some 59, some (49, false), none, false, .bin .neq 3 false (.t 55) (.t 58)⟩,
  ⟨some 60, none, none, false, .pick (.t 49) (.v (.bool true)) (.t 59)⟩,
  ⟨some 6, none, none, false, .mov (.t 60)⟩]) (.seq (.ops [⟨some 61, none, none, false, .mov (.t 5)⟩,
  ⟨some 62, none, none, false, .mkf 126 [] [(.t 1)]⟩,
  ⟨some 63, none, none, false, .call 125 [(.t 61), (.t 62)]⟩,
  ⟨some 7, none, none, false, .mov (.t 63)⟩]) (.seq (.ops [⟨some 64, none, none, false, .mov (.t 6)⟩,
  ⟨some 65, none, none, false, .call 116 [(.t 64), (.v (.int .i64 2))]⟩,
  ⟨some 66, none, none, false, .mov (.t 7)⟩,
  ⟨some 67, none, none, false, .call 116 [(.t 66), (.v (.int .i64 10))]⟩,
  ⟨some 68, none, none, false, .bsl 26 1 2 [(.int .i64 0), (.int .i64 0)] [(0, 1, (.t 65)), (1, 1, (.t 67))]⟩,
  ⟨some 69, none, none, false, .call 89 [(.t 68)]⟩,
  ⟨some 8, none, none, false, .mov (.t 69)⟩]) (.seq (.ops [⟨some 70, none, none, false, .mov (.t 8)⟩,
  ⟨some 71, none, none, false, .bin .neq 26 true (.t 70) (.v (.int .i64 0))⟩]) (.cond (.t 71) (.seq (.ops [⟨some 72, none, none, false, .mov (.t 8)⟩,
  ⟨some 2, none, none, false, .mov (.t 72)⟩]) .ret) .skip))))))) (.ops [⟨some 73, none, none, false, .bin .add 3 true (.t 38) (.v (.int .i64 1))⟩,
  ⟨some 38, none, none, false, .mov (.t 73)⟩]))))
/-- strobe/trigger.CheckAutomaton; results .tmp 2 -/
def r58 : RC := (.seq (.ops [⟨some 1, none, none, false, .box 69 (.t 0)⟩,
  ⟨some 2, none, none, false, .mov (.v (.int .i64 0))⟩]) (.seq (.seq (.drw 24 [⟨some 9, none, none, false, .fa 0 (.t 1)⟩,
  ⟨some 10, none, none, false, .ld1 (.t 9)⟩,
  ⟨some 11, none, none, false, .call 124 [(.t 10), (.v (.int .i64 1)), (.v (.int .i64 4))]⟩,
  ⟨some 12, none, none, false, .fa 1 (.t 1)⟩,
  ⟨some 13, none, none, false, .ld1 (.t 12)⟩,
  ⟨some 14, none, none, false, .lenL (.t 13)⟩,
  ⟨some 15, none, none, false, .bin .eql 3 true (.t 14) (.v (.int .i64 0))⟩,
  ⟨some 16, none, none, false, .call 116 [(.t 15), (.v (.int .i64 12))]⟩,
  ⟨some 17, none, none, false, .fa 1 (.t 1)⟩,
  ⟨some 18, none, none, false, .ld1 (.t 17)⟩,
  ⟨some 19, none, none, false, .lenL (.t 18)⟩,
  ⟨some 20, none, none, false, .bin .gtr 3 true (.t 19) (.v (.int .i64 256))⟩,
  ⟨some 21, none, none, false, .call 116 [(.t 20), (.v (.int .i64 5))]⟩,
  ⟨some 22, none, none, false, .fa 2 (.t 1)⟩,
  ⟨some 23, none, none, false, .ld1 (.t 22)⟩,
  ⟨some 24, none, none, false, .lenL (.t 23)⟩,
  ⟨some 25, none, none, false, .fa 1 (.t 1)⟩,
  ⟨some 26, none, none, false, .ld1 (.t 25)⟩,
  ⟨some 27, none, none, false, .lenL (.t 26)⟩,
  ⟨some 28, none, none, false, .bin .neq 3 false (.t 24) (.t 27)⟩,
  ⟨some 29, none, none, false, .call 116 [(.t 28), (.v (.int .i64 2))]⟩,
  ⟨some 30, none, some 21, false, .bsl 26 1 4 [(.int .i64 0), (.int .i64 0), (.int .i64 0), (.int .i64 0)] [(0, 1, (.t 11)), (1, 1, (.t 16)), (2, 1, (.t 21)), (3, 1, (.t 29))]⟩,
  ⟨some 31, none, none, false, .call 89 [(.t 30)]⟩,
  ⟨some 3, none, none, false, .mov (.t 31)⟩]) (.seq (.ops [⟨some 32, none, none, false, .mov (.t 3)⟩,
  ⟨some 33, none, none, false, .bin .neq 26 true (.t 32) (.v (.int .i64 0))⟩]) (.cond (.t 33) (.seq (.ops [⟨some 34, none, none, false, .mov (.t 3)⟩,
  ⟨some 2, none, none, false, .mov (.t 34)⟩]) .ret) .skip))) (.seq (.seq (.ops [⟨some 35, none, none, false, .fa 1 (.t 1)⟩,
  ⟨some 36, none, none, false, .ld1 (.t 35)⟩,
  ⟨some 37, none, none, false, .lenL (.t 36)⟩,
  ⟨some 38, none, none, false, .mov (.v (.int .i64 0))⟩]) (.block 0 (.loop r58_l0))) (.seq (.ops [⟨some 2, none, none, false, .mov (.v (.int .i64 0))⟩]) .ret))))
theorem k58 : fnRC 58 = some ([.tmp 2], r58) := by kernel_rfl

/-- strobe/trigger.Minimal; results .cell 2 69,.tmp 3 -/
def r59 : RC := (.seq (.ops [⟨some 1, none, none, false, .box 69 (.t 0)⟩,
  ⟨some 2, none, none, false, .al [(.int .i64 0), .nils, .nils] 69⟩,
  ⟨some 3, none, none, false, .mov (.v (.int .i64 0))⟩]) (.seq (.seq (.ops [⟨some 5, none, none, false, .ldn 3 (.t 1)⟩,
  ⟨some 6, none, none, false, .call 58 [(.t 5)]⟩,
  ⟨some 4, none, none, false, .mov (.t 6)⟩]) (.seq (.ops [⟨some 7, none, none, false, .mov (.t 4)⟩,
  ⟨some 8, none, none, false, .bin .neq 26 true (.t 7) (.v (.int .i64 0))⟩]) (.cond (.t 8) (.seq (.ops [⟨some 9, none, none, false, .bld [(.int .i64 0), .nils, .nils] []⟩,
  ⟨some 10, none, none, false, .mov (.t 4)⟩,
  ⟨none, none, none, false, .st 3 (.t 2) (.t 9)⟩,
  ⟨some 3, none, none, false, .mov (.t 10)⟩]) .ret) .skip))) (.seq (.ops [⟨some 11, none, none, false, .ldn 3 (.t 1)⟩,
  ⟨some 12, none, none, false, .call 104 [(.t 11)]⟩,
  ⟨none, none, none, false, .st 3 (.t 2) (.t 12)⟩,
  ⟨some 3, none, none, false, .mov (.v (.int .i64 0))⟩]) .ret)))
theorem k59 : fnRC 59 = some ([.cell 2 69, .tmp 3], r59) := by kernel_rfl

def r60_l0 : RC := (.seq (.seq (.ops [⟨some 31, none, none, false, .mov (.t 5)⟩,
  ⟨some 32, none, none, false, .fa 1 (.t 2)⟩,
  ⟨some 33, none, none, false, .ld1 (.t 32)⟩,
  ⟨some 34, none, none, false, .lenL (.t 33)⟩,
  ⟨some 35, none, none, false, .bin .lss 3 false (.t 31) (.t 34)⟩]) (.cond (.t 35) .skip (.exit 0))) (.seq (.block 1 (.seq (.drw 12 [⟨some 38, none, none, false, .fa 1 (.t 2)⟩,
  ⟨some 39, none, none, false, .ld1 (.t 38)⟩,
  ⟨some 40, none, none, false, .mov (.t 5)⟩,
  ⟨some 41, none, none, false, .ixa 1 (.t 39) (.t 40)⟩,
  ⟨some 42, none, none, false, .ld1 (.t 41)⟩,
  ⟨some 43, none, none, false, .fa 1 (.t 3)⟩,
  ⟨some 44, none, none, false, .ld1 (.t 43)⟩,
  ⟨some 45, none, none, false, .mov (.t 5)⟩,
  ⟨some 46, none, none, false, .ixa 1 (.t 44) (.t 45)⟩,
  ⟨some 47, none, none, false, .ld1 (.t 46)⟩,
  ⟨some 48, none, none, false, .call 109 [(.t 42), (.t 47)]⟩,
  ⟨some 49, none, none, false, .un .not (.t 48)⟩]) (.cond (.t 49) (.seq (.ops [⟨some 4, none, none, false, .mov (.v (.bool false))⟩]) .ret) .skip))) (.ops [⟨some 36, none, none, false, .mov (.t 5)⟩,
  ⟨some 37, none, none, false, .bin .add 3 true (.t 36) (.v (.int .i64 1))⟩,
  ⟨some 5, none, none, false, .mov (.t 37)⟩])))
def r60_l1 : RC := (.seq (.seq (.ops [⟨some 70, none, none, false, .mov (.t 7)⟩,
  ⟨some 71, none, none, false, .fa 2 (.t 2)⟩,
  ⟨some 72, none, none, false, .ld1 (.t 71)⟩,
  ⟨some 73, none, none, false, .mov (.t 6)⟩,
  ⟨some 74, none, none, false, .ixa 1 (.t 72) (.t 73)⟩,
  ⟨some 75, none, none, false, .ld1 (.t 74)⟩,
  ⟨some 76, none, none, false, .lenL (.t 75)⟩,
  ⟨some 77, none, none, false, .bin .lss 3 false (.t 70) (.t 76)⟩]) (.cond (.t 77) .skip (.exit 4))) (.seq (.block 5 (.seq (.drw 17 [⟨some 80, none, none, false, .fa 2 (.t 2)⟩,
  ⟨some 81, none, none, false, .ld1 (.t 80)⟩,
  ⟨some 82, none, none, false, .mov (.t 6)⟩,
  ⟨some 83, none, none, false, .ixa 1 (.t 81) (.t 82)⟩,
  ⟨some 84, none, none, false, .ld1 (.t 83)⟩,
  ⟨some 85, none, none, false, .mov (.t 7)⟩,
  ⟨some 86, none, none, false, .ixa 1 (.t 84) (.t 85)⟩,
  ⟨some 87, none, none, false, .ld1 (.t 86)⟩,
  ⟨some 88, none, none, false, .fa 2 (.t 3)⟩,
  ⟨some 89, none, none, false, .ld1 (.t 88)⟩,
  ⟨some 90, none, none, false, .mov (.t 6)⟩,
  ⟨some 91, none, none, false, .ixa 1 (.t 89) (.t 90)⟩,
  ⟨some 92, none, none, false, .ld1 (.t 91)⟩,
  ⟨some 93, none, none, false, .mov (.t 7)⟩,
  ⟨some 94, none, none, false, .ixa 1 (.t 92) (.t 93)⟩,
  ⟨some 95, none, none, false, .ld1 (.t 94)⟩,
  ⟨some 96, none, none, false, .bin .neq 4 false (.t 87) (.t 95)⟩]) (.cond (.t 96) (.seq (.ops [⟨some 4, none, none, false, .mov (.v (.bool false))⟩]) .ret) .skip))) (.ops [⟨some 78, none, none, false, .mov (.t 7)⟩,
  ⟨some 79, none, none, false, .bin .add 3 true (.t 78) (.v (.int .i64 1))⟩,
  ⟨some 7, none, none, false, .mov (.t 79)⟩])))
def r60_l2 : RC := (.seq (.seq (.ops [⟨some 50, none, none, false, .mov (.t 6)⟩,
  ⟨some 51, none, none, false, .fa 2 (.t 2)⟩,
  ⟨some 52, none, none, false, .ld1 (.t 51)⟩,
  ⟨some 53, none, none, false, .lenL (.t 52)⟩,
  ⟨some 54, none, none, false, .bin .lss 3 false (.t 50) (.t 53)⟩]) (.cond (.t 54) .skip (.exit 2))) (.seq (.block 3 (.seq (.seq (.drw 13 [⟨some 57, none, none, false, .fa 2 (.t 2)⟩,
  ⟨some 58, none, none, false, .ld1 (.t 57)⟩,
  ⟨some 59, none, none, false, .mov (.t 6)⟩,
  ⟨some 60, none, none, false, .ixa 1 (.t 58) (.t 59)⟩,
  ⟨some 61, none, none, false, .ld1 (.t 60)⟩,
  ⟨some 62, none, none, false, .lenL (.t 61)⟩,
  ⟨some 63, none, none, false, .fa 2 (.t 3)⟩,
  ⟨some 64, none, none, false, .ld1 (.t 63)⟩,
  ⟨some 65, none, none, false, .mov (.t 6)⟩,
  ⟨some 66, none, none, false, .ixa 1 (.t 64) (.t 65)⟩,
  ⟨some 67, none, none, false, .ld1 (.t 66)⟩,
  ⟨some 68, none, none, false, .lenL (.t 67)⟩,
  ⟨some 69, none, none, false, .bin .neq 3 false (.t 62) (.t 68)⟩]) (.cond (.t 69) (.seq (.ops [⟨some 4, none, none, false, .mov (.v (.bool false))⟩]) .ret) .skip)) (.seq (.ops [⟨some 7, none, none, false, .mov (.v (.int .i64 0))⟩]) (.block 4 (.loop r60_l1))))) (.ops [⟨some 55, none, none, false, .mov (.t 6)⟩,
  ⟨some 56, none, none, false, .bin .add 3 true (.t 55) (.v (.int .i64 1))⟩,
  ⟨some 6, none, none, false, .mov (.t 56)⟩])))
/-- strobe/stroberef04.SameAutomata; results .tmp 4 -/
def r60 : RC := (.seq (.ops [⟨some 2, none, none, false, .box 72 (.t 0)⟩,
  ⟨some 3, none, none, false, .box 72 (.t 1)⟩,
  ⟨some 4, none, none, false, .mov (.v (.bool false))⟩]) (.seq (.seq (.ops [⟨some 8, none, none, false, .fa 0 (.t 2)⟩,
  ⟨some 9, none, none, false, .ld1 (.t 8)⟩,
  ⟨some 10, none, none, false, .fa 0 (.t 3)⟩,
  ⟨some 11, none, none, false, .ld1 (.t 10)⟩,
  ⟨some 12, none, none, false, .bin .neq 3 false (.t 9) (.t 11)⟩,
  ⟨some 13, none, none, false, .mov (.t 12)⟩,
  ⟨some 14, some (13, false), none, false, .fa 1 (.t 2)⟩,
  ⟨some 15, some (13, false), none, false, .ld1 (.t 14)⟩,
  ⟨some 16, some (13, false), none, false, .lenL (.t 15)⟩,
  ⟨some 17, some (13, false), none, false, .fa 1 (.t 3)⟩,
  ⟨some 18, some (13, false), none, false, .ld1 (.t 17)⟩,
  ⟨some 19, some (13, false), none, false, .lenL (.t 18)⟩,
  ⟨some 20, some (13, false), none, false, .bin .neq 3 false (.t 16) (.t 19)⟩,
  ⟨some 21, none, none, false, .pick (.t 13) (.v (.bool true)) (.t 20)⟩,
  ⟨some 22, none, none, false, .mov (.t 21)⟩,
  ⟨some 23, some (22, false), none, false, .fa 2 (.t 2)⟩,
  ⟨some 24, some (22, false), none, false, .ld1 (.t 23)⟩,
  ⟨some 25, some (22, false), none, false, .lenL (.t 24)⟩,
  ⟨some 26, some (22, false), none, false, .fa 2 (.t 3)⟩,
  ⟨some 27, some (22, false), none, false, .ld1 (.t 26)⟩,
  ⟨some 28, some (22, false), none, false, .lenL (.t 27)⟩,
  ⟨some 29, some (22, false), none, false, .bin .neq 3 false (.t 25) (.t 28)⟩,
  ⟨some 30, none, none, false, .pick (.t 22) (.v (.bool true)) (.t 29)⟩]) (.cond (.t 30) (.seq (.ops [⟨some 4, none, none, false, .mov (.v (.bool false))⟩]) .ret) .skip)) (.seq (.seq (.ops [⟨some 5, none, none, false, .mov (.v (.int .i64 0))⟩]) (.block 0 (.loop r60_l0))) (.seq (.seq (.ops [⟨some 6, none, none, false, .mov (.v (.int .i64 0))⟩]) (.block 2 (.loop r60_l2))) (.seq (.ops [⟨some 4, none, none, false, .mov (.v (.bool true))⟩]) .ret)))))
theorem k60 : fnRC 60 = some ([.tmp 4], r60) := by kernel_rfl

def r62_l0 : RC := (.seq (.ops [⟨some 19, none, none, false, .bin .lss 3 false (.t 18) (.t 17)⟩]) (.seq (.cond (.t 19) .skip (.exit 0)) (.seq (.block 1 (.seq (.ops [⟨some 20, none, none, false, .ixa 1 (.t 16) (.t 18)⟩,
  ⟨some 21, none, none, false, .ld1 (.t 20)⟩,
  ⟨some 9, none, none, false, .mov (.t 21)⟩]) (.ops [⟨some 22, none, none, false, .fa 1 (.t 2)⟩,
  ⟨some 23, none, none, false, .ld1 (.t 22)⟩,
  ⟨some 24, none, none, false, .mov (.t 7)⟩,
  ⟨some 25, none, none, false, .ixa 1 (.t 23) (.t 24)⟩,
  ⟨some 26, none, none, false, .ld1 (.t 25)⟩,
  ⟨some 27, none, none, false, .mov (.t 9)⟩,
  ⟨some 28, none, none, false, .ixa 1 (.t 26) (.t 27)⟩,
  ⟨some 29, none, none, false, .ld1 (.t 28)⟩,
  ⟨some 7, none, none, false, .mov (.t 29)⟩]))) (.ops [⟨some 30, none, none, false, .bin .add 3 true (.t 18) (.v (.int .i64 1))⟩,
  ⟨some 18, none, none, false, .mov (.t 30)⟩]))))
/-- strobe/trigger.Final; results .tmp 4,.tmp 5 -/
def r62 : RC := (.seq (.ops [⟨some 2, none, none, false, .box 69 (.t 0)⟩,
  ⟨some 4, none, none, false, .mov (.v (.int .i64 0))⟩,
  ⟨some 5, none, none, false, .mov (.v (.int .i64 0))⟩]) (.seq (.seq (.ops [⟨some 10, none, none, false, .ldn 3 (.t 2)⟩,
  ⟨some 11, none, none, false, .mov (.t 1)⟩,
  ⟨some 12, none, none, false, .call 123 [(.t 10), (.t 11)]⟩,
  ⟨some 6, none, none, false, .mov (.t 12)⟩]) (.seq (.ops [⟨some 13, none, none, false, .mov (.t 6)⟩,
  ⟨some 14, none, none, false, .bin .neq 26 true (.t 13) (.v (.int .i64 0))⟩]) (.cond (.t 14) (.seq (.ops [⟨some 15, none, none, false, .mov (.t 6)⟩,
  ⟨some 4, none, none, false, .mov (.v (.int .i64 0))⟩,
  ⟨some 5, none, none, false, .mov (.t 15)⟩]) .ret) .skip))) (.seq (.ops [⟨some 7, none, none, false, .mov (.v (.int .i64 0))⟩]) (.seq (.seq (.ops [⟨some 16, none, none, false, .mov (.t 1)⟩,
  ⟨some 17, none, none, false, .lenL (.t 16)⟩,
  ⟨some 18, none, none, false, .mov (.v (.int .i64 0))⟩]) (.block 0 (.loop r62_l0))) (.seq (.ops [⟨some 31, none, none, false, .mov (.t 7)⟩,
  ⟨some 4, none, none, false, .mov (.t 31)⟩,
  ⟨some 5, none, none, false, .mov (.v (.int .i64 0))⟩]) .ret)))))
theorem k62 : fnRC 62 = some ([.tmp 4, .tmp 5], r62) := by kernel_rfl

def r63_l0 : RC := (.seq (.seq (.ops [⟨some 9, none, none, false, .mov (.t 8)⟩,
  ⟨some 10, none, none, false, .mov (.t 1)⟩,
  ⟨some 11, none, none, false, .lenL (.t 10)⟩,
  ⟨some 12, none, none, false, .bin .lss 3 false (.t 9) (.t 11)⟩]) (.cond (.t 12) .skip (.exit 0))) (.seq (.block 1 (.seq (.seq (.drw 11 [⟨some 15, none, none, false, .fa 2 (.t 2)⟩,
  ⟨some 16, none, none, false, .ld1 (.t 15)⟩,
  ⟨some 17, none, none, false, .mov (.t 7)⟩,
  ⟨some 18, none, none, false, .ixa 1 (.t 16) (.t 17)⟩,
  ⟨some 19, none, none, false, .ld1 (.t 18)⟩,
  ⟨some 20, none, none, false, .mov (.t 1)⟩,
  ⟨some 21, none, none, false, .mov (.t 8)⟩,
  ⟨some 22, none, none, false, .ixa 1 (.t 20) (.t 21)⟩,
  ⟨some 23, none, none, false, .ld1 (.t 22)⟩,
  ⟨some 24, none, none, false, .ixa 1 (.t 19) (.t 23)⟩,
  ⟨some 25, none, none, false, .ld1 (.t 24)⟩]) (.cond (.t 25) (.ops [⟨some 26, none, none, false, .mov (.t 6)⟩,
  ⟨some 27, none, none, false, .mov (.t 8)⟩,
  ⟨some 28, none, none, false, .bsl 3 1 1 [(.int .i64 0)] [(0, 1, (.t 27))]⟩,
  ⟨some 29, none, none, false, .app 3 1 8 (.t 26) (.t 28)⟩,
  ⟨some 6, none, none, false, .mov (.t 29)⟩]) .skip)) (.drw 12 [⟨some 30, none, none, false, .fa 1 (.t 2)⟩,
  ⟨some 31, none, none, false, .ld1 (.t 30)⟩,
  ⟨some 32, none, none, false, .mov (.t 7)⟩,
  ⟨some 33, none, none, false, .ixa 1 (.t 31) (.t 32)⟩,
  ⟨some 34, none, none, false, .ld1 (.t 33)⟩,
  ⟨some 35, none, none, false, .mov (.t 1)⟩,
  ⟨some 36, none, none, false, .mov (.t 8)⟩,
  ⟨some 37, none, none, false, .ixa 1 (.t 35) (.t 36)⟩,
  ⟨some 38, none, none, false, .ld1 (.t 37)⟩,
  ⟨some 39, none, none, false, .ixa 1 (.t 34) (.t 38)⟩,
  ⟨some 40, none, none, false, .ld1 (.t 39)⟩,
  ⟨some 7, none, none, false, .mov (.t 40)⟩]))) (.ops [⟨some 13, none, none, false, .mov (.t 8)⟩,
  ⟨some 14, none, none, false, .bin .add 3 true (.t 13) (.v (.int .i64 1))⟩,
  ⟨some 8, none, none, false, .mov (.t 14)⟩])))
/-- strobe/stroberef04.Run; results .tmp 4,.tmp 5 -/
def r63 : RC := (.seq (.ops [⟨some 2, none, none, false, .box 72 (.t 0)⟩,
  ⟨some 4, none, none, false, .mov (.v .nils)⟩,
  ⟨some 5, none, none, false, .mov (.v (.int .i64 0))⟩]) (.seq (.ops [⟨some 6, none, none, false, .mov (.v .nils)⟩]) (.seq (.ops [⟨some 7, none, none, false, .mov (.v (.int .i64 0))⟩]) (.seq (.seq (.ops [⟨some 8, none, none, false, .mov (.v (.int .i64 0))⟩]) (.block 0 (.loop r63_l0))) (.seq (.ops [⟨some 41, none, none, false, .mov (.t 6)⟩,
  ⟨some 42, none, none, false, .mov (.t 7)⟩,
  ⟨some 4, none, none, false, .mov (.t 41)⟩,
  ⟨some 5, none, none, false, .mov (.t 42)⟩]) .ret)))))
theorem k63 : fnRC 63 = some ([.tmp 4, .tmp 5], r63) := by kernel_rfl


end Go.Am

set_option linter.all false
namespace Go.Am
open Go
variable [MaxLen]
set_option maxRecDepth 100000
set_option maxHeartbeats 8000000

def r106_l0 : RC := (.seq (.seq (.ops [⟨some 38, none, none, false, .mov (.t 10)⟩,
  ⟨some 39, none, none, false, .fa 0 (.t 1)⟩,
  ⟨some 40, none, none, false, .ld1 (.t 39)⟩,
  ⟨some 41, none, none, false, .bin .shl 3 true (.v (.int .i64 1)) (.t 40)⟩,
  ⟨some 42, none, none, false, .bin .lss 3 false (.t 38) (.t 41)⟩]) (.cond (.t 42) .skip (.exit 6))) (.seq (.block 7 (.drw 46 [⟨some 45, none, none, false, .mov (.t 9)⟩,
  ⟨some 46, none, none, false, .mov (.t 45)⟩,
  ⟨some 47, some (46, true), none, false, .fa 2 (.t 1)⟩,
  ⟨some 48, some (46, true), none, false, .ld1 (.t 47)⟩,
  ⟨some 49, some (46, true), none, false, .mov (.t 7)⟩,
  ⟨some 50, some (46, true), none, false, .ixa 1 (.t 48) (.t 49)⟩,
  ⟨some 51, some (46, true), none, false, .ld1 (.t 50)⟩,
  ⟨some 52, some (46, true), none, false, .mov (.t 10)⟩,
  ⟨some 53, some (46, true), none, false, .ixa 1 (.t 51) (.t 52)⟩,
  ⟨some 54, some (46, true), none, false, .ld1 (.t 53)⟩,
  ⟨some 55, some (46, true), none, false, .fa 2 (.t 1)⟩,
  ⟨some 56, some (46, true), none, false, .ld1 (.t 55)⟩,
  ⟨some 57, some (46, true), none, false, .mov (.t 8)⟩,
  ⟨some 58, some (46, true), none, false, .ixa 1 (.t 56) (.t 57)⟩,
  ⟨some 59, some (46, true), none, false, .ld1 (.t 58)⟩,
  ⟨some 60, some (46, true), none, false, .mov (.t 10)⟩,
  ⟨some 61, some (46, true), none, false, .ixa 1 (.t 59) (.t 60)⟩,
  ⟨some 62, some (46, true), none, false, .ld1 (.t 61)⟩,
  ⟨some 63, some (46, true), none, false, .bin .eql 4 false (.t 54) (.t 62)⟩,
  ⟨some 64, none, none, false, .pick (.t 46) (.t 63) (.v (.bool false))⟩,
  ⟨some 65, none, none, false, .mov (.t 64)⟩,
  ⟨some 66, some (65, true), none, false, .mov (.t 4)⟩,
  ⟨some 67, some (65, true), none, false, .fa 1 (.t 1)⟩,
  ⟨some 68, some (65, true), none, false, .ld1 (.t 67)⟩,
  ⟨some 69, some (65, true), none, false, .mov (.t 7)⟩,
  ⟨some 70, some (65, true), none, false, .ixa 1 (.t 68) (.t 69)⟩,
  ⟨some 71, some (65, true), none, false, .ld1 (.t 70)⟩,
  ⟨some 72, some (65, true), none, false, .mov (.t 10)⟩,
  ⟨some 73, some (65, true), none, false, .ixa 1 (.t 71) (.t 72)⟩,
  ⟨some 74, some (65, true), none, false, .ld1 (.t 73)⟩,
  ⟨some 75, some (65, true), none, false, .ixa 1 (.t 66) (.t 74)⟩,
  ⟨some 76, some (65, true), none, false, .ld1 (.t 75)⟩,
  ⟨some 77, some (65, true), none, false, .mov (.t 4)⟩,
  ⟨some 78, some (65, true), none, false, .fa 1 (.t 1)⟩,
  ⟨some 79, some (65, true), none, false, .ld1 (.t 78)⟩,
  ⟨some 80, some (65, true), none, false, .mov (.t 8)⟩,
  ⟨some 81, some (65, true), none, false, .ixa 1 (.t 79) (.t 80)⟩,
  ⟨some 82, some (65, true), none, false, .ld1 (.t 81)⟩,
  ⟨some 83, some (65, true), none, false, .mov (.t 10)⟩,
  ⟨some 84, some (65, true), none, false, .ixa 1 (.t 82) (.t 83)⟩,
  ⟨some 85, some (65, true), none, false, .ld1 (.t 84)⟩,
  ⟨some 86, some (65, true), none, false, .ixa 1 (.t 77) (.t 85)⟩,
  ⟨some 87, some (65, true), none, false, .ld1 (.t 86)⟩,
  ⟨some 88, some (65, true), none, false, .bin .eql 3 false (.t 76) (.t 87)⟩,
  ⟨some 89, none, none, false, .pick (.t 65) (.t 88) (.v (.bool false))⟩,
  ⟨some 9, none, none, false, .mov (.t 89)⟩])) (.ops [⟨some 43, none, none, false, .mov (.t 10)⟩,
  ⟨some 44, none, none, false, .bin .add 3 true (.t 43) (.v (.int .i64 1))⟩,
  ⟨some 10, none, none, false, .mov (.t 44)⟩])))
def r106_l1 : RC := (.seq (.seq (.ops [⟨some 34, none, none, false, .mov (.t 8)⟩,
  ⟨some 35, none, none, false, .bin .geq 3 true (.t 34) (.v (.int .i64 0))⟩]) (.cond (.t 35) .skip (.exit 4))) (.seq (.block 5 (.seq (.ops [⟨some 9, none, none, false, .mov (.v (.bool true))⟩]) (.seq (.seq (.ops [⟨some 10, none, none, false, .mov (.v (.int .i64 0))⟩]) (.block 6 (.loop r106_l0))) (.seq (.ops [⟨some 90, none, none, false, .mov (.t 9)⟩]) (.cond (.t 90) (.ops [⟨some 91, none, none, false, .mov (.t 6)⟩,
  ⟨some 92, none, none, false, .mov (.t 7)⟩,
  ⟨some 93, none, none, false, .mov (.t 8)⟩,
  ⟨some 94, none, none, false, .ixa 1 (.t 91) (.t 92)⟩,
  ⟨none, none, none, false, .st 1 (.t 94) (.t 93)⟩]) .skip))))) (.ops [⟨some 36, none, none, false, .mov (.t 8)⟩,
  ⟨some 37, none, none, false, .bin .sub 3 true (.t 36) (.v (.int .i64 1))⟩,
  ⟨some 8, none, none, false, .mov (.t 37)⟩])))
def r106_l2 : RC := (.seq (.seq (.ops [⟨some 23, none, none, false, .mov (.t 7)⟩,
  ⟨some 24, none, none, false, .mov (.t 3)⟩,
  ⟨some 25, none, none, false, .bin .lss 3 false (.t 23) (.t 24)⟩]) (.cond (.t 25) .skip (.exit 2))) (.seq (.block 3 (.seq (.ops [⟨some 28, none, none, false, .mov (.t 6)⟩,
  ⟨some 29, none, none, false, .mov (.t 7)⟩,
  ⟨some 30, none, none, false, .mov (.t 7)⟩,
  ⟨some 31, none, none, false, .ixa 1 (.t 28) (.t 29)⟩,
  ⟨none, none, none, false, .st 1 (.t 31) (.t 30)⟩]) (.seq (.ops [⟨some 32, none, none, false, .mov (.t 7)⟩,
  ⟨some 33, none, none, false, .bin .sub 3 true (.t 32) (.v (.int .i64 1))⟩,
  ⟨some 8, none, none, false, .mov (.t 33)⟩]) (.block 4 (.loop r106_l1))))) (.ops [⟨some 26, none, none, false, .mov (.t 7)⟩,
  ⟨some 27, none, none, false, .bin .add 3 true (.t 26) (.v (.int .i64 1))⟩,
  ⟨some 7, none, none, false, .mov (.t 27)⟩])))
def r106_l3 : RC := (.seq (.seq (.ops [⟨some 16, none, none, false, .mov (.t 5)⟩,
  ⟨some 17, none, none, false, .mov (.t 3)⟩,
  ⟨some 18, none, none, false, .bin .leq 3 false (.t 16) (.t 17)⟩]) (.cond (.t 18) .skip (.exit 0))) (.seq (.block 1 (.seq (.ops [⟨some 21, none, none, false, .mov (.t 3)⟩,
  ⟨some 22, none, none, false, .raw (.makeSlice 40 (.tmp 21) (.tmp 21))⟩,
  ⟨some 6, none, none, false, .mov (.t 22)⟩]) (.seq (.seq (.ops [⟨some 7, none, none, false, .mov (.v (.int .i64 0))⟩]) (.block 2 (.loop r106_l2))) (.seq (.seq (.ops [⟨some 95, none, none, false, .mov (.t 6)⟩,
  ⟨some 96, none, none, false, .mov (.t 4)⟩,
  ⟨some 97, none, none, false, .call 109 [(.t 95), (.t 96)]⟩]) (.cond (.t 97) (.seq (.ops [⟨some 98, none, none, false, .mov (.t 4)⟩,
  ⟨some 2, none, none, false, .mov (.t 98)⟩]) .ret) .skip)) (.ops [⟨some 99, none, none, false, .mov (.t 6)⟩,
  ⟨some 4, none, none, false, .mov (.t 99)⟩]))))) (.ops [⟨some 19, none, none, false, .mov (.t 5)⟩,
  ⟨some 20, none, none, false, .bin .add 3 true (.t 19) (.v (.int .i64 1))⟩,
  ⟨some 5, none, none, false, .mov (.t 20)⟩])))
/-- strobe/stroberef04.classes; results .tmp 2 -/
def r106 : RC := (.seq (.ops [⟨some 1, none, none, false, .box 72 (.t 0)⟩,
  ⟨some 2, none, none, false, .mov (.v .nils)⟩]) (.seq (.ops [⟨some 11, none, none, false, .fa 1 (.t 1)⟩,
  ⟨some 12, none, none, false, .ld1 (.t 11)⟩,
  ⟨some 13, none, none, false, .lenL (.t 12)⟩,
  ⟨some 3, none, none, false, .mov (.t 13)⟩]) (.seq (.ops [⟨some 14, none, none, false, .mov (.t 3)⟩,
  ⟨some 15, none, none, false, .raw (.makeSlice 40 (.tmp 14) (.tmp 14))⟩,
  ⟨some 4, none, none, false, .mov (.t 15)⟩]) (.seq (.seq (.ops [⟨some 5, none, none, false, .mov (.v (.int .i64 0))⟩]) (.block 0 (.loop r106_l3))) (.seq (.ops [⟨some 100, none, none, false, .mov (.t 4)⟩,
  ⟨some 2, none, none, false, .mov (.t 100)⟩]) .ret)))))
theorem k106 : fnRC 106 = some ([.tmp 2], r106) := by kernel_rfl

def r107_l0 : RC := (.seq (.seq (.ops [⟨some 6, none, none, false, .mov (.t 5)⟩,
  ⟨some 7, none, none, false, .mov (.t 0)⟩,
  ⟨some 8, none, none, false, .lenL (.t 7)⟩,
  ⟨some 9, none, none, false, .bin .lss 3 false (.t 6) (.t 8)⟩]) (.cond (.t 9) .skip (.exit 0))) (.seq (.block 1 (.seq (.ops [⟨some 12, none, none, false, .mov (.t 0)⟩,
  ⟨some 13, none, none, false, .mov (.t 5)⟩,
  ⟨some 14, none, none, false, .ixa 1 (.t 12) (.t 13)⟩,
  ⟨some 15, none, none, false, .ld1 (.t 14)⟩,
  ⟨some 16, none, none, false, .mov (.t 1)⟩,
  ⟨some 17, none, none, false, .bin .eql 3 false (.t 15) (.t 16)⟩]) (.cond (.t 17) (.seq (.ops [⟨some 18, none, none, false, .mov (.t 5)⟩,
  ⟨some 4, none, none, false, .mov (.t 18)⟩]) .ret) .skip))) (.ops [⟨some 10, none, none, false, .mov (.t 5)⟩,
  ⟨some 11, none, none, false, .bin .add 3 true (.t 10) (.v (.int .i64 1))⟩,
  ⟨some 5, none, none, false, .mov (.t 11)⟩])))
/-- strobe/stroberef04.has; results .tmp 4 -/
def r107 : RC := (.seq (.ops [⟨some 4, none, none, false, .mov (.v (.int .i64 0))⟩]) (.seq (.seq (.ops [⟨some 5, none, none, false, .mov (.v (.int .i64 0))⟩]) (.block 0 (.loop r107_l0))) (.seq (.ops [⟨some 4, none, none, false, .mov (.v (.int .i64 (-1)))⟩]) .ret)))
theorem k107 : fnRC 107 = some ([.tmp 4], r107) := by kernel_rfl

/-- strobe/trigger.checkRun; results .tmp 4 -/
def r123 : RC := (.seq (.ops [⟨some 2, none, none, false, .box 69 (.t 0)⟩,
  ⟨some 4, none, none, false, .mov (.v (.int .i64 0))⟩]) (.seq (.seq (.ops [⟨some 6, none, none, false, .ldn 3 (.t 2)⟩,
  ⟨some 7, none, none, false, .call 58 [(.t 6)]⟩,
  ⟨some 5, none, none, false, .mov (.t 7)⟩]) (.seq (.ops [⟨some 8, none, none, false, .mov (.t 5)⟩,
  ⟨some 9, none, none, false, .bin .neq 26 true (.t 8) (.v (.int .i64 0))⟩]) (.cond (.t 9) (.seq (.ops [⟨some 10, none, none, false, .mov (.t 5)⟩,
  ⟨some 4, none, none, false, .mov (.t 10)⟩]) .ret) .skip))) (.seq (.ops [⟨some 11, none, none, false, .fa 0 (.t 2)⟩,
  ⟨some 12, none, none, false, .ld1 (.t 11)⟩,
  ⟨some 13, none, none, false, .mov (.t 1)⟩,
  ⟨some 14, none, none, false, .call 91 [(.t 12), (.t 13)]⟩,
  ⟨some 4, none, none, false, .mov (.t 14)⟩]) .ret)))
theorem k123 : fnRC 123 = some ([.tmp 4], r123) := by kernel_rfl

/-- strobe/trigger.CheckAutomaton$1; results .tmp 3 -/
def r126 : RC := (.seq (.ops [⟨some 3, none, none, false, .mov (.v (.bool false))⟩]) (.seq (.ops [⟨some 4, none, none, false, .mov (.t 0)⟩,
  ⟨some 5, none, none, false, .bin .lss 3 true (.t 4) (.v (.int .i64 0))⟩,
  ⟨some 6, none, none, false, .mov (.t 5)⟩,
  ⟨some 7, some (6, false), none, false, .mov (.t 0)⟩,
  ⟨some 8, some (6, false), none, false, .fa 1 (.t 1)⟩,
  ⟨some 9, some (6, false), none, false, .ld1 (.t 8)⟩,
  ⟨some 10, some (6, false), none, false, .lenL (.t 9)⟩,
  ⟨some 11, some (6, false), none, false, .bin .geq 3 false (.t 7) (.t 10)⟩,
  ⟨some 12, none, none, false, .pick (.t 6) (.v (.bool true)) (.t 11)⟩,
  ⟨some 3, none, none, false, .mov (.t 12)⟩]) .ret))
theorem k126 : fnRC 126 = some ([.tmp 3], r126) := by kernel_rfl

/-- slices.Clone[[]bool,bool]; results .tmp 2 -/
def r173 : RC := (.seq (.ops [⟨some 2, none, none, false, .mov (.v .nils)⟩]) (.seq (.seq (.ops [⟨some 3, none, none, false, .mov (.t 0)⟩,
  ⟨some 4, none, none, false, .bin .eql 43 true (.t 3) (.v .nils)⟩]) (.cond (.t 4) (.seq (.ops [⟨some 2, none, none, false, .mov (.v .nils)⟩]) .ret) .skip)) (.seq (.ops [⟨some 5, none, none, false, .bsl 4 1 0 [] []⟩,
  ⟨some 6, none, none, false, .mov (.t 0)⟩,
  ⟨some 7, none, none, false, .app 4 1 1 (.t 5) (.t 6)⟩,
  ⟨some 2, none, none, false, .mov (.t 7)⟩]) .ret)))
theorem k173 : fnRC 173 = some ([.tmp 2], r173) := by kernel_rfl

/-- slices.Clone[[]int,int]; results .tmp 2 -/
def r215 : RC := (.seq (.ops [⟨some 2, none, none, false, .mov (.v .nils)⟩]) (.seq (.seq (.ops [⟨some 3, none, none, false, .mov (.t 0)⟩,
  ⟨some 4, none, none, false, .bin .eql 40 true (.t 3) (.v .nils)⟩]) (.cond (.t 4) (.seq (.ops [⟨some 2, none, none, false, .mov (.v .nils)⟩]) .ret) .skip)) (.seq (.ops [⟨some 5, none, none, false, .bsl 3 1 0 [] []⟩,
  ⟨some 6, none, none, false, .mov (.t 0)⟩,
  ⟨some 7, none, none, false, .app 3 1 8 (.t 5) (.t 6)⟩,
  ⟨some 2, none, none, false, .mov (.t 7)⟩]) .ret)))
theorem k215 : fnRC 215 = some ([.tmp 2], r215) := by kernel_rfl

/-- (*strobe/trigger.parted).mark; results .tmp 4 -/
def r216 : RC := (.seq (.ops [⟨some 4, none, none, false, .mov (.v (.bool false))⟩]) (.seq (.ops [⟨some 9, none, none, false, .mov (.t 0)⟩,
  ⟨some 10, none, none, false, .raw (.nilCheck (.tmp 9))⟩,
  ⟨some 11, none, none, false, .fa 2 (.t 10)⟩,
  ⟨some 12, none, none, false, .ld1 (.t 11)⟩,
  ⟨some 13, none, none, false, .mov (.t 1)⟩,
  ⟨some 14, none, none, false, .ixa 1 (.t 12) (.t 13)⟩,
  ⟨some 15, none, none, false, .ld1 (.t 14)⟩,
  ⟨some 5, none, none, false, .mov (.t 15)⟩]) (.seq (.drw 24 [⟨some 16, none, none, false, .mov (.t 0)⟩,
  ⟨some 17, none, none, false, .raw (.nilCheck (.tmp 16))⟩,
  ⟨some 18, none, none, false, .fa 1 (.t 17)⟩,
  ⟨some 19, none, none, false, .ld1 (.t 18)⟩,
  ⟨some 20, none, none, false, .mov (.t 1)⟩,
  ⟨some 21, none, none, false, .ixa 1 (.t 19) (.t 20)⟩,
  ⟨some 22, none, none, false, .ld1 (.t 21)⟩,
  ⟨some 23, none, none, false, .mov (.t 0)⟩,
  ⟨some 24, none, none, false, .raw (.nilCheck (.tmp 23))⟩,
  ⟨some 25, none, none, false, .fa 3 (.t 24)⟩,
  ⟨some 26, none, none, false, .ld1 (.t 25)⟩,
  ⟨some 27, none, none, false, .mov (.t 5)⟩,
  ⟨some 28, none, none, false, .ixa 1 (.t 26) (.t 27)⟩,
  ⟨some 29, none, none, false, .ld1 (.t 28)⟩,
  ⟨some 30, none, none, false, .mov (.t 0)⟩,
  ⟨some 31, none, none, false, .raw (.nilCheck (.tmp 30))⟩,
  ⟨some 32, none, none, false, .fa 5 (.t 31)⟩,
  ⟨some 33, none, none, false, .ld1 (.t 32)⟩,
  ⟨some 34, none, none, false, .mov (.t 5)⟩,
  ⟨some 35, none, none, false, .ixa 1 (.t 33) (.t 34)⟩,
  ⟨some 36, none, none, false, .ld1 (.t 35)⟩,
  ⟨some 37, none, none, false, .bin .add 3 false (.t 29) (.t 36)⟩,
  ⟨some 6, none, none, false, .mov (.t 22)⟩,
  ⟨some 7, none, none, false, .mov (.t 37)⟩]) (.seq (.seq (.ops [⟨some 38, none, none, false, .mov (.t 6)⟩,
  ⟨some 39, none, none, false, .mov (.t 7)⟩,
  ⟨some 40, none, none, false, .bin .lss 3 false (.t 38) (.t 39)⟩]) (.cond (.t 40) (.seq (.ops [⟨some 4, none, none, false, .mov (.v (.bool false))⟩]) .ret) .skip)) (.seq (.ops [⟨some 41, none, none, false, .mov (.t 0)⟩,
  ⟨some 42, none, none, false, .raw (.nilCheck (.tmp 41))⟩,
  ⟨some 43, none, none, false, .fa 0 (.t 42)⟩,
  ⟨some 44, none, none, false, .ld1 (.t 43)⟩,
  ⟨some 45, none, none, false, .mov (.t 7)⟩,
  ⟨some 46, none, none, false, .ixa 1 (.t 44) (.t 45)⟩,
  ⟨some 47, none, none, false, .ld1 (.t 46)⟩,
  ⟨some 8, none, none, false, .mov (.t 47)⟩]) (.seq (.drw 16 [⟨some 48, none, none, false, .mov (.t 0)⟩,
  ⟨some 49, none, none, false, .raw (.nilCheck (.tmp 48))⟩,
  ⟨some 50, none, none, false, .fa 0 (.t 49)⟩,
  ⟨some 51, none, none, false, .ld1 (.t 50)⟩,
  ⟨some 52, none, none, false, .mov (.t 6)⟩,
  ⟨some 53, none, none, false, .mov (.t 0)⟩,
  ⟨some 54, none, none, false, .raw (.nilCheck (.tmp 53))⟩,
  ⟨some 55, none, none, false, .fa 0 (.t 54)⟩,
  ⟨some 56, none, none, false, .ld1 (.t 55)⟩,
  ⟨some 57, none, none, false, .mov (.t 7)⟩,
  ⟨some 58, none, none, false, .mov (.t 8)⟩,
  ⟨some 59, none, none, false, .mov (.t 1)⟩,
  ⟨some 60, none, none, false, .ixa 1 (.t 51) (.t 52)⟩,
  ⟨none, none, none, true, .st 1 (.t 60) (.t 58)⟩,
  ⟨some 61, none, none, false, .ixa 1 (.t 56) (.t 57)⟩,
  ⟨none, none, none, true, .st 1 (.t 61) (.t 59)⟩]) (.seq (.drw 16 [⟨some 62, none, none, false, .mov (.t 0)⟩,
  ⟨some 63, none, none, false, .raw (.nilCheck (.tmp 62))⟩,
  ⟨some 64, none, none, false, .fa 1 (.t 63)⟩,
  ⟨some 65, none, none, false, .ld1 (.t 64)⟩,
  ⟨some 66, none, none, false, .mov (.t 8)⟩,
  ⟨some 67, none, none, false, .mov (.t 0)⟩,
  ⟨some 68, none, none, false, .raw (.nilCheck (.tmp 67))⟩,
  ⟨some 69, none, none, false, .fa 1 (.t 68)⟩,
  ⟨some 70, none, none, false, .ld1 (.t 69)⟩,
  ⟨some 71, none, none, false, .mov (.t 1)⟩,
  ⟨some 72, none, none, false, .mov (.t 6)⟩,
  ⟨some 73, none, none, false, .mov (.t 7)⟩,
  ⟨some 74, none, none, false, .ixa 1 (.t 65) (.t 66)⟩,
  ⟨none, none, none, true, .st 1 (.t 74) (.t 72)⟩,
  ⟨some 75, none, none, false, .ixa 1 (.t 70) (.t 71)⟩,
  ⟨none, none, none, true, .st 1 (.t 75) (.t 73)⟩]) (.seq (.ops [⟨some 76, none, none, false, .mov (.t 0)⟩,
  ⟨some 77, none, none, false, .raw (.nilCheck (.tmp 76))⟩,
  ⟨some 78, none, none, false, .fa 5 (.t 77)⟩,
  ⟨some 79, none, none, false, .ld1 (.t 78)⟩,
  ⟨some 80, none, none, false, .mov (.t 5)⟩,
  ⟨some 81, none, none, false, .ixa 1 (.t 79) (.t 80)⟩,
  ⟨some 82, none, none, false, .ld1 (.t 81)⟩,
  ⟨some 83, none, none, false, .bin .add 3 true (.t 82) (.v (.int .i64 1))⟩,
  ⟨some 84, none, none, false, .ixa 1 (.t 79) (.t 80)⟩,
  ⟨none, none, none, false, .st 1 (.t 84) (.t 83)⟩]) (.seq (.ops [⟨some 85, none, none, false, .mov (.t 0)⟩,
  ⟨some 86, none, none, false, .raw (.nilCheck (.tmp 85))⟩,
  ⟨some 87, none, none, false, .fa 5 (.t 86)⟩,
  ⟨some 88, none, none, false, .ld1 (.t 87)⟩,
  ⟨some 89, none, none, false, .mov (.t 5)⟩,
  ⟨some 90, none, none, false, .ixa 1 (.t 88) (.t 89)⟩,
  ⟨some 91, none, none, false, .ld1 (.t 90)⟩,
  ⟨some 92, none, none, false, .bin .eql 3 true (.t 91) (.v (.int .i64 1))⟩,
  ⟨some 4, none, none, false, .mov (.t 92)⟩]) .ret)))))))))
theorem k216 : fnRC 216 = some ([.tmp 4], r216) := by kernel_rfl


end Go.Am

set_option linter.all false
namespace Go.Am
open Go
variable [MaxLen]
set_option maxRecDepth 100000
/-- strobe/stroberef04.Outside; results .tmp 6 -/
def r94 : RC := (.seq (.ops [⟨some 6, none, none, false, .mov (.v (.bool false))⟩]) (.seq (.ops [⟨some 7, none, none, false, .mov (.t 0)⟩,
  ⟨some 8, none, none, false, .mov (.t 1)⟩,
  ⟨some 9, none, none, false, .bin .lss 3 false (.t 7) (.t 8)⟩,
  ⟨some 10, none, none, false, .mov (.t 9)⟩,
  ⟨some 11, some (10, false), none, false, .mov (.t 0)⟩,
  ⟨some 12, some (10, false), none, false, .mov (.t 2)⟩,
  ⟨some 13, some (10, false), none, false, .bin .gtr 3 false (.t 11) (.t 12)⟩,
  ⟨some 14, none, none, false, .pick (.t 10) (.v (.bool true)) (.t 13)⟩,
  ⟨some 6, none, none, false, .mov (.t 14)⟩]) .ret))
theorem k94 : fnRC 94 = some ([.tmp 6], r94) := by kernel_rfl

/-- strobe/trigger.when; results .tmp 4 -/
def r116 : RC := (.seq (.ops [⟨some 4, none, none, false, .mov (.v (.int .i64 0))⟩]) (.seq (.seq (.ops [⟨some 5, none, none, false, .mov (.t 0)⟩]) (.cond (.t 5) (.seq (.ops [⟨some 6, none, none, false, .mov (.t 1)⟩,
  ⟨some 4, none, none, false, .mov (.t 6)⟩]) .ret) .skip)) (.seq (.ops [⟨some 4, none, none, false, .mov (.v (.int .i64 0))⟩]) .ret)))
theorem k116 : fnRC 116 = some ([.tmp 4], r116) := by kernel_rfl

/-- strobe/trigger.within; results .tmp 6 -/
def r124 : RC := (.seq (.ops [⟨some 6, none, none, false, .mov (.v (.int .i64 0))⟩]) (.seq (.ops [⟨some 7, none, none, false, .mov (.t 0)⟩,
  ⟨some 8, none, none, false, .mov (.t 1)⟩,
  ⟨some 9, none, none, false, .bin .lss 3 false (.t 7) (.t 8)⟩,
  ⟨some 10, none, none, false, .mov (.t 9)⟩,
  ⟨some 11, some (10, false), none, false, .mov (.t 0)⟩,
  ⟨some 12, some (10, false), none, false, .mov (.t 2)⟩,
  ⟨some 13, some (10, false), none, false, .bin .gtr 3 false (.t 11) (.t 12)⟩,
  ⟨some 14, none, none, false, .pick (.t 10) (.v (.bool true)) (.t 13)⟩,
  ⟨some 15, none, none, false, .call 116 [(.t 14), (.v (.int .i64 3))]⟩,
  ⟨some 6, none, none, false, .mov (.t 15)⟩]) .ret))
theorem k124 : fnRC 124 = some ([.tmp 6], r124) := by kernel_rfl

def r89_l0 : RC := (.seq (.ops [⟨some 8, none, none, false, .bin .lss 3 false (.t 7) (.t 6)⟩]) (.seq (.cond (.t 8) .skip (.exit 0)) (.seq (.block 1 (.seq (.ops [⟨some 9, none, none, false, .ixa 1 (.t 5) (.t 7)⟩,
  ⟨some 10, none, none, false, .ld1 (.t 9)⟩,
  ⟨some 4, none, none, false, .mov (.t 10)⟩]) (.seq (.ops [⟨some 11, none, none, false, .mov (.t 4)⟩,
  ⟨some 12, none, none, false, .bin .neq 26 true (.t 11) (.v (.int .i64 0))⟩]) (.cond (.t 12) (.seq (.ops [⟨some 13, none, none, false, .mov (.t 4)⟩,
  ⟨some 2, none, none, false, .mov (.t 13)⟩]) .ret) .skip)))) (.ops [⟨some 14, none, none, false, .bin .add 3 true (.t 7) (.v (.int .i64 1))⟩,
  ⟨some 7, none, none, false, .mov (.t 14)⟩]))))
/-- strobe/trigger.first; results .tmp 2 -/
def r89 : RC := (.seq (.ops [⟨some 2, none, none, false, .mov (.v (.int .i64 0))⟩]) (.seq (.seq (.ops [⟨some 5, none, none, false, .mov (.t 0)⟩,
  ⟨some 6, none, none, false, .lenL (.t 5)⟩,
  ⟨some 7, none, none, false, .mov (.v (.int .i64 0))⟩]) (.block 0 (.loop r89_l0))) (.seq (.ops [⟨some 2, none, none, false, .mov (.v (.int .i64 0))⟩]) .ret)))
theorem k89 : fnRC 89 = some ([.tmp 2], r89) := by kernel_rfl

end Go.Am

set_option linter.all false
namespace Go.Am
open Go Go.Proofs
variable [MaxLen]
set_option maxRecDepth 100000
theorem ld_25 (a : AV) (s : St) : loadA U 25 a s = ldn 2 a s := loadA_n U ag_25 sz_25 a s
theorem ld_31 (a : AV) (s : St) : loadA U 31 a s = ldn 2 a s := loadA_n U ag_31 sz_31 a s
theorem ld_39 (a : AV) (s : St) : loadA U 39 a s = ldn 7 a s := loadA_n U ag_39 sz_39 a s
theorem ld_48 (a : AV) (s : St) : loadA U 48 a s = ldn 7 a s := loadA_n U ag_48 sz_48 a s
theorem ld_69 (a : AV) (s : St) : loadA U 69 a s = ldn 3 a s := loadA_n U ag_69 sz_69 a s
theorem ld_72 (a : AV) (s : St) : loadA U 72 a s = ldn 3 a s := loadA_n U ag_72 sz_72 a s
theorem ld_116 (a : AV) (s : St) : loadA U 116 a s = ldn 2 a s := loadA_n U ag_116 sz_116 a s
theorem ag_131 : isAggT U 131 = some true := by kernel_rfl
theorem sz_131 : size U 131 = some 2 := by kernel_rfl
theorem ld_131 (a : AV) (s : St) : loadA U 131 a s = ldn 2 a s := loadA_n U ag_131 sz_131 a s
theorem ld_152 (a : AV) (s : St) : loadA U 152 a s = ldn 3 a s := loadA_n U ag_152 sz_152 a s
theorem ag_160 : isAggT U 160 = some true := by kernel_rfl
theorem sz_160 : size U 160 = some 6 := by kernel_rfl
theorem ld_160 (a : AV) (s : St) : loadA U 160 a s = ldn 6 a s := loadA_n U ag_160 sz_160 a s
theorem ag_167 : isAggT U 167 = some true := by kernel_rfl
theorem sz_167 : size U 167 = some 3 := by kernel_rfl
theorem ld_167 (a : AV) (s : St) : loadA U 167 a s = ldn 3 a s := loadA_n U ag_167 sz_167 a s
theorem ld_176 (a : AV) (s : St) : loadA U 176 a s = ldn 5 a s := loadA_n U ag_176 sz_176 a s
theorem ag_305 : isAggT U 305 = some true := by kernel_rfl
theorem sz_305 : size U 305 = some 256 := by kernel_rfl
theorem ld_305 (a : AV) (s : St) : loadA U 305 a s = ldn 256 a s := loadA_n U ag_305 sz_305 a s
theorem gateV_false (x : Option AV) (s : St) : gateV false x s = some (undef, s) := (fun h => h) rfl
theorem gateC_false (X : Cx) (x : Option AV) (f : FuncId) (args : List AV) (s : St) : gateC X false x f args s = some (undef, s) := (fun h => h) rfl
theorem gateV_true (x : Option AV) (s : St) : gateV true x s = pureO x s := (fun h => h) rfl
theorem gateC_true (X : Cx) (x : Option AV) (f : FuncId) (args : List AV) (s : St) : gateC X true x f args s = callK X x f args s := (fun h => h) rfl
def St.upto (s : St) (k : Nat) : St := { s with next := k }
theorem upto_get (s : St) (k j : Nat) : (s.upto k).get j = s.get j := (fun h => h) rfl
theorem upto_next (s : St) (k : Nat) : (s.upto k).next = k := (fun h => h) rfl
theorem go_drw_upto {X : Cx} {β : Type} (fin : Fl → β) (ks : List K) (e : Env) (s : St) (n : Nat) (l : List RO) : go X fin ks (.drw n l) e s = bif noneR s.next s l then goD' X fin ks s.next l e (s.upto (s.next + n)) else stuck X fin ks := go_drw X fin ks e s n l
theorem gb_none {n : Nat} (h : 4 ≤ n) : U.gbase n = none := by
  rw [U_gbase]; unfold gbU gcell
  match n, h with
  | n + 4, _ => rfl
/-- no block stands yet from the counter on -/
def Fr (s : St) : Prop := ∀ j, s.next ≤ j → s.get j = none
theorem Fr.at {s : St} (h : Fr s) (k : Nat) : s.get (s.next + k) = none := h _ (by omega)
theorem Fr.own : Fr (ownSt U) := fun j hj => by
  rw [own_get]; rw [own_next, U_glob] at hj; exact gb_none (by omega)
theorem Fr.new {s : St} (h : Fr s) (x : Blk) : Fr (s.new x) := fun j hj => by
  rw [next_new] at hj; rw [get_new, if_neg (by omega)]; exact h j (by omega)
theorem Fr.put {s : St} (h : Fr s) {k : Nat} (hk : k < s.next) (x : Blk) : Fr (s.put k x) := fun j hj => by
  rw [next_put] at hj; rw [get_put, if_neg (by omega)]; exact h j (by omega)
theorem Fr.upto {s : St} (h : Fr s) {k : Nat} (hk : s.next ≤ k) : Fr (s.upto k) := fun j hj => by
  rw [upto_next] at hj; rw [upto_get]; exact h j (by omega)
attribute [go_sem ↓ high] go_drw_upto
attribute [go_sem ↓] upto_get upto_next
attribute [go_sem] gb_none Option.isNone_none
attribute [go_sem ↓] gateV_false gateC_false gateV_true gateC_true
attribute [go_sem] ld_25 ld_31 ld_39 ld_48 ld_69 ld_72 ld_116 ag_131 sz_131 ld_131 ld_152 ag_160 sz_160 ld_160 ag_167 sz_167 ld_167 ld_176 ag_305 sz_305 ld_305
end Go.Am

set_option linter.unusedVariables false
namespace Go.Am
open Go

/-! # The kinds of conditions -/

inductive Kd where
  | high | low | rise | fall | pattern | enter | pulse | gap | idle | setup | runt | not_ | all_ | any_ | other
  deriving DecidableEq

structure Uses where
  a : Bool
  b : Bool
  mi : Bool
  ma : Bool
  pat : Bool
  kids : Bool
def Kd.known : Kd → Bool
  | .other => false
  | _ => true

end Go.Am

set_option linter.unusedVariables false
set_option linter.unusedSimpArgs false
namespace Go.Am
open Go

/-! # What the two checks of a condition compute, and that they agree -/

def outside (n a b : Int) : Bool := decide (n < a) || decide (n > b)
def firstOf : List Int → Int
  | [] => 0
  | e :: l => br (e != 0) e (firstOf l)
def within (n a b : Int) : Int := br (decide (n < a) || decide (n > b)) 3 0
theorem br_r {β : Type} {p : Bool} {x y y' : β} (h : p = false → y = y') : br p x y = br p x y' := by
  cases p
  · rw [h rfl]
  · rfl
end Go.Am

set_option linter.all false
namespace Go.Am
open Go
variable [MaxLen]
set_option maxRecDepth 100000
set_option maxHeartbeats 4000000

/-! # Contracts: checks of conditions and programs -/

theorem br_int (k : IntKind) (p : Bool) (x y : Int) : br p (AV.int k x) (AV.int k y) = .int k (br p x y) := by cases p <;> rfl
theorem br_bool (p x y : Bool) : br p (AV.bool x) (AV.bool y) = .bool (br p x y) := by cases p <;> rfl
theorem br_str (p : Bool) (x y : Str) : br p (AV.str x) (AV.str y) = .str (br p x y) := by cases p <;> rfl
attribute [go_sem] br_int br_bool br_str

theorem c94 (n a b : Int) : calV U 94 [.int .i64 n, .int .i64 a, .int .i64 b] = some (.bool (outside n a b)) := by
  refine pure_go k94 (by kernel_rfl) rfl ?_
  simp +contextual only [go_sem, ↓reduceIte, r94]
  rfl
theorem c116 (p : Bool) (n : Int) : calV U 116 [.bool p, .int .i64 n] = some (.int .i64 (br p n 0)) := by
  refine pure_go k116 (by kernel_rfl) rfl ?_
  simp +contextual only [go_sem, ↓reduceIte, r116]
theorem c124 (n a b : Int) : calV U 124 [.int .i64 n, .int .i64 a, .int .i64 b] = some (.int .i64 (within n a b)) := by
  refine pure_go k124 (by kernel_rfl) rfl ?_
  simp +contextual only [go_sem, ↓reduceIte, r124, c116]
  rfl
end Go.Am

set_option linter.all false
namespace Go.Am
open Go
variable [MaxLen]
set_option maxRecDepth 100000
set_option maxHeartbeats 4000000

theorem loop_to {X : Cx} {β : Type} {fin : Fl → β} {ks : List K} [Stat] {b : RC} {σ : Type} (m : σ → Nat) (R : σ → β) (I : σ → Env → St → Prop) (x : σ) {r : β} {e : Env} {s : St}
    (h : ∀ (L : RC) (x : σ) (e : Env) (s : St), I x e s → (∀ (y : σ) (e' : Env) (s' : St), m y < m x → I y e' s' → goL X fin ks L e' s' = R y) → go X fin (.lp L :: ks) b e s = R x)
    (hr : R x = r) (hI : I x e s) : goL X fin ks b e s = r := by
  rw [← hr]; exact loop_rule X fin ks m I R h x hI
theorem ints_len (l : List Int) : (ints l).length = l.length := by simp [ints]
theorem ints_get (l : List Int) (i : Nat) : (ints l)[i]? = (l[i]?).map (.int .i64 ·) := by simp [ints]
theorem nat_lt_dec (a b : Nat) : decide ((a : Int) < (b : Int)) = decide (a < b) := by congr 1; apply propext; omega

theorem g89 (l : List Int) (hlen : l.length < 2 ^ 62) : go U (finP U [.tmp 2]) [] r89 (bindArgs 0 [.fz (ints l)] .nil) (ownSt U) = some (.int .i64 (firstOf l)) := by
  simp +contextual only [go_sem, ↓reduceIte, r89]
  refine loop_to (σ := Nat) (fun i => l.length - i) (fun i => some (AV.int .i64 (firstOf (l.drop i)))) (fun i e s => i ≤ l.length ∧ Env.get e 5 = .fz (ints l) ∧ Env.get e 6 = .int .i64 l.length ∧ Env.get e 7 = .int .i64 i) 0 ?_ rfl ?_
  · rintro L i e s ⟨hi, h5, h6, h7⟩ ih
    by_cases hd : i < l.length
    · have hx : (ints l)[i]? = some (.int .i64 l[i]) := by rw [ints_get, List.getElem?_eq_getElem hd]; rfl
      have hw : IntKind.i64.wrap ((i : Int) + 1) = ((i + 1 : Nat) : Int) := by rw [wrap_i64] <;> omega
      simp +contextual only [go_sem, ↓reduceIte, r89_l0, h5, h6, h7, nat_lt_dec, hd, hx]
      rw [List.drop_eq_getElem_cons hd, firstOf]
      cases hb : l[i] != 0
      · simp only [go_sem, hw]
        refine ih (i + 1) _ _ (by omega) ⟨by omega, ?_, ?_, ?_⟩ <;> simp +contextual only [go_sem, ↓reduceIte, h5, h6, h7, hw]
      · simp only [go_sem]
    · have : i = l.length := by omega
      subst this
      simp +contextual only [go_sem, ↓reduceIte, r89_l0, h5, h6, h7, nat_lt_dec, Nat.lt_irrefl]
      rw [List.drop_length]; rfl
  · refine ⟨Nat.zero_le _, ?_, ?_, ?_⟩ <;> simp +contextual only [go_sem, ↓reduceIte, ints_len] <;> rfl

end Go.Am

set_option linter.all false
namespace Go.Am
open Go
variable [MaxLen]
set_option maxRecDepth 100000
set_option maxHeartbeats 4000000

theorem Cond.ind {P : Cond → Prop} (h : ∀ k a b mi ma p nl kids, (∀ x ∈ kids, P x) → P (.mk k a b mi ma p nl kids)) : ∀ c, P c := by
  intro c
  exact Cond.rec (motive_1 := P) (motive_2 := fun l => ∀ x ∈ l, P x) (fun k a b mi ma p nl kids ih => h k a b mi ma p nl kids ih) (fun x hx => by cases hx)
    (fun c l h1 h2 x hx => by
      rcases List.mem_cons.1 hx with rfl | hx
      · exact h1
      · exact h2 x hx) c
theorem wrap_succ {i n : Nat} (h : i < n) (hn : n < 2 ^ 62) : IntKind.i64.wrap ((i : Int) + 1) = ((i + 1 : Nat) : Int) := by rw [wrap_i64] <;> omega
end Go.Am

set_option linter.all false
namespace Go.Am
open Go
variable [MaxLen]
set_option maxRecDepth 100000
set_option maxHeartbeats 8000000

theorem brI_some (k : IntKind) (p : Bool) (x y : Int) : some (AV.int k (br p x y)) = br p (some (.int k x)) (some (.int k y)) := by cases p <;> rfl
end Go.Am

set_option linter.all false
namespace Go.Am
open Go
variable [MaxLen]
set_option maxRecDepth 100000
set_option maxHeartbeats 8000000

end Go.Am

set_option linter.all false
namespace Go.Am
open Go
variable [MaxLen]
set_option maxRecDepth 100000
end Go.Am

set_option linter.all false
namespace Go.Am
open Go
variable [MaxLen]
set_option maxRecDepth 100000
set_option maxHeartbeats 8000000

/-! # The program's table of kinds, and its check of a condition -/

def lookK (X : Cx) (t : TypeId) (ok : Bool) (m k : Option AV) (s : St) : Option (AV × St) := match m, k with
  | some m, some k => pureO (lookupA X t m k ok s) s
  | _, _ => none
theorem opA_lookup (X : Cx) (ex : Ex) (e : Env) (s : St) (t : TypeId) (m k : Operand) (ok : Bool) : opA X ex e (.lookup t m k ok) s = lookK X t ok (eval X e m) (eval X e k) s := by
  unfold lookK
  simp only [opA]
  rfl
theorem lookK_some (X : Cx) (t : TypeId) (ok : Bool) (m k : AV) (s : St) : lookK X t ok (some m) (some k) s = pureO (lookupA X t m k ok s) s := (fun h => h) rfl
attribute [go_sem] opA_lookup lookK_some

/-! The set of the three bytes of a pattern -/
end Go.Am

set_option linter.all false
namespace Go.Am
open Go
variable [MaxLen]
set_option maxRecDepth 100000
set_option maxHeartbeats 8000000

theorem sls_hi (b : Str) (k : IntKind) (n : Int) : slRS (.str b) none (some (.int k n)) = if 0 ≤ n ∧ n ≤ b.length then some (.str (b.take n.toNat)) else none := by
  simp only [slRS, boundA]
  by_cases h : 0 ≤ n ∧ n ≤ b.length
  · simp [h]
  · simp [h]
theorem sls_lo (b : Str) (k : IntKind) (n : Int) : slRS (.str b) (some (.int k n)) none = if 0 ≤ n ∧ n ≤ b.length then some (.str (b.drop n.toNat)) else none := by
  simp only [slRS, boundA]
  by_cases h : 0 ≤ n ∧ n ≤ b.length
  · simp [h]
  · simp [h]
attribute [go_sem] sls_hi sls_lo

end Go.Am

set_option linter.all false
namespace Go.Am
open Go
variable [MaxLen]
set_option maxRecDepth 100000
set_option maxHeartbeats 8000000

theorem cz_of {f : FuncId} {us : List AV} {v : AV} (h : calV U f us = some v) (hp : isPure f = true) (hst : stills us = true) (hf : flat v = true) (s : St) : calZ U f (some us) s = some (v, s) := by
  have h := calV_eq h (ownSt U)
  obtain ⟨p1, p2⟩ := isPure_of hp
  unfold cal callF at h
  rw [p2] at h
  simp only [p1, if_true, callP, frzArgs, hst] at h
  split at h
  · rename_i w hq
    cases h
    refine calZ_some U s ?_
    unfold callQ at hq ⊢
    split at hq
    · rename_i v0 s' hB
      simp only [if_true] at hq
      have := flat_frz s' _ _ _ hq hf
      subst this

      simp [hf]
    · cases hq
  · cases h
end Go.Am

set_option linter.all false
namespace Go.Am
open Go
variable [MaxLen]
set_option maxRecDepth 100000
set_option maxHeartbeats 8000000

theorem cz89 (l : List Int) (hl : l.length < 2 ^ 62) (s : St) : calZ U 89 (some [.fz (ints l)]) s = some (.int .i64 (firstOf l), s) :=
  cz_of (pure_go k89 (by kernel_rfl) (by simp [stills, still]) (g89 l hl)) (by kernel_rfl) (by simp [stills, still]) rfl s
theorem cz89_2 (a b : Int) (s : St) : calZ U 89 (some [.fz [.int .i64 a, .int .i64 b]]) s = some (.int .i64 (firstOf [a, b]), s) := cz89 [a, b] (by simp) s
theorem cz89_4 (a b c d : Int) (s : St) : calZ U 89 (some [.fz [.int .i64 a, .int .i64 b, .int .i64 c, .int .i64 d]]) s = some (.int .i64 (firstOf [a, b, c, d]), s) := cz89 [a, b, c, d] (by simp) s
theorem z89 {args : List AV} {s : St} (h : stills args = false) : callK U (calV U 89 args) 89 args s = calZ U 89 (mapO (frz U s 40) args) s := z_of (by kernel_rfl) s h
end Go.Am

set_option linter.all false
namespace Go.Am
open Go
variable [MaxLen]
set_option maxRecDepth 100000

/-! # Rows that grow by append -/
section
variable (X : Cx)
def srcG (len : Nat) (x : Option (List AV)) : Option (Nat × List AV) := match x with
  | some r => some (len, r)
  | none => none
def srcK (len k o : Nat) (x : Option (List AV)) : Option (Nat × List AV) := match x with
  | some c => srcG len (grab k o c)
  | none => none
theorem srcG_some (len : Nat) (r : List AV) : srcG len (some r) = some (len, r) := (fun h => h) rfl
theorem srcK_some (len k o : Nat) (c : List AV) : srcK len k o (some c) = srcG len (grab k o c) := (fun h => h) rfl
theorem source_sl (n b o len : Nat) (cap : Option Nat) (z : Nat) (s : St) : sourceA n (.sl b o len cap z) s = srcK len (len * n) o (cellsOf (s.get b)) := by
  simp only [sourceA, ← cells_get, srcK, srcG]
  rfl
theorem source_nils (n : Nat) (s : St) : sourceA n .nils s = some (0, []) := (fun h => h) rfl
theorem source_str (n : Nat) (l : List UInt8) (s : St) : sourceA n (.str l) s = some (l.length, l.map fun c => .int .u8 c.toNat) := (fun h => h) rfl

def appS (t : TypeId) (n m : Nat) (new : List AV) (b o len : Nat) (esz : Nat) (s : St) (x : Option Blk) : Option (AV × St) := match x with
  | some (.cells c e0 false flo fhi) => match grab (len * n) o c with
    | some old => if esz = n ∧ fhi ≤ o + len * n ∧ e0 = t ∧ new.all noAgg = true then
        some (.sl s.next 0 (len + m) none n, (s.put b .gone).new (.cells (old ++ new) t false (flo - o) (fhi - o)))
      else none
    | none => none
  | _ => none
def appD (t : TypeId) (n m : Nat) (new : List AV) (d : AV) (s : St) : Option (AV × St) := match d with
  | .nils => some (.sl s.next 0 m none n, s.new (.cells new t false 0 0))
  | .sl b o len cap esz => match s.cells b with
    | some c => match grab (len * n) o c with
      | some old =>
        match cap with
        | some k => if len + m ≤ k then
            if esz = n then match writeCells s b (o + len * n) new with
              | some s' => some (.sl b o (len + m) (some k) n, s')
              | none => none
            else none
          else some (.sl s.next 0 (len + m) none n, s.new (.cells (old ++ new) t false 0 0))
        | none => match s.get b with
          | some (.cells _ e0 false flo fhi) =>
            if esz = n ∧ fhi ≤ o + len * n ∧ e0 = t ∧ new.all noAgg = true then
              some (.sl s.next 0 (len + m) none n, (s.put b .gone).new (.cells (old ++ new) t false (flo - o) (fhi - o)))
            else none
          | _ => none
      | none => none
    | none => none
  | _ => none
def app0 (d : AV) (s : St) : Option (AV × St) := match d with
  | .nils => some (d, s)
  | .sl .. => some (d, s)
  | .fz _ => some (d, s)
  | _ => none
def appK (t : TypeId) (n bytes : Nat) (d : AV) (x : Option (Nat × List AV)) (s : St) : Option (AV × St) := match x with
  | some (m, new) =>
    if new.length ≠ m * n ∨ (lenA d + m) * bytes > 2 ^ 40 ∨ lenA d + m > 2 ^ 40 then none
    else if m = 0 then app0 d s else appD t n m new d s
  | none => none
theorem app_eq (t : TypeId) (n bytes : Nat) (d x : AV) (s : St) : appR t n bytes d x s = appK t n bytes d (sourceA n x s) s := by
  unfold appR appK appD app0
  rfl
theorem appK_some {t : TypeId} {n bytes : Nat} {d : AV} {m : Nat} {new : List AV} {s : St} (h1 : new.length = m * n) (h2 : (lenA d + m) * bytes ≤ 2 ^ 40) (h3 : lenA d + m ≤ 2 ^ 40) (h4 : m ≠ 0) :
    appK t n bytes d (some (m, new)) s = appD t n m new d s := by
  simp only [appK]
  rw [if_neg (by omega), if_neg h4]
theorem appD_nils (t : TypeId) (n m : Nat) (new : List AV) (s : St) : appD t n m new .nils s = some (.sl s.next 0 m none n, s.new (.cells new t false 0 0)) := (fun h => h) rfl
theorem appD_sl (t : TypeId) (n m : Nat) (new : List AV) (b o len esz : Nat) (s : St) : appD t n m new (.sl b o len none esz) s = appS t n m new b o len esz s (s.get b) := by
  simp only [appD, appS, St.cells]
  cases s.get b with
  | none => rfl
  | some x =>
    cases x <;> simp only
    rename_i c e0 ro lo hi
    cases ro <;> simp only
    cases grab (len * n) o c <;> rfl
theorem appS_cells {t : TypeId} {n m : Nat} {new : List AV} {b len : Nat} {s : St} {cs : List AV} {lo hi : Nat} (hl : cs.length = len * n) (hh : hi ≤ len * n) (hna : new.all noAgg = true) :
    appS t n m new b 0 len n s (some (.cells cs t false lo hi)) = some (.sl s.next 0 (len + m) none n, (s.put b .gone).new (.cells (cs ++ new) t false lo hi)) := by
  simp only [appS]
  rw [← hl, grab_all]
  simp only [true_and]
  rw [if_pos ⟨by omega, hna⟩]
  simp
theorem lenA_nils : lenA .nils = 0 := (fun h => h) rfl
theorem lenA_sl (b o n : Nat) (c : Option Nat) (z : Nat) : lenA (.sl b o n c z) = n := (fun h => h) rfl
theorem lenA_fz (l : List AV) : lenA (.fz l) = l.length := (fun h => h) rfl

/-- a row made by appends: its cells cs, i elements of n cells; its block lies from B on -/
def RowI (s : St) (B : Nat) (t : TypeId) (n i : Nat) (cs : List AV) (v : AV) : Prop :=
  (i = 0 ∧ v = .nils ∧ cs = []) ∨ (0 < i ∧ cs.length = i * n ∧ ∃ b, B ≤ b ∧ b < s.next ∧ v = .sl b 0 i none n ∧ s.get b = some (.cells cs t false 0 0))
theorem RowI.nil (s : St) (B : Nat) (t : TypeId) (n : Nat) : RowI s B t n 0 [] .nils := .inl ⟨rfl, rfl, rfl⟩
theorem RowI.noAgg {s : St} {B : Nat} {t : TypeId} {n i : Nat} {cs : List AV} {v : AV} (h : RowI s B t n i cs v) : noAgg v = true := by
  rcases h with ⟨_, rfl, _⟩ | ⟨_, _, b, _, _, rfl, _⟩ <;> rfl
theorem RowI.cells {s : St} {B : Nat} {t : TypeId} {n i : Nat} {cs : List AV} {v : AV} (h : RowI s B t n i cs v) : v.cells = [v] := by
  rcases h with ⟨_, rfl, _⟩ | ⟨_, _, b, _, _, rfl, _⟩ <;> rfl
theorem RowI.len {s : St} {B : Nat} {t : TypeId} {n i : Nat} {cs : List AV} {v : AV} (h : RowI s B t n i cs v) : lenRL v = some (.int .i64 i) := by
  rcases h with ⟨rfl, rfl, _⟩ | ⟨_, _, b, _, _, rfl, _⟩ <;> rfl

theorem RowI.lenA {s : St} {B : Nat} {t : TypeId} {n i : Nat} {cs : List AV} {v : AV} (h : RowI s B t n i cs v) : Go.Am.lenA v = i := by
  rcases h with ⟨rfl, rfl, _⟩ | ⟨_, _, b, _, _, rfl, _⟩ <;> rfl
theorem RowI.mono {s s' : St} {B : Nat} {t : TypeId} {n i : Nat} {cs : List AV} {v : AV} (h : RowI s B t n i cs v) (hn : s.next ≤ s'.next) (hg : ∀ j, B ≤ j → j < s.next → s'.get j = s.get j) : RowI s' B t n i cs v := by
  rcases h with ⟨h0, h1, h2⟩ | ⟨h0, h1, b, h2, h3, h4, h5⟩
  · exact .inl ⟨h0, h1, h2⟩
  · exact .inr ⟨h0, h1, b, h2, by omega, h4, by rw [hg b h2 h3]; exact h5⟩
/-- one append more -/
theorem RowI.app {s : St} {B : Nat} {t : TypeId} {n i : Nat} {cs : List AV} {v : AV} (h : RowI s B t n i cs v) (hB : B ≤ s.next) {m : Nat} {new : List AV} (hm : m ≠ 0) (hl : new.length = m * n) (hna : new.all Go.Am.noAgg = true) :
    ∃ s1, appD t n m new v s = some (.sl s.next 0 (i + m) none n, s1) ∧ s1.next = s.next + 1 ∧ RowI s1 B t n (i + m) (cs ++ new) (.sl s.next 0 (i + m) none n) ∧ (∀ j, j < B → s1.get j = s.get j) ∧ (Fr s → Fr s1) := by
  rcases h with ⟨rfl, rfl, rfl⟩ | ⟨h0, h1, b, h2, h3, rfl, h5⟩
  · refine ⟨s.new (.cells new t false 0 0), by rw [appD_nils, Nat.zero_add], rfl, .inr ⟨by omega, by rw [Nat.zero_add, List.nil_append]; exact hl, s.next, hB, by rw [next_new]; omega, rfl, by rw [get_new, if_pos rfl]; rfl⟩, fun j hj => by rw [get_new, if_neg (by omega)], fun hf => hf.new _⟩
  · refine ⟨(s.put b .gone).new (.cells (cs ++ new) t false 0 0), by rw [appD_sl, h5, appS_cells h1 (by omega) hna], rfl, .inr ⟨by omega, by rw [List.length_append, h1, hl, Nat.add_mul], s.next, hB, by rw [next_new, next_put]; omega, rfl, ?_⟩, fun j hj => ?_, fun hf => (hf.put h3 _).new _⟩
    · rw [get_new, next_put, if_pos rfl]
    · rw [get_new, next_put, if_neg (by omega), get_put, if_neg (by omega)]
/-- elements of n cells each, written out -/
theorem chunks_enc {A : Type} (enc : A → AV) (n : Nat) (hc : ∀ a, ∃ c, enc a = .agg c ∧ c.length = n) : ∀ l : List A, chunksA true n l.length (l.flatMap fun a => (enc a).cells) = l.map enc
  | [] => rfl
  | a :: l => by
    obtain ⟨c, h1, h2⟩ := hc a
    have ih := chunks_enc enc n hc l
    rw [List.length_cons, chunks_agg, List.flatMap_cons, h1, cells_agg, List.map_cons, h1]
    rw [show (c ++ l.flatMap fun a => (enc a).cells).take n = c from by rw [← h2, List.take_left], show (c ++ l.flatMap fun a => (enc a).cells).drop n = l.flatMap fun a => (enc a).cells from by rw [← h2, List.drop_left], ih]
theorem mapO_self {f : AV → Option AV} : ∀ {l : List AV}, (∀ x ∈ l, f x = some x) → mapO f l = some l
  | [], _ => rfl
  | x :: l, h => by
    rw [mapO, h x (List.mem_cons_self ..), mapO_self fun y hy => h y (List.mem_cons_of_mem _ hy)]
theorem RowI.frz_agg {s : St} {B : Nat} {t : TypeId} {n : Nat} {A : Type} {enc : A → AV} {l : List A} {v : AV} (h : RowI s B t n l.length (l.flatMap fun a => (enc a).cells) v) (hag : isAggT X t = some true) (hsz : size X t = some n) (hn : n ≠ 0)
    (hc : ∀ a, ∃ c, enc a = .agg c ∧ c.length = n) {d : Nat} (hf : ∀ a, frz X s d (enc a) = some (enc a)) : frz X s (d + 1) v = some (encS true (l.map enc)) := by
  rcases h with ⟨h0, rfl, _⟩ | ⟨h0, h1, b, _, _, rfl, hg⟩
  · have : l = [] := List.length_eq_zero_iff.1 h0
    subst this; rfl
  · rw [frz_sl, hg, frzS_cells, ← h1, grab_all, hag, hsz]
    cases n with
    | zero => exact absurd rfl hn
    | succ n =>
      rw [frzT_agg, chunks_enc enc (n + 1) hc, mapO_self (fun x hx => ?_), fzK_some]
      · cases l with
        | nil => simp at h0
        | cons a l => rfl
      · obtain ⟨a, _, rfl⟩ := List.mem_map.1 hx
        exact hf a
theorem RowI.frz_one {s : St} {B : Nat} {t : TypeId} {l : List AV} {v : AV} (h : RowI s B t 1 l.length l v) (hag : isAggT X t = some false) (hsz : size X t = some 1) (hna : l.all Go.Am.noAgg = true)
    {d : Nat} {r : List AV} (hf : mapO (frz X s d) l = some r) : frz X s (d + 1) v = some (encS true r) := by
  rcases h with ⟨h0, rfl, _⟩ | ⟨h0, h1, b, _, _, rfl, hg⟩
  · have : l = [] := List.length_eq_zero_iff.1 h0
    subst this
    simp only [mapO] at hf; cases hf; rfl
  · rw [frz_sl, hg, frzS_cells, Nat.mul_one, grab_all, hag, hsz, frzT_one, if_pos hna, chunks_all, hf, fzK_some]
    cases r with
    | nil =>
      exfalso
      cases l with
      | nil => simp at h0
      | cons a l =>
        simp only [mapO] at hf
        split at hf <;> cases hf
    | cons a r => rfl
end
attribute [go_sem] srcG_some srcK_some source_sl source_nils source_str app_eq appD_nils appD_sl lenA_nils lenA_sl lenA_fz
end Go.Am

set_option linter.all false
namespace Go.Am
open Go
variable [MaxLen]
set_option maxRecDepth 100000
set_option maxHeartbeats 8000000

/-! # What the automata use of the laws on signals -/
theorem calv_fn (X : Cx) (g : FuncId) (x y args : List AV) (s : St) : calv X (.fn (.func g) x y) args s = callK X (calV X g (x ++ args ++ y)) g (x ++ args ++ y) s := by
  rw [← callK_eq]; rfl
attribute [go_sem] calv_fn List.nil_append List.append_nil List.cons_append
theorem bin_shl1 (X : Cx) (t : TypeId) (c : Bool) (j : IntKind) {n : Int} (h : 0 ≤ n ∧ n ≤ 16) : binA X .shl t c (.int .i64 1) (.int j n) = some (.int .i64 (2 ^ n.toNat)) := by
  obtain ⟨h0, h1⟩ := h
  have hn : ¬ n < 0 := by omega
  simp only [binA, shiftA, hn, if_false]
  have hm : min n.toNat IntKind.i64.bits = n.toNat := by
    have : IntKind.i64.bits = 64 := rfl
    rw [this]; omega
  rw [hm, Int.one_mul]
  have hp : (2 : Int) ^ n.toNat ≤ 2 ^ 16 := by
    have h2 : (2 : Nat) ^ n.toNat ≤ 2 ^ 16 := Nat.pow_le_pow_right (by omega) (by omega)
    exact_mod_cast h2
  have hp0 : (0 : Int) ≤ 2 ^ n.toNat := Int.pow_nonneg (by omega)
  rw [wrap_i64 (by omega) (by omega)]
def atI (l : List Int) (t : Int) : Int := l.getD t.toNat 0
theorem atI_get {l : List Int} {t : Int} (h1 : t.toNat < l.length) : l[t.toNat]? = some (atI l t) := by
  unfold atI; rw [List.getD_eq_getElem?_getD, List.getElem?_eq_getElem h1]; rfl
theorem intsE_get {l : List Int} {t : Int} (h : t.toNat < l.length) : (ints l)[t.toNat]? = some (.int .i64 (atI l t)) := by
  rw [ints_get, atI_get h]; rfl
theorem ixa_sig {nl : Bool} {l : List Int} {t : Int} (h0 : 0 ≤ t) (h1 : t.toNat < l.length) : ixRA 1 (encS nl (ints l)) (.int .i64 t) = some (.fp [.int .i64 (atI l t)] 0) :=
  ixa_encS 1 nl (ints l) .i64 t (.int .i64 (atI l t)) h0 (intsE_get h1) rfl (by decide)
theorem ixa_sigN {nl : Bool} {l : List Int} {t : Nat} (h1 : t < l.length) : ixRA 1 (encS nl (ints l)) (.int .i64 (t : Int)) = some (.fp [.int .i64 (atI l (t : Int))] 0) :=
  ixa_sig (by omega) (by omega)
theorem br_zeroH {p : Bool} {e x : Int} (h : br p e x = 0) (he : e ≠ 0) : p = false ∧ x = 0 := by
  cases p
  · exact ⟨rfl, h⟩
  · exact absurd h he
theorem outside_ok {n a b : Int} (h : outside n a b = false) : a ≤ n ∧ n ≤ b := by
  unfold outside at h
  simp only [Bool.or_eq_false_iff, decide_eq_false_iff_not] at h
  omega
theorem noAgg_bools (l : List Bool) : (bools l).all noAgg = true := by
  rw [List.all_eq_true]; intro x hx
  obtain ⟨b, _, rfl⟩ := List.mem_map.1 hx; rfl
theorem noAgg_ints (l : List Int) : (ints l).all noAgg = true := by
  rw [List.all_eq_true]; intro x hx
  obtain ⟨b, _, rfl⟩ := List.mem_map.1 hx; rfl
theorem frz_bools (s : St) (d : Nat) (l : List Bool) : mapO (frz U s (d + 1)) (bools l) = some (bools l) := mapO_self fun x hx => by
  obtain ⟨b, _, rfl⟩ := List.mem_map.1 hx; rfl
theorem frz_ints (s : St) (d : Nat) (l : List Int) : mapO (frz U s (d + 1)) (ints l) = some (ints l) := mapO_self fun x hx => by
  obtain ⟨b, _, rfl⟩ := List.mem_map.1 hx; rfl
theorem bools_len (l : List Bool) : (bools l).length = l.length := by simp [bools]
theorem RowI.frz_bools {s : St} {B : Nat} {l : List Bool} {v : AV} (h : RowI s B 4 1 l.length (bools l) v) (d : Nat) : frz U s (d + 2) v = some (encS true (bools l)) := by
  have h' : RowI s B 4 1 (bools l).length (bools l) v := by rw [bools_len]; exact h
  exact h'.frz_one U ag_4 sz_4 (noAgg_bools l) (Go.Am.frz_bools s d l)
theorem RowI.frz_ints {s : St} {B : Nat} {l : List Int} {v : AV} (h : RowI s B 3 1 l.length (ints l) v) (d : Nat) : frz U s (d + 2) v = some (encS true (ints l)) := by
  have h' : RowI s B 3 1 (ints l).length (ints l) v := by rw [ints_len]; exact h
  exact h'.frz_one U ag_3 sz_3 (noAgg_ints l) (Go.Am.frz_ints s d l)
def shortSig (l : List Int) (n : Int) : Bool := decide ((l.length : Int) ≤ n) || decide ((l.length : Int) > 4096) && decide ((l.length : Int) ≤ 4098)
theorem c22 (nl : Bool) (l : List Int) (n : Int) : calV U 22 [encS nl (ints l), .int .i64 n] = some (.bool (shortSig l n)) := by
  refine pure_go k22 (by kernel_rfl) (by simp [stills, still_encS, still]) ?_
  rw [shortSig]
  simp (config := { maxSteps := 2000000 }) +contextual only [go_sem, ↓reduceIte, r22, lenL_encS, ints_len]
theorem bools_get (l : List Bool) (i : Nat) : (bools l)[i]? = (l[i]?).map .bool := by simp [bools]
theorem pow_le16 (n : Int) (h1 : n ≤ 16) : (1 : Int) ≤ 2 ^ n.toNat ∧ (2 : Int) ^ n.toNat ≤ 65536 := by
  obtain ⟨k, hk⟩ : ∃ k : Nat, n.toNat = k := ⟨_, rfl⟩
  rw [hk]
  have : ∀ k : Fin 17, (1 : Int) ≤ 2 ^ k.val ∧ (2 : Int) ^ k.val ≤ 65536 := by decide
  exact this ⟨k, by omega⟩
def anyOut (lines : Int) (l : List Int) : Bool := l.any fun x => outside x 0 (2 ^ lines.toNat - 1)
def ckSig (lines : Int) (l : List Int) : Int := br (decide ((l.length : Int) > 4096)) 5 (br (anyOut lines l) 3 0)
theorem c28 (lines : Int) (h0 : 1 ≤ lines) (h1 : lines ≤ 16) (nl : Bool) (l : List Int) : calV U 28 [.int .i64 lines, encS nl (ints l)] = some (.int .i64 (ckSig lines l)) := by
  refine pure_go k28 (by kernel_rfl) (by simp [stills, still_encS, still]) ?_
  rw [ckSig]
  simp (config := { maxSteps := 2000000 }) +contextual only [go_sem, ↓reduceIte, r28, lenL_encS, ints_len]
  simp only [brI_some]
  refine br_r fun hle => ?_
  have hle : l.length ≤ 4096 := by simp at hle; omega
  refine loop_to (σ := Nat) (fun i => l.length - i) (fun i => some (AV.int .i64 (br (anyOut lines (l.drop i)) 3 0))) (fun i e s => i ≤ l.length ∧ Env.get e 0 = .int .i64 lines ∧ Env.get e 1 = encS nl (ints l) ∧ Env.get e 5 = .int .i64 i) 0 ?_ ?_ ?_
  · rintro L i e s ⟨hi, g0, g1, g5⟩ ih
    by_cases hd : i < l.length
    · have hx := ixa_sigN (nl := nl) hd
      have hw := wrap_succ hd (by omega)
      have hp := pow_le16 lines h1
      have hw2 : IntKind.i64.wrap (2 ^ lines.toNat - 1) = 2 ^ lines.toNat - 1 := by rw [wrap_i64] <;> omega
      have hat : atI l (i : Int) = l[i] := by unfold atI; rw [Int.toNat_natCast, List.getD_eq_getElem?_getD, List.getElem?_eq_getElem hd]; rfl
      rw [hat] at hx
      simp +contextual only [go_sem, ↓reduceIte, r28_l0, g0, g1, g5, nat_lt_dec, hd, hx, lenL_encS, ints_len, bin_shl1 U _ _ _ (show 0 ≤ lines ∧ lines ≤ 16 from ⟨by omega, h1⟩), hw2, c94]
      rw [List.drop_eq_getElem_cons hd, anyOut, List.any_cons]
      cases hb : outside l[i] 0 (2 ^ lines.toNat - 1) with
      | true => simp +contextual only [go_sem, ↓reduceIte, Bool.true_or]
      | false =>
        simp +contextual only [go_sem, ↓reduceIte, hw, Bool.false_or]
        refine ih (i + 1) _ _ (by omega) ⟨by omega, ?_, ?_, ?_⟩ <;> simp +contextual only [go_sem, ↓reduceIte, g0, g1, g5, hw]
    · have : i = l.length := by omega
      subst this
      simp +contextual only [go_sem, ↓reduceIte, r28_l0, g0, g1, g5, nat_lt_dec, Nat.lt_irrefl, lenL_encS, ints_len]
      rw [List.drop_length]; rfl
  · simp only [List.drop_zero, brI_some]
  · refine ⟨Nat.zero_le _, ?_, ?_, ?_⟩ <;> simp +contextual only [go_sem, ↓reduceIte] <;> rfl
theorem loop_ex {X : Cx} {β : Type} {fin : Fl → β} {ks : List K} [Stat] {b : RC} {σ : Type} {Post : β → Prop} (m : σ → Nat) (I : σ → Env → St → Prop) (x : σ) {e : Env} {s : St}
    (h : ∀ (L : RC) (x : σ) (e : Env) (s : St), I x e s → (∀ (y : σ) (e' : Env) (s' : St), m y < m x → I y e' s' → Post (goL X fin ks L e' s')) → Post (go X fin (.lp L :: ks) b e s))
    (hI : I x e s) : Post (goL X fin ks b e s) := by
  have key : ∀ n (x : σ) (e : Env) (s : St), m x = n → I x e s → Post (goL X fin ks b e s) := by
    intro n
    induction n using Nat.strongRecOn with
    | ind n ih =>
      intro x e s hx hI
      rw [goL_eq]
      exact h b x e s hI fun y e' s' hy hI' => ih (m y) (by omega) y e' s' rfl hI'
  exact key _ x e s rfl hI
theorem RowI.app2 {s : St} {B : Nat} {t : TypeId} {n i : Nat} {cs : List AV} {v : AV} (h : RowI s B t n i cs v) (hB : B ≤ s.next) {m : Nat} {new : List AV} (hm : m ≠ 0) (hl : new.length = m * n) (hna : new.all Go.Am.noAgg = true) :
    ∃ s1, appD t n m new v s = some (.sl s.next 0 (i + m) none n, s1) ∧ s1.next = s.next + 1 ∧ RowI s1 B t n (i + m) (cs ++ new) (.sl s.next 0 (i + m) none n) ∧ (∀ j, j ≠ s.next → v ≠ .sl j 0 i none n → s1.get j = s.get j) ∧ (Fr s → Fr s1) := by
  rcases h with ⟨rfl, rfl, rfl⟩ | ⟨h0, h1, b, h2, h3, rfl, h5⟩
  · refine ⟨s.new (.cells new t false 0 0), by rw [appD_nils, Nat.zero_add], rfl, .inr ⟨by omega, by rw [Nat.zero_add, List.nil_append]; exact hl, s.next, hB, by rw [next_new]; omega, rfl, by rw [get_new, if_pos rfl]; rfl⟩, fun j hj _ => by rw [get_new, if_neg (by omega)], fun hf => hf.new _⟩
  · refine ⟨(s.put b .gone).new (.cells (cs ++ new) t false 0 0), by rw [appD_sl, h5, appS_cells h1 (by omega) hna], rfl, .inr ⟨by omega, by rw [List.length_append, h1, hl, Nat.add_mul], s.next, hB, by rw [next_new, next_put]; omega, rfl, ?_⟩, fun j hj hv => ?_, fun hf => (hf.put h3 _).new _⟩
    · rw [get_new, next_put, if_pos rfl]
    · have : b ≠ j := fun e => hv (by rw [e])
      rw [get_new, next_put, if_neg (by omega), get_put, if_neg this]
theorem RowI.far {s : St} {B : Nat} {t : TypeId} {n i : Nat} {cs : List AV} {v : AV} (h : RowI s B t n i cs v) {j : Nat} (hj : s.next ≤ j ∨ j < B) : v ≠ .sl j 0 i none n := by
  rintro rfl
  rcases h with ⟨_, h, _⟩ | ⟨_, _, b, h1, h2, h3, _⟩
  · cases h
  · cases h3; omega
theorem RowI.other {s : St} {B : Nat} {t : TypeId} {n i : Nat} {cs : List AV} {v : AV} (h : RowI s B t n i cs v) {j : Nat} {c : List AV} {t' : TypeId} {lo hi : Nat} (hj : s.get j = some (.cells c t' false lo hi)) (ht : t' ≠ t) : v ≠ .sl j 0 i none n := by
  rintro rfl
  rcases h with ⟨_, h, _⟩ | ⟨_, _, b, h1, h2, h3, h4⟩
  · cases h
  · cases h3
    rw [hj] at h4
    cases h4; exact ht rfl
theorem go_drcU {β : Type} {c : Code} {n : Nat} {l : List ROC} (h : rcDrc U c = some (n, l)) (fin : Fl → β) (ks : List K) (e : Env) (s : St) : go U fin ks (.raw c) e s =
    bif noneC s.next s l then goC U (backC U fin ks c e s) fin ks s.next l e (s.upto (s.next + n)) [s.upto (s.next + n)] [] else backC U fin ks c e s := go_drc U h fin ks e s
theorem repeatL_one (x : AV) : ∀ n : Nat, repeatL n [x] = List.replicate n x
  | 0 => rfl
  | n + 1 => by rw [repeatL, repeatL_one x n]; rfl
theorem lay_set : ∀ (cs : List AV) (i : Nat) (x : AV), i < cs.length → lay i [x] cs = some (cs.set i x)
  | [], i, x, h => by simp at h
  | c :: cs, 0, x, h => by rw [lay_zero, lay_nil]; rfl
  | c :: cs, i + 1, x, h => by
    rw [lay_succ, lay_set cs i x (by simpa using h)]; rfl
def part {A : Type} (l : List A) (z : A) (n i : Nat) : List A := l.take i ++ List.replicate (n - i) z
theorem part_len {A : Type} (l : List A) (z : A) {n i : Nat} (h : l.length = n) (hi : i ≤ n) : (part l z n i).length = n := by
  simp [part, h]; omega
theorem part_set {A : Type} (l : List A) (z : A) {n i : Nat} (h : l.length = n) (hi : i < n) : (part l z n i).set i (l[i]'(by omega)) = part l z n (i + 1) := by
  unfold part
  have h1 : (l.take i).length = i := by rw [List.length_take]; omega
  rw [List.set_append, if_neg (by omega), h1, Nat.sub_self, show n - i = (n - (i + 1)) + 1 by omega, List.replicate_succ, List.set_cons_zero, List.take_succ_eq_append_getElem (by omega), List.append_assoc]
  rfl
theorem part_full {A : Type} (l : List A) (z : A) {n : Nat} (h : l.length = n) : part l z n n = l := by
  unfold part; rw [Nat.sub_self, List.replicate_zero, List.append_nil, ← h, List.take_length]
theorem frz_slI {s : St} {b d : Nat} {cap : Option Nat} {l : List Int} (hg : s.get b = some (.cells (ints l) 3 false 0 0)) : frz U s (d + 2) (.sl b 0 l.length cap 1) = some (.fz (ints l)) := by
  have e : l.length = (ints l).length := (ints_len l).symm
  rw [frz_sl, hg, frzS_cells, Nat.mul_one, e, grab_all, ag_3, sz_3, frzT_one, if_pos (noAgg_ints l), chunks_all, frz_ints, fzK_some]
theorem c159 (x lines : Int) (h0 : 1 ≤ lines) (h1 : lines ≤ 16) : calV U 159 [.int .i64 x, .fp [.int .i64 lines] 0] = some (.bool (outside x 0 (2 ^ lines.toNat - 1))) := by
  refine pure_go k159 (by kernel_rfl) (by simp [stills, still]) ?_
  have hp : (decide (x < 0) || decide (x ≥ 2 ^ lines.toNat)) = outside x 0 (2 ^ lines.toNat - 1) := by
    unfold outside
    congr 1
    congr 1
    apply propext; omega
  rw [← hp]
  simp +contextual only [go_sem, ↓reduceIte, r159, bin_shl1 U _ _ _ (show 0 ≤ lines ∧ lines ≤ 16 from ⟨by omega, h1⟩)]
def idxO (P : Int → Bool) : Nat → List Int → Int
  | _, [] => -1
  | i, x :: l => bif P x then (i : Int) else idxO P (i + 1) l
theorem idxO_any (P : Int → Bool) : ∀ (l : List Int) (i : Nat), decide (idxO P i l ≥ 0) = l.any P
  | [], i => by simp [idxO]
  | x :: l, i => by
    rw [idxO, List.any_cons]
    cases P x with
    | true => simp
    | false => rw [cond_false, idxO_any P l (i + 1), Bool.false_or]
theorem c179 (nl : Bool) (l : List Int) (lines : Int) (h0 : 1 ≤ lines) (h1 : lines ≤ 16) (hl : l.length ≤ 2 ^ 40) :
    calV U 179 [encS nl (ints l), .fn (.func 159) [] [.fp [.int .i64 lines] 0]] = some (.int .i64 (idxO (fun x => outside x 0 (2 ^ lines.toNat - 1)) 0 l)) := by
  refine pure_go k179 (by kernel_rfl) (by simp [stills, still, still_encS]) ?_
  simp +contextual only [go_sem, ↓reduceIte, r179, lenL_encS, ints_len]
  refine loop_to (σ := Nat) (fun i => l.length - i) (fun i => some (AV.int .i64 (idxO (fun x => outside x 0 (2 ^ lines.toNat - 1)) i (l.drop i)))) (fun i e s => i ≤ l.length ∧ Env.get e 0 = encS nl (ints l) ∧ Env.get e 1 = .fn (.func 159) [] [.fp [.int .i64 lines] 0] ∧ Env.get e 7 = .int .i64 l.length ∧ Env.get e 8 = .int .i64 i) 0 ?_ rfl ?_
  · rintro L i e s ⟨hi, g0, g1, g7, g8⟩ ih
    by_cases hd : i < l.length
    · have hx := ixa_sigN (nl := nl) hd
      have hw := wrap_succ hd (by omega)
      have hat : atI l (i : Int) = l[i] := by unfold atI; rw [Int.toNat_natCast, List.getD_eq_getElem?_getD, List.getElem?_eq_getElem hd]; rfl
      rw [hat] at hx
      have hc := c159 l[i] lines h0 h1
      rw [List.drop_eq_getElem_cons hd, idxO]
      simp +contextual only [go_sem, ↓reduceIte, r179_l0, g0, g1, g7, g8, nat_lt_dec, hd, hx, hc]
      cases hb : outside l[i] 0 (2 ^ lines.toNat - 1) with
      | true => simp +contextual only [go_sem, ↓reduceIte]
      | false =>
        simp +contextual only [go_sem, ↓reduceIte, hw]
        refine ih (i + 1) _ _ (by omega) ⟨by omega, ?_, ?_, ?_, ?_⟩ <;> simp +contextual only [go_sem, ↓reduceIte, g0, g1, g7, g8, hw]
    · have : i = l.length := by omega
      subst this
      simp +contextual only [go_sem, ↓reduceIte, r179_l0, g0, g1, g7, g8, nat_lt_dec, Nat.lt_irrefl]
      rw [List.drop_length]; rfl
  · refine ⟨Nat.zero_le _, ?_, ?_, ?_, ?_⟩ <;> simp +contextual only [go_sem, ↓reduceIte] <;> rfl
theorem c125 (nl : Bool) (l : List Int) (lines : Int) (h0 : 1 ≤ lines) (h1 : lines ≤ 16) (hl : l.length ≤ 2 ^ 40) :
    calV U 125 [encS nl (ints l), .fn (.func 159) [] [.fp [.int .i64 lines] 0]] = some (.bool (anyOut lines l)) := by
  refine pure_go k125 (by kernel_rfl) (by simp [stills, still, still_encS]) ?_
  have := c179 nl l lines h0 h1 hl
  have hi := idxO_any (fun x => outside x 0 (2 ^ lines.toNat - 1)) l 0
  simp +contextual only [go_sem, ↓reduceIte, r125, this, hi]
  rfl
theorem z125 {args : List AV} {s : St} (h : stills args = false) : callK U (calV U 125 args) 125 args s = calZ U 125 (mapO (frz U s 40) args) s := z_of (by kernel_rfl) s h
theorem c91 (nl : Bool) (l : List Int) (lines : Int) (h0 : 1 ≤ lines) (h1 : lines ≤ 16) : calV U 91 [.int .i64 lines, encS nl (ints l)] = some (.int .i64 (ckSig lines l)) := by
  refine pure_go k91 (by kernel_rfl) (by simp [stills, still, still_encS]) ?_
  rw [ckSig]
  cases hb : decide ((l.length : Int) > 4096) with
  | true =>
    simp +contextual only [go_sem, ↓reduceIte, r91, lenL_encS, ints_len, hb]
  | false =>
    have hle : l.length ≤ 2 ^ 40 := by simp at hb; omega
    have hz := fun s => cz_of (c125 nl l lines h0 h1 hle) (by kernel_rfl) (by simp [stills, still, still_encS]) rfl s
    have hst : stills [encS nl (ints l), .fn (.func 159) [] [.ptr 8 0]] = false := by simp [stills, still, still_encS]
    simp +contextual only [go_sem, ↓reduceIte, r91, lenL_encS, ints_len, hb, z125 hst, frz_encS, hz, c116]
def sameI : List Int → List Int → Bool
  | [], [] => true
  | x :: a, y :: b => bif x != y then false else sameI a b
  | _, _ => false
theorem sameI_len : ∀ {a b : List Int}, a.length ≠ b.length → sameI a b = false
  | [], [], h => absurd rfl h
  | [], _ :: _, _ => rfl
  | _ :: _, [], _ => rfl
  | a :: x, b :: y, h => by
    rw [sameI, sameI_len (fun e => h (by simp [e]))]
    cases a != b <;> rfl
theorem sameI_refl : ∀ a : List Int, sameI a a = true
  | [] => rfl
  | a :: x => by rw [sameI, sameI_refl x]; simp
theorem c109 (na nb : Bool) (a b : List Int) (ha : a.length < 2 ^ 62) : calV U 109 [encS na (ints a), encS nb (ints b)] = some (.bool (sameI a b)) := by
  refine pure_go k109 (by kernel_rfl) (by simp [stills, still_encS, still]) ?_
  simp (config := { maxSteps := 2000000 }) +contextual only [go_sem, ↓reduceIte, r109, lenL_encS, ints_len]
  cases hl : ((a.length : Int) != (b.length : Int)) with
  | true =>
    have : a.length ≠ b.length := by simp at hl; omega
    rw [sameI_len this]
    simp +contextual only [go_sem, ↓reduceIte]
  | false =>
    have hl : a.length = b.length := by simp at hl; omega
    simp +contextual only [go_sem, ↓reduceIte]
    refine loop_to (σ := Nat) (fun i => a.length - i) (fun i => some (AV.bool (sameI (a.drop i) (b.drop i)))) (fun i e s => i ≤ a.length ∧ Env.get e 0 = encS na (ints a) ∧ Env.get e 1 = encS nb (ints b) ∧ Env.get e 5 = .int .i64 i) 0 ?_ rfl ?_
    · rintro L i e s ⟨hi, g0, g1, g5⟩ ih
      by_cases hd : i < a.length
      · have hd' : i < b.length := by omega
        have hx : ixRA 1 (encS na (ints a)) (.int .i64 (i : Int)) = some (.fp [.int .i64 a[i]] 0) := ixa_encS 1 na (ints a) .i64 i (.int .i64 a[i]) (by omega) (by rw [Int.toNat_natCast, ints_get, List.getElem?_eq_getElem hd]; rfl) rfl (by decide)
        have hy : ixRA 1 (encS nb (ints b)) (.int .i64 (i : Int)) = some (.fp [.int .i64 b[i]] 0) := ixa_encS 1 nb (ints b) .i64 i (.int .i64 b[i]) (by omega) (by rw [Int.toNat_natCast, ints_get, List.getElem?_eq_getElem hd']; rfl) rfl (by decide)
        have hw := wrap_succ hd (by omega)
        rw [List.drop_eq_getElem_cons hd, List.drop_eq_getElem_cons hd', sameI]
        simp +contextual only [go_sem, ↓reduceIte, r109_l0, g0, g1, g5, nat_lt_dec, hd, hx, hy, lenL_encS, ints_len]
        cases hb : a[i] != b[i] with
        | true => simp +contextual only [go_sem, ↓reduceIte]
        | false =>
          simp +contextual only [go_sem, ↓reduceIte, hw]
          refine ih (i + 1) _ _ (by omega) ⟨by omega, ?_, ?_, ?_⟩ <;> simp +contextual only [go_sem, ↓reduceIte, g0, g1, g5, hw]
      · have : i = a.length := by omega
        subst this
        simp +contextual only [go_sem, ↓reduceIte, r109_l0, g0, g1, g5, nat_lt_dec, Nat.lt_irrefl, lenL_encS, ints_len]
        rw [List.drop_length, hl, List.drop_length]; rfl
    · refine ⟨Nat.zero_le _, ?_, ?_, ?_⟩ <;> simp +contextual only [go_sem, ↓reduceIte] <;> rfl
theorem c56 (na nb : Bool) (a b : List Int) (ha : a.length < 2 ^ 62) : calV U 56 [encS na (ints a), encS nb (ints b)] = some (.bool (sameI a b)) := by
  refine pure_go k56 (by kernel_rfl) (by simp [stills, still_encS, still]) ?_
  have := c109 na nb a b ha
  simp (config := { maxSteps := 2000000 }) +contextual only [go_sem, ↓reduceIte, r56, this]
def listR (a : List Int) (e bad : Int) (b : List Int) : Bool := bif bad != 0 then ((a.length : Int) == 0) && e == bad else (e == 0) && sameI a b
theorem c36 (na nb : Bool) (a b : List Int) (e bad : Int) (ha : a.length < 2 ^ 62) : calV U 36 [encS na (ints a), .int .i64 e, .int .i64 bad, encS nb (ints b)] = some (.bool (listR a e bad b)) := by
  refine pure_go k36 (by kernel_rfl) (by simp [stills, still_encS, still]) ?_
  have := c56 na nb a b ha
  unfold listR
  cases hb : bad != 0 <;> simp (config := { maxSteps := 2000000 }) +contextual only [go_sem, ↓reduceIte, r36, this, lenL_encS, ints_len, hb]
end Go.Am

set_option linter.all false
namespace Go.Am
open Go
variable [MaxLen]
set_option maxRecDepth 100000
set_option maxHeartbeats 4000000

/-! # Automata: the data, and the checks -/
def encN (a : Auto) : AV := encS a.nNl (a.next.map encRow)
def encFs (a : Auto) : AV := encS a.fNl (a.fires.map encFRow)
theorem encA_eq (a : Auto) : encA a = .agg [.int .i64 a.lines, encN a, encFs a] := rfl
theorem still_encA (a : Auto) : still (encA a) = true := by simp [encA, still, stills, still_encS]
theorem ixa_rowI {nl : Bool} {l : List (Bool × List Int)} {i : Nat} (h : i < l.length) : ixRA 1 (encS nl (l.map encRow)) (.int .i64 (i : Int)) = some (.fp [encS l[i].1 (ints l[i].2)] 0) := by
  have := ixa_encS 1 nl (l.map encRow) .i64 i (encRow l[i]) (by omega) (by rw [Int.toNat_natCast, List.getElem?_map, List.getElem?_eq_getElem h]; rfl) (by rw [encRow, cells_encS]; rfl) (by decide)
  rw [encRow, cells_encS] at this
  exact this
theorem ixa_rowB {nl : Bool} {l : List (Bool × List Bool)} {i : Nat} (h : i < l.length) : ixRA 1 (encS nl (l.map encFRow)) (.int .i64 (i : Int)) = some (.fp [encS l[i].1 (bools l[i].2)] 0) := by
  have := ixa_encS 1 nl (l.map encFRow) .i64 i (encFRow l[i]) (by omega) (by rw [Int.toNat_natCast, List.getElem?_map, List.getElem?_eq_getElem h]; rfl) (by rw [encFRow, cells_encS]; rfl) (by decide)
  rw [encFRow, cells_encS] at this
  exact this
theorem ixa_intV {nl : Bool} {l : List Int} {i : Nat} (h : i < l.length) : ixRA 1 (encS nl (ints l)) (.int .i64 (i : Int)) = some (.fp [.int .i64 l[i]] 0) :=
  ixa_encS 1 nl (ints l) .i64 i (.int .i64 l[i]) (by omega) (by rw [Int.toNat_natCast, ints_get, List.getElem?_eq_getElem h]; rfl) rfl (by decide)
theorem ixa_boolV {nl : Bool} {l : List Bool} {i : Nat} (h : i < l.length) : ixRA 1 (encS nl (bools l)) (.int .i64 (i : Int)) = some (.fp [.bool l[i]] 0) :=
  ixa_encS 1 nl (bools l) .i64 i (.bool l[i]) (by omega) (by rw [Int.toNat_natCast, bools_get, List.getElem?_eq_getElem h]; rfl) rfl (by decide)

def mOf (lines : Int) : Int := 2 ^ lines.toNat
/-- the errors of rows: their lengths, and the states that they name -/
def ckRows (m n : Int) : List (Bool × List Int) → List (Bool × List Bool) → Int
  | [], _ => 0
  | r :: l, f => br ((r.2.length : Int) != m || (((f.headD (true, [])).2.length : Int) != m)) 2 <| br (r.2.any fun x => outside x 0 (n - 1)) 10 <| ckRows m n l f.tail
def ckA (a : Auto) : Int :=
  br (outside a.lines 1 4) 3 <| br ((a.next.length : Int) == 0) 12 <| br (decide ((a.next.length : Int) > 256)) 5 <| br ((a.fires.length : Int) != a.next.length) 2 <| ckRows (mOf a.lines) a.next.length a.next a.fires

theorem c50 (a : Auto) : calV U 50 [encA a] = some (.int .i64 (ckA a)) := by
  refine pure_go k50 (by kernel_rfl) (by simp [stills, still_encA]) ?_
  rw [encA_eq, ckA]
  have nn := noAgg_encS a.nNl (a.next.map encRow)
  have nf := noAgg_encS a.fNl (a.fires.map encFRow)
  have ln := lenL_encS a.nNl (a.next.map encRow)
  have lf := lenL_encS a.fNl (a.fires.map encFRow)
  have cn := cells_encS a.nNl (a.next.map encRow)
  have cf := cells_encS a.fNl (a.fires.map encFRow)
  rw [List.length_map] at ln lf
  unfold encN encFs
  cases ho : outside a.lines 1 4 with
  | true =>
    simp (config := { maxSteps := 2000000 }) +contextual only [go_sem, ↓reduceIte, r50, c94, nn, nf, cn, cf, ho]
  | false =>
  have hl : 1 ≤ a.lines ∧ a.lines ≤ 4 := by
    simp only [outside, Bool.or_eq_false_iff, decide_eq_false_iff_not] at ho; omega
  have hsh := bin_shl1 U 3 true .i64 (n := a.lines) (show 0 ≤ a.lines ∧ a.lines ≤ 16 by omega)
  simp (config := { maxSteps := 2000000 }) +contextual only [go_sem, ↓reduceIte, r50, c94, nn, nf, cn, cf, ln, lf, ho]
  simp only [brI_some]
  refine br_r fun h1 => ?_
  refine br_r fun h2 => ?_
  refine br_r fun h3 => ?_
  have hn : a.next.length ≤ 256 := by simp at h2; omega
  have hfl : a.fires.length = a.next.length := by simp at h3; omega
  have hp := pow_le16 a.lines (by omega)
  have hw1 : IntKind.i64.wrap ((a.next.length : Int) - 1) = (a.next.length : Int) - 1 := by rw [wrap_i64] <;> omega
  refine loop_to (σ := Nat) (fun i => a.next.length - i) (fun i => some (AV.int .i64 (ckRows (mOf a.lines) a.next.length (a.next.drop i) (a.fires.drop i)))) (fun i e s => i ≤ a.next.length ∧ Env.get e 1 = .ptr 8 0 ∧ Env.get e 3 = .int .i64 (i : Nat) ∧ 8 < s.next ∧
    s.get 8 = some (.cells [.int .i64 a.lines, encS a.nNl (a.next.map encRow), encS a.fNl (a.fires.map encFRow)] 72 false 0 0)) 0 ?_ (by rw [List.drop_zero, List.drop_zero]) ?_
  · rintro L i e s ⟨hi, g1, g3, nx, gs⟩ IH
    by_cases hd : i < a.next.length
    · have hw := wrap_succ hd (by omega)
      have hx := ixa_rowI (nl := a.nNl) hd
      have hy := ixa_rowB (nl := a.fNl) (show i < a.fires.length by omega)
      have hla := lenL_encS a.next[i].1 (ints a.next[i].2)
      have hlb := lenL_encS a.fires[i].1 (bools a.fires[i].2)
      rw [ints_len] at hla
      rw [bools_len] at hlb
      have hfd : (a.fires.drop i).headD (true, []) = a.fires[i] := by rw [List.drop_eq_getElem_cons (show i < a.fires.length by omega)]; rfl
      have hft : (a.fires.drop i).tail = a.fires.drop (i + 1) := by rw [List.tail_drop]
      rw [List.drop_eq_getElem_cons hd, ckRows, hfd, hft]
      generalize hR : a.next[i] = R at *
      generalize hF : a.fires[i] = F at *
      have ne8 : ∀ q, (s.next + q = 8) = False := fun q => by simp; omega
      cases h4 : ((R.2.length : Int) != mOf a.lines) with
      | true =>
        unfold mOf at h4
        simp (config := { maxSteps := 2000000 }) +contextual only [go_sem, ↓reduceIte, r50_l1, g1, g3, gs, nat_lt_dec, hd, ln, lf, hx, hy, hla, hlb, hsh, h4]
        all_goals rfl
      | false =>
      cases h5 : ((F.2.length : Int) != mOf a.lines) with
      | true =>
        unfold mOf at h4 h5
        simp (config := { maxSteps := 2000000 }) +contextual only [go_sem, ↓reduceIte, r50_l1, g1, g3, gs, nat_lt_dec, hd, ln, lf, hx, hy, hla, hlb, hsh, h4, h5]
        all_goals rfl
      | false =>
        unfold mOf at h4 h5
        simp (config := { maxSteps := 2000000 }) +contextual only [go_sem, ↓reduceIte, r50_l1, g1, g3, gs, nat_lt_dec, hd, ln, lf, hx, hy, hla, hlb, hsh, h4, h5]
        have hRl : R.2.length ≤ 65536 := by simp at h4; omega
        refine loop_to (σ := Nat) (fun x => R.2.length - x) (fun x => some (AV.int .i64 (br ((R.2.drop x).any fun y => outside y 0 ((a.next.length : Int) - 1)) 10 (ckRows (mOf a.lines) a.next.length (a.next.drop (i + 1)) (a.fires.drop (i + 1)))))) (fun x e s => x ≤ R.2.length ∧ Env.get e 1 = .ptr 8 0 ∧ Env.get e 3 = .int .i64 (i : Nat) ∧ Env.get e 4 = .int .i64 (x : Nat) ∧ 8 < s.next ∧
          s.get 8 = some (.cells [.int .i64 a.lines, encS a.nNl (a.next.map encRow), encS a.fNl (a.fires.map encFRow)] 72 false 0 0)) 0 ?_ (by rw [List.drop_zero]; rfl) ?_
        · rintro L' x e' s' ⟨hx', g1', g3', g4', nx', gs'⟩ IH'
          by_cases hd' : x < R.2.length
          · have hw' := wrap_succ hd' (by omega)
            have hxx := ixa_intV (nl := R.1) hd'
            rw [List.drop_eq_getElem_cons hd', List.any_cons]
            cases ho2 : outside R.2[x] 0 ((a.next.length : Int) - 1) with
            | true => simp (config := { maxSteps := 2000000 }) +contextual only [go_sem, ↓reduceIte, r50_l0, g1', g3', g4', gs', nat_lt_dec, hd', ln, hx, hla, hxx, hw1, c94, ho2, Bool.true_or]
            | false =>
              simp (config := { maxSteps := 2000000 }) +contextual only [go_sem, ↓reduceIte, r50_l0, g1', g3', g4', gs', nat_lt_dec, hd', ln, hx, hla, hxx, hw1, c94, ho2, Bool.false_or, hw']
              refine IH' (x + 1) _ _ (by omega) ⟨by omega, ?_, ?_, ?_, ?_, ?_⟩
              all_goals simp +contextual only [go_sem, ↓reduceIte, g1', g3', g4', gs', hw', upto_get]
              all_goals omega
          · have : x = R.2.length := by omega
            subst this
            simp (config := { maxSteps := 2000000 }) +contextual only [go_sem, ↓reduceIte, r50_l0, g1', g3', g4', gs', nat_lt_dec, Nat.lt_irrefl, ln, hx, hla, hw]
            rw [List.drop_length]
            refine IH (i + 1) _ _ (by omega) ⟨by omega, ?_, ?_, ?_, ?_⟩
            all_goals try simp +contextual only [go_sem, ↓reduceIte, g1', g3', gs', hw]
            all_goals omega
        · refine ⟨Nat.zero_le _, ?_, ?_, ?_, ?_, ?_⟩
          all_goals try simp +contextual only [go_sem, ↓reduceIte, g1, g3, gs]
          all_goals first | rfl | omega
    · have : i = a.next.length := by omega
      subst this
      simp +contextual only [go_sem, ↓reduceIte, r50_l1, g1, g3, gs, nat_lt_dec, Nat.lt_irrefl, ln]
      rw [List.drop_length, ckRows]
  · refine ⟨Nat.zero_le _, ?_, ?_, ?_, ?_⟩
    all_goals try simp +contextual only [go_sem, ↓reduceIte]
    all_goals rfl
end Go.Am

set_option linter.all false
namespace Go.Am
open Go
variable [MaxLen]
set_option maxRecDepth 100000
set_option maxHeartbeats 4000000

/-! # The program's check of an automaton -/
def cellsA (a : Auto) : List AV := [.int .i64 a.lines, encS a.nNl (a.next.map encRow), encS a.fNl (a.fires.map encFRow)]
theorem still_cellsA (a : Auto) : stills (cellsA a) = true := by simp [cellsA, stills, still, still_encS]
theorem c126 (x : Int) (a : Auto) (hn : a.next.length ≤ 2 ^ 40) : calV U 126 [.int .i64 x, .fp (cellsA a) 0] = some (.bool (outside x 0 ((a.next.length : Int) - 1))) := by
  refine pure_go k126 (by kernel_rfl) (by simp [stills, still, still_cellsA]) ?_
  have ln := lenL_encS a.nNl (a.next.map encRow)
  rw [List.length_map] at ln
  have hp : outside x 0 ((a.next.length : Int) - 1) = (decide (x < 0) || decide (x ≥ (a.next.length : Int))) := by
    unfold outside
    congr 1
    congr 1
    apply propext; omega
  rw [hp]
  unfold cellsA
  cases h : decide (x < 0) <;> simp +contextual only [go_sem, ↓reduceIte, r126, ln, h]
  all_goals rfl
theorem cv126 (x : Int) (a : Auto) (hn : a.next.length ≤ 2 ^ 40) (s : St) : calv U (.fn (.func 126) [] [.fp (cellsA a) 0]) [.int .i64 x] s = some (.bool (outside x 0 ((a.next.length : Int) - 1)), s) := by
  have h := c126 x a hn
  simp only [calv_fn, List.nil_append, List.cons_append, h, callK_some]
/-- a test of the numbers of a list -/
theorem c179P (P : Int → Bool) (fn : AV) (hst : still fn = true) (hf : ∀ x s, calv U fn [.int .i64 x] s = some (.bool (P x), s)) (nl : Bool) (l : List Int) (hl : l.length ≤ 2 ^ 40) : calV U 179 [encS nl (ints l), fn] = some (.int .i64 (idxO P 0 l)) := by
  refine pure_go k179 (by kernel_rfl) (by simp [stills, still_encS, hst]) ?_
  simp +contextual only [go_sem, ↓reduceIte, r179, lenL_encS, ints_len]
  refine loop_to (σ := Nat) (fun i => l.length - i) (fun i => some (AV.int .i64 (idxO P i (l.drop i)))) (fun i e s => i ≤ l.length ∧ Env.get e 0 = encS nl (ints l) ∧ Env.get e 1 = fn ∧ Env.get e 7 = .int .i64 l.length ∧ Env.get e 8 = .int .i64 i) 0 ?_ rfl ?_
  · rintro L i e s ⟨hi, g0, g1, g7, g8⟩ ih
    by_cases hd : i < l.length
    · have hx := ixa_intV (nl := nl) hd
      have hw := wrap_succ hd (by omega)
      rw [List.drop_eq_getElem_cons hd, idxO]
      have hc := hf l[i]
      cases hb : P l[i] with
      | true => simp +contextual only [go_sem, ↓reduceIte, r179_l0, g0, g1, g7, g8, nat_lt_dec, hd, hx, hc, hb]
      | false =>
        simp +contextual only [go_sem, ↓reduceIte, r179_l0, g0, g1, g7, g8, nat_lt_dec, hd, hx, hc, hb, hw]
        refine ih (i + 1) _ _ (by omega) ⟨by omega, ?_, ?_, ?_, ?_⟩ <;> simp +contextual only [go_sem, ↓reduceIte, g0, g1, g7, g8, hw]
    · have : i = l.length := by omega
      subst this
      simp +contextual only [go_sem, ↓reduceIte, r179_l0, g0, g1, g7, g8, nat_lt_dec, Nat.lt_irrefl]
      rw [List.drop_length]; rfl
  · refine ⟨Nat.zero_le _, ?_, ?_, ?_, ?_⟩ <;> simp +contextual only [go_sem, ↓reduceIte] <;> rfl
theorem c125P (P : Int → Bool) (fn : AV) (hst : still fn = true) (hf : ∀ x s, calv U fn [.int .i64 x] s = some (.bool (P x), s)) (nl : Bool) (l : List Int) (hl : l.length ≤ 2 ^ 40) : calV U 125 [encS nl (ints l), fn] = some (.bool (l.any P)) := by
  refine pure_go k125 (by kernel_rfl) (by simp [stills, still_encS, hst]) ?_
  have h := c179P P fn hst hf nl l hl
  have hi := idxO_any P l 0
  simp +contextual only [go_sem, ↓reduceIte, r125, h, hi]

theorem c58 (a : Auto) (hn : a.next.length ≤ 2 ^ 40) (hr : ∀ r ∈ a.next, r.2.length ≤ 2 ^ 40) : calV U 58 [encA a] = some (.int .i64 (ckA a)) := by
  refine pure_go k58 (by kernel_rfl) (by simp [stills, still_encA]) ?_
  rw [encA_eq]
  have nn := noAgg_encS a.nNl (a.next.map encRow)
  have nf := noAgg_encS a.fNl (a.fires.map encFRow)
  have ln := lenL_encS a.nNl (a.next.map encRow)
  have lf := lenL_encS a.fNl (a.fires.map encFRow)
  have cn := cells_encS a.nNl (a.next.map encRow)
  have cf := cells_encS a.fNl (a.fires.map encFRow)
  rw [List.length_map] at ln lf
  unfold encN encFs
  have hz : stills [.sl 29 0 4 (some 4) 1] = false := rfl
  simp (config := { maxSteps := 2000000 }) +contextual only [go_sem, ↓reduceIte, r58, c124, c116, nn, nf, cn, cf, ln, lf, z89, cz89_4]
  rw [show within a.lines 1 4 = br (outside a.lines 1 4) 3 0 from rfl, ckA]
  cases ho : outside a.lines 1 4 with
  | true => rfl
  | false =>
  cases h1 : ((a.next.length : Int) == 0) with
  | true => rfl
  | false =>
  cases h2 : decide ((a.next.length : Int) > 256) with
  | true => rfl
  | false =>
  cases h3 : ((a.fires.length : Int) != a.next.length) with
  | true => rfl
  | false =>
  have hl : 1 ≤ a.lines ∧ a.lines ≤ 4 := by
    simp only [outside, Bool.or_eq_false_iff, decide_eq_false_iff_not] at ho; omega
  have hsh := bin_shl1 U 3 true .i64 (n := a.lines) (show 0 ≤ a.lines ∧ a.lines ≤ 16 by omega)
  have hp := pow_le16 a.lines (by omega)
  have hn : a.next.length ≤ 256 := by simp at h2; omega
  have hfl : a.fires.length = a.next.length := by simp at h3; omega
  simp only [br_false]
  rw [show (firstOf [0, 0, 0, 0] != 0) = false from rfl, br_false]
  refine loop_to (σ := Nat) (fun i => a.next.length - i) (fun i => some (AV.int .i64 (ckRows (mOf a.lines) a.next.length (a.next.drop i) (a.fires.drop i)))) (fun i e s => i ≤ a.next.length ∧ Env.get e 1 = .ptr 8 0 ∧ Env.get e 36 = encS a.nNl (a.next.map encRow) ∧ Env.get e 37 = .int .i64 a.next.length ∧ Env.get e 38 = .int .i64 (i : Nat) ∧ 8 < s.next ∧ Fr s ∧
    s.get 8 = some (.cells [.int .i64 a.lines, encS a.nNl (a.next.map encRow), encS a.fNl (a.fires.map encFRow)] 69 false 0 0)) 0 ?_ (by rw [List.drop_zero, List.drop_zero]) ?_
  · rintro L i e s ⟨hi, g1, g36, g37, g38, nx, fr, gs⟩ IH
    by_cases hd : i < a.next.length
    · have hw := wrap_succ hd (by omega)
      have hx := ixa_rowI (nl := a.nNl) hd
      have hy := ixa_rowB (nl := a.fNl) (show i < a.fires.length by omega)
      have hla := lenL_encS a.next[i].1 (ints a.next[i].2)
      have hlb := lenL_encS a.fires[i].1 (bools a.fires[i].2)
      rw [ints_len] at hla
      rw [bools_len] at hlb
      have hfd : (a.fires.drop i).headD (true, []) = a.fires[i] := by rw [List.drop_eq_getElem_cons (show i < a.fires.length by omega)]; rfl
      have hft : (a.fires.drop i).tail = a.fires.drop (i + 1) := by rw [List.tail_drop]
      rw [List.drop_eq_getElem_cons hd, ckRows, hfd, hft]
      generalize hR : a.next[i] = R at *
      generalize hF : a.fires[i] = F at *
      have ne8 : ∀ q, (s.next + q = 8) = False := fun q => by simp; omega
      have ne8' : (s.next = 8) = False := by simp; omega
      have hfk := fr.at
      have hrl := hr R (by rw [← hR]; exact List.getElem_mem hd)
      have hz := fun s => cz_of (c125P _ (.fn (.func 126) [] [.fp (cellsA a) 0]) (by simp [still, stills, still_cellsA]) (fun x s => cv126 x a (by omega) s) R.1 R.2 hrl) (by kernel_rfl) (by simp [stills, still, still_encS, still_cellsA]) rfl s
      have hst : stills [encS R.1 (ints R.2), .fn (.func 126) [] [.ptr 8 0]] = false := by simp [stills, still, still_encS]
      have hz2 : ∀ j, stills [.sl j 0 2 (some 2) 1] = false := fun _ => rfl
      simp only [cellsA] at hz
      simp (config := { maxSteps := 2000000 }) +contextual only [go_sem, ↓reduceIte, r58_l0, g1, g36, g37, g38, gs, nat_lt_dec, hd, ln, lf, hx, hy, hla, hlb, hsh, ne8, ne8', hfk, z125 hst, frz_encS, hz, c116, z89, cz89_2, hz2, Nat.add_assoc, Nat.left_eq_add]
      have hm : (2 : Int) ^ a.lines.toNat = mOf a.lines := rfl
      rw [hm]
      cases h4 : ((R.2.length : Int) != mOf a.lines || (F.2.length : Int) != mOf a.lines) with
      | true => rfl
      | false =>
      cases h5 : (R.2.any fun x => outside x 0 ((a.next.length : Int) - 1)) with
      | true => rfl
      | false =>
      simp only [br_false]
      rw [show (firstOf [0, 0] != 0) = false from rfl, br_false]
      refine IH (i + 1) _ _ (by omega) ⟨by omega, ?_, ?_, ?_, ?_, ?_, ?_, ?_⟩
      case refine_6 =>
        repeat first | exact fr | apply Fr.new | apply Fr.put | apply Fr.upto
        all_goals try simp +contextual only [go_sem, ↓reduceIte]
        all_goals omega
      all_goals try simp +contextual only [go_sem, ↓reduceIte, g1, g36, g37, gs, hw, ne8, ne8']
      all_goals omega
    · have : i = a.next.length := by omega
      subst this
      simp +contextual only [go_sem, ↓reduceIte, r58_l0, g37, g38, nat_lt_dec, Nat.lt_irrefl]
      rw [List.drop_length, ckRows]
  · refine ⟨Nat.zero_le _, ?_, ?_, ?_, ?_, ?_, ?_, ?_⟩
    case refine_6 =>
      repeat first | exact Fr.own | apply Fr.new | apply Fr.put | apply Fr.upto
      all_goals simp +contextual only [go_sem, ↓reduceIte]
    all_goals try simp +contextual only [go_sem, ↓reduceIte]
    all_goals rfl
end Go.Am

set_option linter.all false
namespace Go.Am
open Go

/-! # The reference's classes of states (plain) -/

/-- an automaton as functions: n states, m symbols -/
structure Fa where
  n : Nat
  m : Nat
  nx : Nat → Nat → Nat
  fr : Nat → Nat → Bool
structure Fa.ok (A : Fa) : Prop where
  pos : 0 < A.n
  lt : ∀ s x, s < A.n → x < A.m → A.nx s x < A.n

/-- states that trigger alike and go to states with the same number -/
def Fa.E (A : Fa) (f : Nat → Nat) (u v : Nat) : Prop := ∀ x, x < A.m → A.fr u x = A.fr v x ∧ f (A.nx u x) = f (A.nx v x)
theorem Fa.E_refl (A : Fa) (f : Nat → Nat) (u : Nat) : A.E f u u := fun _ _ => ⟨rfl, rfl⟩
theorem Fa.E.symm {A : Fa} {f : Nat → Nat} {u v : Nat} (h : A.E f u v) : A.E f v u := fun x hx => ⟨(h x hx).1.symm, (h x hx).2.symm⟩
theorem Fa.E.trans {A : Fa} {f : Nat → Nat} {u v w : Nat} (h : A.E f u v) (k : A.E f v w) : A.E f u w := fun x hx => ⟨(h x hx).1.trans (k x hx).1, (h x hx).2.trans (k x hx).2⟩

def alkN (A : Fa) (f : Nat → Nat) (u v : Nat) : Nat → Bool
  | 0 => true
  | x + 1 => alkN A f u v x && (A.fr u x == A.fr v x && f (A.nx u x) == f (A.nx v x))
theorem alkN_iff (A : Fa) (f : Nat → Nat) (u v : Nat) : ∀ k, alkN A f u v k = true ↔ ∀ x, x < k → A.fr u x = A.fr v x ∧ f (A.nx u x) = f (A.nx v x)
  | 0 => by simp [alkN]
  | k + 1 => by
    rw [alkN, Bool.and_eq_true, alkN_iff A f u v k, Bool.and_eq_true, beq_iff_eq, beq_iff_eq]
    constructor
    · rintro ⟨h1, h2⟩ x hx
      by_cases e : x = k
      · subst e; exact h2
      · exact h1 x (by omega)
    · intro h
      exact ⟨fun x hx => h x (by omega), h k (by omega)⟩
def alk (A : Fa) (f : Nat → Nat) (u v : Nat) : Bool := alkN A f u v A.m
theorem alk_iff (A : Fa) (f : Nat → Nat) (u v : Nat) : alk A f u v = true ↔ A.E f u v := alkN_iff A f u v A.m

/-- for o = k - 1 down to 0 -/
def scanD (al : Nat → Bool) : Nat → Nat → Nat
  | 0, c => c
  | k + 1, c => scanD al k (bif al k then k else c)
theorem scanD_spec (al : Nat → Bool) : ∀ k c, k ≤ c → (scanD al k c ≤ c) ∧ (scanD al k c = c ∨ (scanD al k c < k ∧ al (scanD al k c) = true)) ∧ ∀ o, o < k → o < scanD al k c → al o = false
  | 0, c, _ => ⟨Nat.le_refl _, .inl rfl, fun o h => by omega⟩
  | k + 1, c, hk => by
    rw [scanD]
    cases ha : al k with
    | true =>
      obtain ⟨h1, h2, h3⟩ := scanD_spec al k k (Nat.le_refl _)
      simp only [cond_true]
      refine ⟨by omega, .inr ?_, fun o ho hs => h3 o (by omega) hs⟩
      rcases h2 with h2 | ⟨h2, h4⟩
      · rw [h2]; exact ⟨by omega, ha⟩
      · exact ⟨by omega, h4⟩
    | false =>
      obtain ⟨h1, h2, h3⟩ := scanD_spec al k c (by omega)
      simp only [cond_false]
      refine ⟨h1, ?_, fun o ho hs => ?_⟩
      · rcases h2 with h2 | ⟨h2, h4⟩
        · exact .inl h2
        · exact .inr ⟨by omega, h4⟩
      · by_cases e : o = k
        · subst e; exact ha
        · exact h3 o (by omega) hs
/-- the first state that is alike -/
def cano (A : Fa) (f : Nat → Nat) (s : Nat) : Nat := scanD (alk A f s) s s
theorem cano_spec (A : Fa) (f : Nat → Nat) (s : Nat) : cano A f s ≤ s ∧ A.E f s (cano A f s) ∧ ∀ o, o < cano A f s → ¬ A.E f s o := by
  obtain ⟨h1, h2, h3⟩ := scanD_spec (alk A f s) s s (Nat.le_refl _)
  refine ⟨h1, ?_, fun o ho he => ?_⟩
  · rcases h2 with h2 | ⟨_, h2⟩
    · show A.E f s (scanD _ s s)
      rw [h2]; exact A.E_refl f s
    · exact (alk_iff A f _ _).1 h2
  · have := h3 o (by unfold cano at ho; omega) ho
    rw [(alk_iff A f _ _).2 he] at this
    cases this
theorem cano_iff (A : Fa) (f : Nat → Nat) (u v : Nat) : cano A f u = cano A f v ↔ A.E f u v := by
  obtain ⟨u1, u2, u3⟩ := cano_spec A f u
  obtain ⟨v1, v2, v3⟩ := cano_spec A f v
  constructor
  · intro h
    rw [h] at u2
    exact u2.trans v2.symm
  · intro h
    have a : ¬ cano A f u < cano A f v := fun hl => v3 _ hl (h.symm.trans u2)
    have b : ¬ cano A f v < cano A f u := fun hl => u3 _ hl (h.trans v2)
    omega
/-- numbers of classes: the least state of each -/
structure Can (g : Nat → Nat) : Prop where
  le : ∀ s, g s ≤ s
  fix : ∀ s, g (g s) = g s
theorem Can.min {g : Nat → Nat} (h : Can g) {s u : Nat} (e : g u = g s) : g s ≤ u := by rw [← e]; exact h.le u
theorem cano_can (A : Fa) (f : Nat → Nat) : Can (cano A f) := ⟨fun s => (cano_spec A f s).1, fun s => ((cano_iff A f _ _).2 (cano_spec A f s).2.1).symm⟩
/-- g parts what f parts -/
def Fine (g f : Nat → Nat) : Prop := ∀ u v, g u = g v → f u = f v
theorem fine_next (A : Fa) {f : Nat → Nat} (h : Fine (cano A f) f) : Fine (cano A (cano A f)) (cano A f) := fun u v e => by
  rw [cano_iff] at e ⊢
  exact fun x hx => ⟨(e x hx).1, h _ _ (e x hx).2⟩
/-- how many states are the least of their class -/
def cntF (g : Nat → Nat) : Nat → Nat
  | 0 => 0
  | k + 1 => cntF g k + if g k = k then 1 else 0
theorem cntF_le (g : Nat → Nat) : ∀ k, cntF g k ≤ k
  | 0 => Nat.le_refl _
  | k + 1 => by have := cntF_le g k; rw [cntF]; split <;> omega
theorem cntF_mono {g h : Nat → Nat} (H : ∀ s, g s = s → h s = s) : ∀ k, cntF g k ≤ cntF h k
  | 0 => Nat.le_refl _
  | k + 1 => by
    have := cntF_mono H k
    rw [cntF, cntF]
    by_cases e : g k = k
    · rw [if_pos e, if_pos (H k e)]; omega
    · rw [if_neg e]; split <;> omega
theorem cntF_lt {g h : Nat → Nat} (H : ∀ s, g s = s → h s = s) {t : Nat} (h1 : h t = t) (h2 : g t ≠ t) : ∀ k, t < k → cntF g k < cntF h k
  | k + 1, hk => by
    rw [cntF, cntF]
    by_cases e : t = k
    · subst e
      have := cntF_mono H t
      rw [if_neg h2, if_pos h1]; omega
    · have := cntF_lt H h1 h2 k (by omega)
      by_cases e : g k = k
      · rw [if_pos e, if_pos (H k e)]; omega
      · rw [if_neg e]; split <;> omega
theorem grow {g h : Nat → Nat} (cg : Can g) (ch : Can h) (hf : Fine h g) {n s : Nat} (hs : s < n) (hne : h s ≠ g s) : cntF g n < cntF h n := by
  refine cntF_lt (t := h s) (fun u hu => ?_) (ch.fix s) (fun e => ?_) n (Nat.lt_of_le_of_lt (ch.le s) hs)
  · have := hf (h u) u (ch.fix u)
    have := cg.min this
    have := ch.le u
    omega
  · have := hf (h s) s (ch.fix s)
    exact hne (by omega)
/-- the rounds, until one changes nothing -/
def same2 (g f : Nat → Nat) : Nat → Bool
  | 0 => true
  | k + 1 => same2 g f k && g k == f k
theorem same2_iff (g f : Nat → Nat) : ∀ k, same2 g f k = true ↔ ∀ s, s < k → g s = f s
  | 0 => by simp [same2]
  | k + 1 => by
    rw [same2, Bool.and_eq_true, same2_iff g f k, beq_iff_eq]
    constructor
    · rintro ⟨h1, h2⟩ s hs
      by_cases e : s = k
      · subst e; exact h2
      · exact h1 s (by omega)
    · intro h
      exact ⟨fun s hs => h s (by omega), h k (by omega)⟩
def rclF (A : Fa) : Nat → (Nat → Nat) → Nat → Nat
  | 0, f => f
  | r + 1, f => bif same2 (cano A f) f A.n then f else rclF A r (cano A f)
theorem same2_false {g f : Nat → Nat} {k : Nat} (h : same2 g f k = false) : ∃ s, s < k ∧ g s ≠ f s := by
  refine Classical.byContradiction fun hc => ?_
  have : same2 g f k = true := (same2_iff g f k).2 fun s hs => Classical.byContradiction fun e => hc ⟨s, hs, e⟩
  rw [h] at this; cases this
/-- stable: its numbers are those of the next round -/
theorem rclF_stable (A : Fa) : ∀ (r : Nat) (f : Nat → Nat), Can f → Fine (cano A f) f → A.n < cntF f A.n + r → ∀ s, s < A.n → cano A (rclF A r f) s = rclF A r f s
  | 0, f, _, _, h => by have := cntF_le f A.n; omega
  | r + 1, f, cf, hf, h => by
    rw [rclF]
    cases hs : same2 (cano A f) f A.n with
    | true => exact (same2_iff _ _ _).1 hs
    | false =>
      obtain ⟨s, h1, h2⟩ := same2_false hs
      have := grow cf (cano_can A f) hf h1 h2
      exact rclF_stable A r _ (cano_can A f) (fine_next A hf) (by omega)
theorem rclF_can (A : Fa) : ∀ (r : Nat) (f : Nat → Nat), Can f → Can (rclF A r f)
  | 0, f, h => h
  | r + 1, f, h => by
    rw [rclF]
    cases same2 (cano A f) f A.n with
    | true => exact h
    | false => exact rclF_can A r _ (cano_can A f)
/-- what triggers alike for ever -/
structure Bis (A : Fa) (B : Nat → Nat → Prop) : Prop where
  lt : ∀ u v, B u v → u < A.n ∧ v < A.n
  fr : ∀ u v, B u v → ∀ x, x < A.m → A.fr u x = A.fr v x
  nx : ∀ u v, B u v → ∀ x, x < A.m → B (A.nx u x) (A.nx v x)
theorem rclF_bis {A : Fa} {B : Nat → Nat → Prop} (hB : Bis A B) : ∀ (r : Nat) (f : Nat → Nat), (∀ u v, B u v → f u = f v) → ∀ u v, B u v → rclF A r f u = rclF A r f v
  | 0, f, h => h
  | r + 1, f, h => by
    rw [rclF]
    cases same2 (cano A f) f A.n with
    | true => exact h
    | false => exact rclF_bis hB r _ fun u v huv => (cano_iff A f u v).2 fun x hx => ⟨hB.fr u v huv x hx, h _ _ (hB.nx u v huv x hx)⟩
/-- the reference's classes -/
def clsR (A : Fa) : Nat → Nat := rclF A (A.n + 1) fun _ => 0
theorem clsR_can (A : Fa) : Can (clsR A) := rclF_can A _ _ ⟨fun _ => Nat.zero_le _, fun _ => rfl⟩
theorem clsR_iff {A : Fa} (h : A.ok) {u v : Nat} (hu : u < A.n) (hv : v < A.n) : clsR A u = clsR A v ↔ A.E (clsR A) u v := by
  have h0 : 0 < cntF (fun _ => 0) A.n := by
    have : ∀ k, 0 < k → 0 < cntF (fun _ => 0) k := by
      intro k hk
      induction k with
      | zero => omega
      | succ k ih =>
        rw [cntF]
        by_cases e : k = 0
        · subst e; decide
        · have := ih (by omega); omega
    exact this _ h.pos
  have st := rclF_stable A (A.n + 1) (fun _ => 0) ⟨fun _ => Nat.zero_le _, fun _ => rfl⟩ (fun _ _ _ => rfl) (by omega)
  have e := cano_iff A (clsR A) u v
  rw [← e]
  show _ ↔ cano A (rclF A (A.n + 1) fun _ => 0) u = cano A (rclF A (A.n + 1) fun _ => 0) v
  rw [st u hu, st v hv]
  rfl
theorem clsR_bis {A : Fa} {B : Nat → Nat → Prop} (hB : Bis A B) (u v : Nat) (h : B u v) : clsR A u = clsR A v := rclF_bis hB _ _ (fun _ _ _ => rfl) u v h
/-- equal classes are such a relation -/
theorem clsR_isBis {A : Fa} (h : A.ok) : Bis A fun u v => u < A.n ∧ v < A.n ∧ clsR A u = clsR A v :=
  ⟨fun u v k => ⟨k.1, k.2.1⟩, fun u v k x hx => (((clsR_iff h k.1 k.2.1).1 k.2.2) x hx).1, fun u v k x hx => ⟨h.lt u x k.1 hx, h.lt v x k.2.1 hx, (((clsR_iff h k.1 k.2.1).1 k.2.2) x hx).2⟩⟩
end Go.Am

set_option linter.all false
namespace Go.Am
open Go

/-! # A partition of states, its marks and splits (plain) -/

def gt (l : List Nat) (i : Nat) : Nat := l.getD i 0
theorem gt_set (l : List Nat) (i x j : Nat) : gt (l.set i x) j = if i = j ∧ j < l.length then x else gt l j := by
  unfold gt
  rw [List.getD_eq_getElem?_getD, List.getD_eq_getElem?_getD, List.getElem?_set]
  by_cases e : i = j
  · subst e
    by_cases h : i < l.length
    · simp [h]
    · simp [h]
  · simp [e]
theorem gt_app (l : List Nat) (x j : Nat) : gt (l ++ [x]) j = if j = l.length then x else gt l j := by
  unfold gt
  rw [List.getD_eq_getElem?_getD, List.getD_eq_getElem?_getD]
  by_cases e : j = l.length
  · subst e; simp
  · rw [if_neg e]
    by_cases h : j < l.length
    · rw [List.getElem?_append_left h]
    · rw [List.getElem?_eq_none (by simp; omega), List.getElem?_eq_none (by omega)]

structure Pt where
  list : List Nat
  place : List Nat
  set : List Nat
  bg : List Nat
  en : List Nat
  mr : List Nat
/-- all stands as it must -/
structure Pt.Wf (n : Nat) (p : Pt) : Prop where
  ll : p.list.length = n
  lp : p.place.length = n
  ls : p.set.length = n
  le : p.en.length = p.bg.length
  lm : p.mr.length = p.bg.length
  pl : ∀ u, u < n → gt p.place u < n ∧ gt p.list (gt p.place u) = u
  li : ∀ i, i < n → gt p.list i < n ∧ gt p.place (gt p.list i) = i
  st : ∀ u, u < n → gt p.set u < p.bg.length ∧ gt p.bg (gt p.set u) ≤ gt p.place u ∧ gt p.place u < gt p.en (gt p.set u)
  sp : ∀ k, k < p.bg.length → gt p.bg k < gt p.en k ∧ gt p.en k ≤ n ∧ ∀ i, gt p.bg k ≤ i → i < gt p.en k → gt p.set (gt p.list i) = k
  mr : ∀ k, k < p.bg.length → gt p.bg k + gt p.mr k ≤ gt p.en k
def Pt.Mk (p : Pt) (u : Nat) : Prop := gt p.place u < gt p.bg (gt p.set u) + gt p.mr (gt p.set u)
instance (p : Pt) (u : Nat) : Decidable (p.Mk u) := inferInstanceAs (Decidable (_ < _))
def Pt.markd (p : Pt) (u : Nat) : Pt × Bool :=
  bif decide (gt p.place u < gt p.bg (gt p.set u) + gt p.mr (gt p.set u)) then (p, false) else
    ({ p with
      list := (p.list.set (gt p.place u) (gt p.list (gt p.bg (gt p.set u) + gt p.mr (gt p.set u)))).set (gt p.bg (gt p.set u) + gt p.mr (gt p.set u)) u
      place := (p.place.set (gt p.list (gt p.bg (gt p.set u) + gt p.mr (gt p.set u))) (gt p.place u)).set u (gt p.bg (gt p.set u) + gt p.mr (gt p.set u))
      mr := p.mr.set (gt p.set u) (gt p.mr (gt p.set u) + 1) }, gt p.mr (gt p.set u) + 1 == 1)

theorem markd_spec {n : Nat} {p : Pt} (h : p.Wf n) {u : Nat} (hu : u < n) : (p.markd u).1.Wf n ∧ (p.markd u).1.set = p.set ∧ (p.markd u).1.bg = p.bg ∧ (p.markd u).1.en = p.en ∧ (∀ v, v < n → ((p.markd u).1.Mk v ↔ p.Mk v ∨ v = u)) ∧
    ((p.markd u).2 = true ↔ gt p.mr (gt p.set u) = 0) ∧ (∀ k, k < p.bg.length → (0 < gt (p.markd u).1.mr k ↔ 0 < gt p.mr k ∨ k = gt p.set u)) := by
  obtain ⟨hs1, hs2, hs3⟩ := h.st u hu
  obtain ⟨hk1, hk2, hk3⟩ := h.sp _ hs1
  obtain ⟨hp1, hp2⟩ := h.pl u hu
  unfold Pt.markd
  generalize hs : gt p.set u = s at *
  generalize ha : gt p.place u = a at *
  generalize ht : gt p.bg s + gt p.mr s = t at *
  by_cases hm : a < t
  · rw [decide_eq_true hm, cond_true]
    refine ⟨h, rfl, rfl, rfl, fun v hv => ⟨.inl, ?_⟩, ?_, fun k hk => ⟨.inl, ?_⟩⟩
    · rintro (h1 | rfl)
      · exact h1
      · unfold Pt.Mk; rw [hs, ha, ht]; exact hm
    · simp; omega
    · rintro (h1 | rfl)
      · exact h1
      · simp only; omega
  · rw [decide_eq_false hm, cond_false]
    have htn : t < n := by omega
    obtain ⟨hl1, hl2⟩ := h.li t htn
    have hso := hk3 t (by omega) (by omega)
    generalize ho : gt p.list t = o at *
    -- how the lists read now
    have L : ∀ i, gt ((p.list.set a o).set t u) i = if i = t then u else if i = a then o else gt p.list i := fun i => by
      rw [gt_set, gt_set, List.length_set, h.ll]
      by_cases e1 : i = t
      · subst e1; rw [if_pos ⟨rfl, htn⟩, if_pos rfl]
      · rw [if_neg (by omega), if_neg e1]
        by_cases e2 : i = a
        · subst e2; rw [if_pos ⟨rfl, hp1⟩, if_pos rfl]
        · rw [if_neg (by omega), if_neg e2]
    have P : ∀ v, gt ((p.place.set o a).set u t) v = if v = u then t else if v = o then a else gt p.place v := fun v => by
      rw [gt_set, gt_set, List.length_set, h.lp]
      by_cases e1 : v = u
      · subst e1; rw [if_pos ⟨rfl, hu⟩, if_pos rfl]
      · rw [if_neg (by omega), if_neg e1]
        by_cases e2 : v = o
        · subst e2; rw [if_pos ⟨rfl, hl1⟩, if_pos rfl]
        · rw [if_neg (by omega), if_neg e2]
    have M : ∀ k, gt (p.mr.set s (gt p.mr s + 1)) k = if k = s then gt p.mr s + 1 else gt p.mr k := fun k => by
      rw [gt_set, h.lm]
      by_cases e : k = s
      · subst e; rw [if_pos ⟨rfl, hs1⟩, if_pos rfl]
      · rw [if_neg (by omega), if_neg e]
    have hou : o = u ↔ a = t := by
      constructor
      · intro e; rw [e, ha] at hl2; exact hl2
      · intro e; rw [← e, hp2] at ho; exact ho.symm
    refine ⟨⟨?_, ?_, h.ls, h.le, ?_, fun v hv => ?_, fun i hi => ?_, fun v hv => ?_, fun k hk => ?_, fun k hk => ?_⟩, rfl, rfl, rfl, fun v hv => ?_, ?_, fun k hk => ?_⟩
    · simp [h.ll]
    · simp [h.lp]
    · simp [h.lm]
    · show gt ((p.place.set o a).set u t) v < n ∧ gt ((p.list.set a o).set t u) (gt ((p.place.set o a).set u t) v) = v
      rw [P v]
      by_cases e1 : v = u
      · rw [if_pos e1]; exact ⟨htn, by rw [L, if_pos rfl, e1]⟩
      · rw [if_neg e1]
        by_cases e2 : v = o
        · rw [if_pos e2]
          exact ⟨hp1, by rw [L, if_neg (fun e => e1 (e2.trans (hou.2 e))), if_pos rfl, e2]⟩
        · rw [if_neg e2]
          obtain ⟨q1, q2⟩ := h.pl v hv
          refine ⟨q1, ?_⟩
          rw [L, if_neg (fun e => e2 (by rw [← q2, e, ho])), if_neg (fun e => e1 (by rw [← q2, e, hp2])), q2]
    · show gt ((p.list.set a o).set t u) i < n ∧ gt ((p.place.set o a).set u t) (gt ((p.list.set a o).set t u) i) = i
      rw [L i]
      by_cases e1 : i = t
      · rw [if_pos e1]; exact ⟨hu, by rw [P, if_pos rfl, e1]⟩
      · rw [if_neg e1]
        by_cases e2 : i = a
        · rw [if_pos e2]
          exact ⟨hl1, by rw [P, if_neg (fun e => e1 (e2.trans (hou.1 e))), if_pos rfl, e2]⟩
        · rw [if_neg e2]
          obtain ⟨q1, q2⟩ := h.li i hi
          refine ⟨q1, ?_⟩
          rw [P, if_neg (fun e => e2 (by rw [← q2, e, ha])), if_neg (fun e => e1 (by rw [← q2, e, hl2])), q2]
    · show gt p.set v < p.bg.length ∧ gt p.bg (gt p.set v) ≤ gt ((p.place.set o a).set u t) v ∧ gt ((p.place.set o a).set u t) v < gt p.en (gt p.set v)
      rw [P v]
      by_cases e1 : v = u
      · rw [if_pos e1, e1, hs]; exact ⟨hs1, by omega, by omega⟩
      · rw [if_neg e1]
        by_cases e2 : v = o
        · rw [if_pos e2, e2, hso]; exact ⟨hs1, by omega, by omega⟩
        · rw [if_neg e2]; exact h.st v hv
    · obtain ⟨q1, q2, q3⟩ := h.sp k hk
      refine ⟨q1, q2, fun i hi1 hi2 => ?_⟩
      show gt p.set (gt ((p.list.set a o).set t u) i) = k
      have := q3 i hi1 hi2
      rw [L i]
      by_cases e1 : i = t
      · rw [if_pos e1, hs]; rw [e1, ho, hso] at this; exact this
      · rw [if_neg e1]
        by_cases e2 : i = a
        · rw [if_pos e2, hso]; rw [e2, hp2, hs] at this; exact this
        · rw [if_neg e2]; exact this
    · show gt p.bg k + gt (p.mr.set s (gt p.mr s + 1)) k ≤ gt p.en k
      rw [M k]
      by_cases e : k = s
      · rw [if_pos e, e]; omega
      · rw [if_neg e]; exact h.mr k hk
    · show gt ((p.place.set o a).set u t) v < gt p.bg (gt p.set v) + gt (p.mr.set s (gt p.mr s + 1)) (gt p.set v) ↔ p.Mk v ∨ v = u
      unfold Pt.Mk
      rw [P v, M]
      by_cases e1 : v = u
      · rw [if_pos e1, e1, hs, if_pos rfl]
        exact ⟨fun _ => .inr rfl, fun _ => by omega⟩
      · rw [if_neg e1]
        by_cases e2 : v = o
        · have hat : a ≠ t := fun e => e1 (e2.trans (hou.2 e))
          rw [if_pos e2, e2, hso, if_pos rfl, hl2]
          constructor
          · intro hh; exfalso; omega
          · rintro (hh | hh)
            · exfalso; omega
            · exact absurd (e2.trans hh) e1
        · rw [if_neg e2]
          by_cases e3 : gt p.set v = s
          · have hne : gt p.place v ≠ t := fun e => e2 (by rw [← (h.pl v hv).2, e, ho])
            rw [e3, if_pos rfl]
            constructor
            · intro hh; exact .inl (by omega)
            · rintro (hh | hh)
              · omega
              · exact absurd hh e1
          · rw [if_neg e3]
            exact ⟨.inl, fun hh => hh.resolve_right e1⟩
    · simp
    · show 0 < gt (p.mr.set s (gt p.mr s + 1)) k ↔ _
      rw [M k]
      by_cases e : k = s
      · rw [if_pos e]; exact ⟨fun _ => .inr e, fun _ => by omega⟩
      · rw [if_neg e]; exact ⟨.inl, fun hh => hh.resolve_right e⟩

/-- the states of a part get a number -/
def setAll (k : Nat) : List Nat → List Nat → List Nat
  | [], s => s
  | u :: l, s => setAll k l (s.set u k)
theorem setAll_len (k : Nat) : ∀ (l s : List Nat), (setAll k l s).length = s.length
  | [], s => rfl
  | u :: l, s => by rw [setAll, setAll_len k l, List.length_set]
theorem setAll_gt (k : Nat) : ∀ (l s : List Nat) (v : Nat), v < s.length → gt (setAll k l s) v = if v ∈ l then k else gt s v
  | [], s, v, _ => by simp [setAll]
  | u :: l, s, v, hv => by
    rw [setAll, setAll_gt k l _ v (by rw [List.length_set]; exact hv), gt_set]
    by_cases h1 : v ∈ l
    · rw [if_pos h1, if_pos (List.mem_cons_of_mem _ h1)]
    · rw [if_neg h1]
      by_cases h2 : u = v
      · rw [if_pos ⟨h2, hv⟩, if_pos (by rw [h2]; exact List.mem_cons_self ..)]
      · rw [if_neg (by omega), if_neg (by simp [h1]; omega)]
/-- a piece of a list -/
def piece (l : List Nat) (a b : Nat) : List Nat := (l.drop a).take (b - a)
theorem piece_mem {l : List Nat} {a b x : Nat} (hb : b ≤ l.length) : x ∈ piece l a b ↔ ∃ i, a ≤ i ∧ i < b ∧ gt l i = x := by
  unfold piece
  rw [List.mem_take_iff_getElem]
  constructor
  · rintro ⟨j, hj, e⟩
    rw [List.length_drop] at hj
    rw [List.getElem_drop] at e
    refine ⟨a + j, by omega, by omega, ?_⟩
    unfold gt
    rw [List.getD_eq_getElem?_getD, List.getElem?_eq_getElem (by omega)]
    exact e
  · rintro ⟨i, h1, h2, e⟩
    refine ⟨i - a, by rw [List.length_drop]; omega, ?_⟩
    rw [List.getElem_drop]
    unfold gt at e
    rw [List.getD_eq_getElem?_getD, List.getElem?_eq_getElem (by omega)] at e
    simp only [Option.getD_some] at e
    rw [← e]
    congr 1
    omega
end Go.Am

set_option linter.all false
namespace Go.Am
open Go

/-- a set is parted into its marked and its other states -/
def Pt.cut (p : Pt) (s : Nat) : Pt × Bool :=
  bif gt p.mr s == gt p.en s - gt p.bg s then ({ p with mr := p.mr.set s 0 }, false) else
  bif decide (2 * gt p.mr s > gt p.en s - gt p.bg s) then
    ({ p with mr := p.mr.set s 0 ++ [0], bg := p.bg ++ [gt p.bg s + gt p.mr s], en := p.en.set s (gt p.bg s + gt p.mr s) ++ [gt p.en s],
              set := setAll p.bg.length (piece p.list (gt p.bg s + gt p.mr s) (gt p.en s)) p.set }, true)
  else
    ({ p with mr := p.mr.set s 0 ++ [0], bg := p.bg.set s (gt p.bg s + gt p.mr s) ++ [gt p.bg s], en := p.en ++ [gt p.bg s + gt p.mr s],
              set := setAll p.bg.length (piece p.list (gt p.bg s) (gt p.bg s + gt p.mr s)) p.set }, true)
structure Cut (n : Nat) (p : Pt) (s : Nat) (r : Pt × Bool) : Prop where
  wf : r.1.Wf n
  len : r.1.bg.length = p.bg.length + (bif r.2 then 1 else 0)
  num : ∀ v, v < n → gt r.1.set v = gt p.set v ∨ (gt p.set v = s ∧ gt r.1.set v = p.bg.length ∧ r.2 = true)
  eq : ∀ u v, u < n → v < n → (gt r.1.set u = gt r.1.set v ↔ gt p.set u = gt p.set v ∧ (gt p.set u = s → (p.Mk u ↔ p.Mk v)))
  mr : ∀ k, k < p.bg.length → k ≠ s → gt r.1.mr k = gt p.mr k
  mk0 : gt r.1.mr s = 0
  mkK : r.2 = true → gt r.1.mr p.bg.length = 0
  Mk : ∀ v, v < n → gt p.set v ≠ s → (r.1.Mk v ↔ p.Mk v)

/-- a part of a set gets a number of its own -/
theorem cut_part {n : Nat} {p : Pt} (h : p.Wf n) {s : Nat} (hs : s < p.bg.length) (b : Bool) {f t f' t' : Nat} (hb : gt p.bg s ≤ f ∧ f < t ∧ t ≤ gt p.en s) (hb' : gt p.bg s ≤ f' ∧ f' < t' ∧ t' ≤ gt p.en s)
    (hm : ∀ i, gt p.bg s ≤ i → i < gt p.en s → ((f ≤ i ∧ i < t ↔ (i < gt p.bg s + gt p.mr s ↔ b = true)) ∧ (f' ≤ i ∧ i < t' ↔ ¬ (f ≤ i ∧ i < t)))) {bg1 en1 : List Nat}
    (hbl : bg1.length = p.bg.length) (hel : en1.length = p.bg.length) (hbg : ∀ k, gt bg1 k = if k = s then f' else gt p.bg k) (hen : ∀ k, gt en1 k = if k = s then t' else gt p.en k) :
    Cut n p s ({ p with mr := p.mr.set s 0 ++ [0], bg := bg1 ++ [f], en := en1 ++ [t], set := setAll p.bg.length (piece p.list f t) p.set }, true) := by
  obtain ⟨k1, k2, k3⟩ := h.sp s hs
  have hS : ∀ v, v < n → gt (setAll p.bg.length (piece p.list f t) p.set) v = if gt p.set v = s ∧ (p.Mk v ↔ b = true) then p.bg.length else gt p.set v := fun v hv => by
    rw [setAll_gt _ _ _ _ (by rw [h.ls]; exact hv)]
    obtain ⟨q1, q2⟩ := h.pl v hv
    have hi : v ∈ piece p.list f t ↔ gt p.set v = s ∧ (p.Mk v ↔ b = true) := by
      rw [piece_mem (by rw [h.ll]; omega)]
      constructor
      · rintro ⟨i, h1, h2, rfl⟩
        have hin : i < n := by omega
        have e := (h.li i hin).2
        have es := k3 i (by omega) (by omega)
        refine ⟨es, ?_⟩
        have := ((hm i (by omega) (by omega)).1).1 ⟨h1, h2⟩
        unfold Pt.Mk
        rw [e, es]; exact this
      · rintro ⟨h1, h2⟩
        obtain ⟨_, r2, r3⟩ := h.st v hv
        rw [h1] at r2 r3
        unfold Pt.Mk at h2
        rw [h1] at h2
        obtain ⟨h3, h4⟩ := ((hm _ r2 r3).1).2 h2
        exact ⟨_, h3, h4, q2⟩
    by_cases e : v ∈ piece p.list f t
    · rw [if_pos e, if_pos (hi.1 e)]
    · rw [if_neg e, if_neg fun c => e (hi.2 c)]
  have hK : ∀ v, v < n → gt p.set v < p.bg.length := fun v hv => (h.st v hv).1
  have hM : ∀ k, gt (p.mr.set s 0 ++ [0]) k = if k = s ∨ k = p.bg.length then 0 else gt p.mr k := fun k => by
    rw [gt_app, gt_set, List.length_set, h.lm]
    by_cases e1 : k = p.bg.length
    · rw [if_pos e1, if_pos (.inr e1)]
    · rw [if_neg e1]
      by_cases e2 : k = s
      · rw [if_pos ⟨e2.symm, by omega⟩, if_pos (.inl e2)]
      · rw [if_neg (by omega), if_neg (by omega)]
  have hB : ∀ k, gt (bg1 ++ [f]) k = if k = p.bg.length then f else if k = s then f' else gt p.bg k := fun k => by rw [gt_app, hbl, hbg]
  have hE : ∀ k, gt (en1 ++ [t]) k = if k = p.bg.length then t else if k = s then t' else gt p.en k := fun k => by rw [gt_app, hel, hen]
  have hin : ∀ v, v < n → gt p.set v = s → ((f ≤ gt p.place v ∧ gt p.place v < t ↔ (p.Mk v ↔ b = true)) ∧ (f' ≤ gt p.place v ∧ gt p.place v < t' ↔ ¬ (f ≤ gt p.place v ∧ gt p.place v < t))) := fun v hv e => by
    obtain ⟨_, r2, r3⟩ := h.st v hv
    rw [e] at r2 r3
    have := hm _ r2 r3
    unfold Pt.Mk
    rw [e]; exact this
  refine ⟨⟨h.ll, h.lp, by rw [setAll_len]; exact h.ls, by simp [hel, hbl], by simp [h.lm, hbl], h.pl, h.li, fun v hv => ?_, fun k hk => ?_, fun k hk => ?_⟩, by simp [hbl], fun v hv => ?_, fun u v hu hv => ?_, fun k hk hne => ?_, ?_, fun _ => ?_, fun v hv hne => ?_⟩
  · show gt (setAll p.bg.length (piece p.list f t) p.set) v < (bg1 ++ [f]).length ∧ gt (bg1 ++ [f]) (gt (setAll p.bg.length (piece p.list f t) p.set) v) ≤ gt p.place v ∧ gt p.place v < gt (en1 ++ [t]) (gt (setAll p.bg.length (piece p.list f t) p.set) v)
    rw [hS v hv, hB, hE, List.length_append, hbl]
    have hkv := hK v hv
    obtain ⟨r1, r2, r3⟩ := h.st v hv
    by_cases c : gt p.set v = s ∧ (p.Mk v ↔ b = true)
    · have := ((hin v hv c.1).1).2 c.2
      simp only [if_pos c]
      exact ⟨by simp, this.1, this.2⟩
    · simp only [if_neg c]
      have hne : ¬ gt p.set v = p.bg.length := by omega
      rw [if_neg hne, if_neg hne]
      by_cases e : gt p.set v = s
      · have := ((hin v hv e).2).2 fun c2 => c ⟨e, ((hin v hv e).1).1 c2⟩
        rw [if_pos e, if_pos e]
        exact ⟨by simp; omega, this.1, this.2⟩
      · rw [if_neg e, if_neg e]
        exact ⟨by simp; omega, r2, r3⟩
  · show gt (bg1 ++ [f]) k < gt (en1 ++ [t]) k ∧ gt (en1 ++ [t]) k ≤ n ∧ ∀ i, gt (bg1 ++ [f]) k ≤ i → i < gt (en1 ++ [t]) k → gt (setAll p.bg.length (piece p.list f t) p.set) (gt p.list i) = k
    have hk : k < p.bg.length + 1 := by simpa [hbl] using hk
    rw [hB, hE]
    by_cases e1 : k = p.bg.length
    · rw [if_pos e1, if_pos e1]
      refine ⟨hb.2.1, by omega, fun i h1 h2 => ?_⟩
      obtain ⟨q1, q2⟩ := h.li i (by omega)
      have es := k3 i (by omega) (by omega)
      rw [hS _ q1, if_pos ⟨es, ((hin _ q1 es).1).1 (by rw [q2]; exact ⟨h1, h2⟩)⟩, e1]
    · rw [if_neg e1, if_neg e1]
      by_cases e2 : k = s
      · rw [if_pos e2, if_pos e2]
        refine ⟨hb'.2.1, by omega, fun i h1 h2 => ?_⟩
        obtain ⟨q1, q2⟩ := h.li i (by omega)
        have es := k3 i (by omega) (by omega)
        have hno : ¬ (f ≤ i ∧ i < t) := ((hm i (by omega) (by omega)).2).1 ⟨h1, h2⟩
        rw [hS _ q1, if_neg (fun c => hno (by have := ((hin _ q1 es).1).2 c.2; rw [q2] at this; exact this)), es, e2]
      · rw [if_neg e2, if_neg e2]
        obtain ⟨r1, r2, r3⟩ := h.sp k (by omega)
        refine ⟨r1, r2, fun i h1 h2 => ?_⟩
        obtain ⟨q1, _⟩ := h.li i (by omega)
        have es := r3 i h1 h2
        rw [hS _ q1, if_neg (fun c => e2 (es.symm.trans c.1)), es]
  · show gt (bg1 ++ [f]) k + gt (p.mr.set s 0 ++ [0]) k ≤ gt (en1 ++ [t]) k
    have hk : k < p.bg.length + 1 := by simpa [hbl] using hk
    rw [hB, hE, hM]
    by_cases e1 : k = p.bg.length
    · rw [if_pos e1, if_pos e1, if_pos (.inr e1)]; omega
    · rw [if_neg e1, if_neg e1]
      by_cases e2 : k = s
      · rw [if_pos e2, if_pos e2, if_pos (.inl e2)]; omega
      · rw [if_neg e2, if_neg e2, if_neg (by omega)]
        exact h.mr k (by omega)
  · show gt (setAll p.bg.length (piece p.list f t) p.set) v = _ ∨ _
    rw [hS v hv]
    by_cases c : gt p.set v = s ∧ (p.Mk v ↔ b = true)
    · right
      refine ⟨c.1, ?_, rfl⟩
      rw [if_pos c]
    · rw [if_neg c]; exact .inl rfl
  · show gt (setAll p.bg.length (piece p.list f t) p.set) u = gt (setAll p.bg.length (piece p.list f t) p.set) v ↔ _
    have hku := hK u hu
    have hkv := hK v hv
    rw [hS u hu, hS v hv]
    by_cases cu : gt p.set u = s ∧ (p.Mk u ↔ b = true)
    · by_cases cv : gt p.set v = s ∧ (p.Mk v ↔ b = true)
      · rw [if_pos cu, if_pos cv]
        exact ⟨fun _ => ⟨cu.1.trans cv.1.symm, fun _ => cu.2.trans cv.2.symm⟩, fun _ => rfl⟩
      · rw [if_pos cu, if_neg cv]
        constructor
        · intro e; omega
        · rintro ⟨e1, e2⟩
          exact absurd ⟨e1.symm.trans cu.1, (e2 cu.1).symm.trans cu.2⟩ cv
    · by_cases cv : gt p.set v = s ∧ (p.Mk v ↔ b = true)
      · rw [if_neg cu, if_pos cv]
        constructor
        · intro e; omega
        · rintro ⟨e1, e2⟩
          have es := e1.trans cv.1
          exact absurd ⟨es, (e2 es).trans cv.2⟩ cu
      · rw [if_neg cu, if_neg cv]
        constructor
        · intro e
          refine ⟨e, fun es => ?_⟩
          have c1 : ¬ (p.Mk u ↔ b = true) := fun c => cu ⟨es, c⟩
          have c2 : ¬ (p.Mk v ↔ b = true) := fun c => cv ⟨e.symm.trans es, c⟩
          cases b with
          | true => simp only [iff_true] at c1 c2; exact ⟨fun x => absurd x c1, fun x => absurd x c2⟩
          | false =>
            simp only [Bool.false_eq_true, iff_false, Classical.not_not] at c1 c2
            exact ⟨fun _ => c2, fun _ => c1⟩
        · exact fun e => e.1
  · show gt (p.mr.set s 0 ++ [0]) k = gt p.mr k
    rw [hM, if_neg (by omega)]
  · show gt (p.mr.set s 0 ++ [0]) s = 0
    rw [hM, if_pos (.inl rfl)]
  · show gt (p.mr.set s 0 ++ [0]) p.bg.length = 0
    rw [hM, if_pos (.inr rfl)]
  · show gt p.place v < gt (bg1 ++ [f]) (gt (setAll p.bg.length (piece p.list f t) p.set) v) + gt (p.mr.set s 0 ++ [0]) (gt (setAll p.bg.length (piece p.list f t) p.set) v) ↔ p.Mk v
    have hkv := hK v hv
    rw [hS v hv, if_neg (fun c => hne c.1), hB, hM, if_neg (by omega), if_neg hne, if_neg (by omega)]
    rfl
theorem cut_spec {n : Nat} {p : Pt} (h : p.Wf n) {s : Nat} (hs : s < p.bg.length) (hm : 0 < gt p.mr s) : Cut n p s (p.cut s) := by
  obtain ⟨k1, k2, k3⟩ := h.sp s hs
  have kk := h.mr s hs
  unfold Pt.cut
  cases hall : gt p.mr s == gt p.en s - gt p.bg s with
  | true =>
    have hall : gt p.mr s = gt p.en s - gt p.bg s := by simpa using hall
    rw [cond_true]
    have hM : ∀ k, gt (p.mr.set s 0) k = if k = s then 0 else gt p.mr k := fun k => by
      rw [gt_set, h.lm]
      by_cases e : k = s
      · rw [if_pos ⟨e.symm, by omega⟩, if_pos e]
      · rw [if_neg (by omega), if_neg e]
    refine ⟨⟨h.ll, h.lp, h.ls, h.le, by simp [h.lm], h.pl, h.li, h.st, h.sp, fun k hk => ?_⟩, rfl, fun v _ => .inl rfl, fun u v hu hv => ⟨fun e => ⟨e, fun es => ?_⟩, fun e => e.1⟩, fun k hk hne => ?_, ?_, fun h => (nomatch h), fun v hv hne => ?_⟩
    · show gt p.bg k + gt (p.mr.set s 0) k ≤ gt p.en k
      rw [hM]
      have := h.mr k hk
      split <;> omega
    · have au := (h.st u hu).2.2
      have av := (h.st v hv).2.2
      have e : gt p.set u = gt p.set v := e
      unfold Pt.Mk
      rw [← e] at av ⊢
      rw [es] at au av ⊢
      constructor <;> intro _ <;> omega
    · show gt (p.mr.set s 0) k = _
      rw [hM, if_neg hne]
    · show gt (p.mr.set s 0) s = 0
      rw [hM, if_pos rfl]
    · show gt p.place v < gt p.bg (gt p.set v) + gt (p.mr.set s 0) (gt p.set v) ↔ p.Mk v
      rw [hM, if_neg hne]; rfl
  | false =>
    have hall : gt p.mr s ≠ gt p.en s - gt p.bg s := by simpa using hall
    rw [cond_false]
    cases decide (2 * gt p.mr s > gt p.en s - gt p.bg s) with
    | true =>
      rw [cond_true]
      refine cut_part h hs false (f := gt p.bg s + gt p.mr s) (t := gt p.en s) (f' := gt p.bg s) (t' := gt p.bg s + gt p.mr s) (by omega) (by omega) (fun i h1 h2 => ?_) rfl (by rw [List.length_set]; exact h.le) (fun k => ?_) fun k => ?_
      · simp only [Bool.false_eq_true, iff_false]; omega
      · by_cases e : k = s
        · rw [if_pos e, e]
        · rw [if_neg e]
      · rw [gt_set, h.le]
        by_cases e : k = s
        · rw [if_pos ⟨e.symm, by omega⟩, if_pos e]
        · rw [if_neg (by omega), if_neg e]
    | false =>
      rw [cond_false]
      refine cut_part h hs true (f := gt p.bg s) (t := gt p.bg s + gt p.mr s) (f' := gt p.bg s + gt p.mr s) (t' := gt p.en s) (by omega) (by omega) (fun i h1 h2 => ?_) (by rw [List.length_set]) h.le (fun k => ?_) fun k => ?_
      · simp only [iff_true]; omega
      · rw [gt_set]
        by_cases e : k = s
        · rw [if_pos ⟨e.symm, by omega⟩, if_pos e]
        · rw [if_neg (by omega), if_neg e]
      · by_cases e : k = s
        · rw [if_pos e, e]
        · rw [if_neg e]
end Go.Am

set_option linter.all false
namespace Go.Am
open Go

def markAll : List Nat → Pt → List Nat → Pt × List Nat
  | [], p, T => (p, T)
  | u :: l, p, T => markAll l (p.markd u).1 (bif (p.markd u).2 then T ++ [gt p.set u] else T)
theorem markAll_app : ∀ (a b : List Nat) (p : Pt) (T : List Nat), markAll (a ++ b) p T = markAll b (markAll a p T).1 (markAll a p T).2
  | [], b, p, T => rfl
  | u :: a, b, p, T => by rw [List.cons_append, markAll, markAll, markAll_app a b]
/-- the sets that have a mark -/
structure Tch (p : Pt) (T : List Nat) : Prop where
  nd : T.Nodup
  mem : ∀ k, k < p.bg.length → (k ∈ T ↔ 0 < gt p.mr k)
  lt : ∀ k ∈ T, k < p.bg.length
structure MarkAll (n : Nat) (us : List Nat) (p : Pt) (r : Pt × List Nat) : Prop where
  wf : r.1.Wf n
  set : r.1.set = p.set
  bg : r.1.bg = p.bg
  en : r.1.en = p.en
  tch : Tch r.1 r.2
  Mk : ∀ v, v < n → (r.1.Mk v ↔ p.Mk v ∨ v ∈ us)
theorem markAll_spec {n : Nat} : ∀ (us : List Nat) {p : Pt} {T : List Nat}, p.Wf n → Tch p T → (∀ u ∈ us, u < n) → MarkAll n us p (markAll us p T)
  | [], p, T, h, ht, _ => ⟨h, rfl, rfl, rfl, ht, fun v _ => by simp [markAll]⟩
  | u :: l, p, T, h, ht, hu => by
    have hun := hu u (List.mem_cons_self ..)
    obtain ⟨m1, m2, m3, m4, m5, m6, m7⟩ := markd_spec h hun
    have hsu := (h.st u hun).1
    have ht1 : Tch (p.markd u).1 (bif (p.markd u).2 then T ++ [gt p.set u] else T) := by
      refine ⟨?_, fun k hk => ?_, fun k hk => ?_⟩
      · cases hb : (p.markd u).2 with
        | false => exact ht.nd
        | true =>
          have h0 := m6.1 hb
          rw [cond_true, List.nodup_append]
          refine ⟨ht.nd, by simp, fun a ha b hb => ?_⟩
          rw [List.mem_singleton.1 hb]
          rintro rfl
          have := (ht.mem _ hsu).1 ha
          omega
      · rw [m3] at hk
        rw [m7 k hk]
        cases hb : (p.markd u).2 with
        | false =>
          have h0 : gt p.mr (gt p.set u) ≠ 0 := fun e => by rw [m6.2 e] at hb; cases hb
          rw [cond_false, ht.mem k hk]
          constructor
          · exact .inl
          · rintro (h1 | rfl)
            · exact h1
            · omega
        | true =>
          rw [cond_true, List.mem_append, List.mem_singleton, ht.mem k hk]
      · rw [m3]
        cases hb : (p.markd u).2 with
        | false => rw [hb] at hk; exact ht.lt k hk
        | true =>
          rw [hb, cond_true, List.mem_append, List.mem_singleton] at hk
          rcases hk with hk | rfl
          · exact ht.lt k hk
          · exact hsu
    have ih := markAll_spec l m1 ht1 fun x hx => hu x (List.mem_cons_of_mem _ hx)
    rw [markAll]
    refine ⟨ih.wf, ih.set.trans m2, ih.bg.trans m3, ih.en.trans m4, ih.tch, fun v hv => ?_⟩
    rw [ih.Mk v hv, m5 v hv, List.mem_cons, or_assoc]

def cutAll : List Nat → Pt → List Nat → Pt × List Nat
  | [], p, w => (p, w)
  | t :: T, p, w => cutAll T (p.cut t).1 (bif (p.cut t).2 then w ++ [p.bg.length] else w)
def Pt.Zero (p : Pt) : Prop := ∀ k, k < p.bg.length → gt p.mr k = 0
/-- what a round of cuts gives: C tells which states are parted -/
structure Cuts (n : Nat) (p : Pt) (w : List Nat) (R : Nat → Nat → Prop) (r : Pt × List Nat) : Prop where
  wf : r.1.Wf n
  zero : r.1.Zero
  le : p.bg.length ≤ r.1.bg.length
  wlen : r.2.length + p.bg.length = w.length + r.1.bg.length
  work : ∀ k, k ∈ r.2 ↔ k ∈ w ∨ (p.bg.length ≤ k ∧ k < r.1.bg.length)
  num : ∀ v, v < n → gt r.1.set v = gt p.set v ∨ p.bg.length ≤ gt r.1.set v
  eq : ∀ u v, u < n → v < n → (gt r.1.set u = gt r.1.set v ↔ gt p.set u = gt p.set v ∧ R u v)
theorem cutAll_spec {n : Nat} : ∀ (T : List Nat) {p : Pt} (w : List Nat), p.Wf n → T.Nodup → (∀ k ∈ T, k < p.bg.length ∧ 0 < gt p.mr k) → (∀ k, k < p.bg.length → k ∉ T → gt p.mr k = 0) →
    Cuts n p w (fun u v => gt p.set u ∈ T → (p.Mk u ↔ p.Mk v)) (cutAll T p w)
  | [], p, w, h, _, _, hz => ⟨h, fun k hk => hz k hk (by simp), Nat.le_refl _, rfl, fun k => by simp only [cutAll]; constructor; exact .inl; rintro (h | h); exact h; omega, fun v _ => .inl rfl, fun u v _ _ => by simp [cutAll]⟩
  | t :: T, p, w, h, hn, hT, hz => by
    obtain ⟨ht, hm⟩ := hT t (List.mem_cons_self ..)
    have hc := cut_spec h ht hm
    rw [List.nodup_cons] at hn
    rw [cutAll]
    generalize hr : p.cut t = r at *
    obtain ⟨p1, b⟩ := r
    simp only at hc ⊢
    have hlen : p1.bg.length = p.bg.length + (bif b then 1 else 0) := hc.len
    have hle : p.bg.length ≤ p1.bg.length := by omega
    have hT1 : ∀ k ∈ T, k < p1.bg.length ∧ 0 < gt p1.mr k := fun k hk => by
      obtain ⟨q1, q2⟩ := hT k (List.mem_cons_of_mem _ hk)
      refine ⟨by omega, ?_⟩
      have : gt p1.mr k = gt p.mr k := hc.mr k q1 fun e => hn.1 (e ▸ hk)
      omega
    have hz1 : ∀ k, k < p1.bg.length → k ∉ T → gt p1.mr k = 0 := fun k hk hnk => by
      by_cases e : k = t
      · rw [e]; exact hc.mk0
      · by_cases e2 : k < p.bg.length
        · have : gt p1.mr k = gt p.mr k := hc.mr k e2 e
          rw [this]
          exact hz k e2 fun hmem => by
            rcases List.mem_cons.1 hmem with h1 | h1
            · exact e h1
            · exact hnk h1
        · cases b with
          | false => simp at hlen; omega
          | true =>
            have : k = p.bg.length := by simp at hlen; omega
            rw [this]; exact hc.mkK rfl
    have ih := cutAll_spec (p := p1) T (bif b then w ++ [p.bg.length] else w) hc.wf hn.2 hT1 hz1
    have ile := ih.le
    have iwl := ih.wlen
    refine ⟨ih.wf, ih.zero, by omega, ?_, fun k => ?_, fun v hv => ?_, fun u v hu hv => ?_⟩
    · cases b with
      | false => simp at hlen iwl ⊢; omega
      | true => simp at hlen iwl ⊢; omega
    · rw [ih.work k]
      cases b with
      | false =>
        have hlen : p1.bg.length = p.bg.length := by simpa using hlen
        rw [cond_false, hlen]
      | true =>
        have hlen : p1.bg.length = p.bg.length + 1 := by simpa using hlen
        simp only [cond_true] at ile
        rw [cond_true, List.mem_append, List.mem_singleton]
        constructor
        · rintro ((h1 | h1) | h1)
          · exact .inl h1
          · exact .inr (by omega)
          · exact .inr (by omega)
        · rintro (h1 | h1)
          · exact .inl (.inl h1)
          · by_cases e : k = p.bg.length
            · exact .inl (.inr e)
            · exact .inr (by omega)
    · rcases ih.num v hv with h1 | h1
      · rcases hc.num v hv with h2 | h2
        · exact .inl (h1.trans h2)
        · have h3 : gt p1.set v = p.bg.length := h2.2.1
          exact .inr (by omega)
      · exact .inr (by omega)
    · rw [ih.eq u v hu hv]
      have he : gt p1.set u = gt p1.set v ↔ gt p.set u = gt p.set v ∧ (gt p.set u = t → (p.Mk u ↔ p.Mk v)) := hc.eq u v hu hv
      have hmem : ∀ x, x < n → (gt p1.set x ∈ T ↔ gt p.set x ∈ T) := fun x hx => by
        have hnum : gt p1.set x = gt p.set x ∨ (gt p.set x = t ∧ gt p1.set x = p.bg.length ∧ b = true) := hc.num x hx
        rcases hnum with h1 | ⟨h1, h2, _⟩
        · rw [h1]
        · rw [h1, h2]
          constructor
          · intro hk; have := (hT _ (List.mem_cons_of_mem _ hk)).1; omega
          · intro hk; exact absurd hk hn.1
      have hMk : ∀ x, x < n → gt p.set x ≠ t → (p1.Mk x ↔ p.Mk x) := hc.Mk
      rw [he]
      constructor
      · rintro ⟨⟨e1, e2⟩, e3⟩
        refine ⟨e1, fun hx => ?_⟩
        rcases List.mem_cons.1 hx with h1 | h1
        · exact e2 h1
        · have hne : gt p.set u ≠ t := fun e => hn.1 (e ▸ h1)
          have := e3 ((hmem u hu).2 h1)
          rw [hMk u hu hne, hMk v hv (by rw [← e1]; exact hne)] at this
          exact this
      · rintro ⟨e1, e2⟩
        refine ⟨⟨e1, fun hx => e2 (by rw [hx]; exact List.mem_cons_self ..)⟩, fun hx => ?_⟩
        have h1 := (hmem u hu).1 hx
        have hne : gt p.set u ≠ t := fun e => hn.1 (e ▸ h1)
        rw [hMk u hu hne, hMk v hv (by rw [← e1]; exact hne)]
        exact e2 (List.mem_cons_of_mem _ h1)

/-- one symbol: the states that come to a set by it are parted off -/
def symP (bef : Nat → List Nat) (S : List Nat) (p : Pt) (w : List Nat) : Pt × List Nat :=
  cutAll (markAll (S.flatMap bef) p []).2 (markAll (S.flatMap bef) p []).1 w
theorem sym_spec {n : Nat} {p : Pt} (h : p.Wf n) (hz : p.Zero) (w : List Nat) {nx : Nat → Nat} {bef : Nat → List Nat} {S : List Nat} (hS : ∀ c ∈ S, c < n) (hb : ∀ c, c < n → ∀ u, u ∈ bef c ↔ u < n ∧ nx u = c) :
    Cuts n p w (fun u v => nx u ∈ S ↔ nx v ∈ S) (symP bef S p w) := by
  have hus : ∀ u, u ∈ S.flatMap bef ↔ u < n ∧ nx u ∈ S := fun u => by
    rw [List.mem_flatMap]
    constructor
    · rintro ⟨c, h1, h2⟩
      obtain ⟨q1, q2⟩ := (hb c (hS c h1) u).1 h2
      exact ⟨q1, by rw [q2]; exact h1⟩
    · rintro ⟨h1, h2⟩
      exact ⟨_, h2, (hb _ (hS _ h2) u).2 ⟨h1, rfl⟩⟩
  have ht0 : Tch p [] := ⟨by simp, fun k hk => by simp [hz k hk], fun k hk => by simp at hk⟩
  have hm := markAll_spec (S.flatMap bef) h ht0 fun u hu => ((hus u).1 hu).1
  unfold symP
  generalize markAll (S.flatMap bef) p [] = r at *
  obtain ⟨p1, T⟩ := r
  have e1 : p1.set = p.set := hm.set
  have e2 : p1.bg = p.bg := hm.bg
  have t1 : T.Nodup := hm.tch.nd
  have t2 : ∀ k, k < p1.bg.length → (k ∈ T ↔ 0 < gt p1.mr k) := hm.tch.mem
  have t3 : ∀ k ∈ T, k < p1.bg.length := hm.tch.lt
  have hc := cutAll_spec (p := p1) T w hm.wf t1 (fun k hk => ⟨t3 k hk, (t2 k (t3 k hk)).1 hk⟩) (fun k hk hn => by have := t2 k hk; have : ¬ 0 < gt p1.mr k := fun h => hn (this.2 h); omega)
  have hM : ∀ v, v < n → (p1.Mk v ↔ nx v ∈ S) := fun v hv => by
    have : p1.Mk v ↔ p.Mk v ∨ v ∈ S.flatMap bef := hm.Mk v hv
    rw [this, hus]
    constructor
    · rintro (h1 | h1)
      · obtain ⟨q1, q2, _⟩ := h.st v hv
        unfold Pt.Mk at h1
        rw [hz _ q1] at h1
        omega
      · exact h1.2
    · exact fun h1 => .inr ⟨hv, h1⟩
  simp only [e1, e2] at hc
  have hle := hc.le; have hwl := hc.wlen; have hwk := hc.work; have hnm := hc.num
  simp only [e1, e2] at hle hwl hwk hnm
  refine ⟨hc.wf, hc.zero, hle, hwl, hwk, hnm, fun u v hu hv => ?_⟩
  have := hc.eq u v hu hv
  simp only [e1] at this
  rw [this]
  constructor
  · rintro ⟨q1, q2⟩
    refine ⟨q1, ?_⟩
    by_cases hu' : gt p.set u ∈ T
    · rw [← hM u hu, ← hM v hv]; exact q2 hu'
    · have hno : ∀ x, x < n → gt p.set x = gt p.set u → ¬ nx x ∈ S := fun x hx e hxS => by
        obtain ⟨r1, r2, r3⟩ := hm.wf.st x hx
        simp only [e1, e] at r1 r2 r3
        have h0 : ¬ 0 < gt p1.mr (gt p.set u) := fun h => hu' ((t2 _ r1).2 h)
        have hmx := (hM x hx).2 hxS
        unfold Pt.Mk at hmx
        rw [e1, e] at hmx
        omega
      exact ⟨fun h => absurd h (hno u hu rfl), fun h => absurd h (hno v hv q1.symm)⟩
  · rintro ⟨q1, q2⟩
    exact ⟨q1, fun _ => by rw [hM u hu, hM v hv]; exact q2⟩

/-- all symbols from x on -/
def popP (bef : Nat → Nat → List Nat) (S : List Nat) : Nat → Nat → Pt → List Nat → Pt × List Nat
  | 0, _, p, w => (p, w)
  | r + 1, x, p, w => popP bef S r (x + 1) (symP (bef x) S p w).1 (symP (bef x) S p w).2
theorem pop_spec {n : Nat} {nx : Nat → Nat → Nat} {bef : Nat → Nat → List Nat} {S : List Nat} (hS : ∀ c ∈ S, c < n) : ∀ (r x : Nat) {p : Pt} (w : List Nat), p.Wf n → p.Zero → (∀ y, x ≤ y → y < x + r → ∀ c, c < n → ∀ u, u ∈ bef y c ↔ u < n ∧ nx u y = c) →
    Cuts n p w (fun u v => ∀ y, x ≤ y → y < x + r → (nx u y ∈ S ↔ nx v y ∈ S)) (popP bef S r x p w)
  | 0, x, p, w, h, hz, _ => ⟨h, hz, Nat.le_refl _, rfl, fun k => by simp only [popP]; constructor; exact .inl; rintro (h | h); exact h; omega, fun v _ => .inl rfl, fun u v _ _ => ⟨fun e => ⟨e, fun y h1 h2 => by omega⟩, fun e => e.1⟩⟩
  | r + 1, x, p, w, h, hz, hb => by
    have h1 := sym_spec h hz w (nx := fun u => nx u x) hS (hb x (Nat.le_refl _) (by omega))
    rw [popP]
    generalize symP (bef x) S p w = q at *
    obtain ⟨p1, w1⟩ := q
    simp only at h1 ⊢
    have ih := pop_spec (p := p1) hS r (x + 1) w1 h1.wf h1.zero fun y hy1 hy2 => hb y (by omega) (by omega)
    have a1 := h1.le; have a2 := ih.le; have a3 := h1.wlen; have a4 := ih.wlen
    simp only at a1 a2 a3 a4
    refine ⟨ih.wf, ih.zero, by omega, by omega, fun k => ?_, fun v hv => ?_, fun u v hu hv => ?_⟩
    · rw [ih.work k]
      have := h1.work k
      simp only at this
      rw [this]
      constructor
      · rintro ((h | h) | h)
        · exact .inl h
        · exact .inr (by omega)
        · exact .inr (by omega)
      · rintro (h | h)
        · exact .inl (.inl h)
        · by_cases e : k < p1.bg.length
          · exact .inl (.inr ⟨h.1, e⟩)
          · exact .inr ⟨by omega, h.2⟩
    · have b1 := h1.num v hv
      have b2 := ih.num v hv
      simp only at b1 b2
      rcases b2 with b2 | b2
      · rcases b1 with b1 | b1
        · exact .inl (b2.trans b1)
        · exact .inr (by omega)
      · exact .inr (by omega)
    · rw [ih.eq u v hu hv]
      have := h1.eq u v hu hv
      simp only at this
      rw [this]
      constructor
      · rintro ⟨⟨e1, e2⟩, e3⟩
        refine ⟨e1, fun y hy1 hy2 => ?_⟩
        by_cases e : y = x
        · subst e; exact e2
        · exact e3 y (by omega) (by omega)
      · rintro ⟨e1, e2⟩
        exact ⟨⟨e1, e2 x (Nat.le_refl _) (by omega)⟩, fun y hy1 hy2 => e2 y (by omega) (by omega)⟩

/-- numbers below n, each once, are at most n -/
theorem pigeon : ∀ (n K : Nat) (f : Nat → Nat), (∀ k, k < K → f k < n) → (∀ i j, i < K → j < K → f i = f j → i = j) → K ≤ n
  | 0, K, f, h1, _ => by
    rcases Nat.eq_zero_or_pos K with h | h
    · omega
    · exact absurd (h1 0 h) (by omega)
  | n + 1, K, f, h1, h2 => by
    by_cases hex : ∃ k, k < K ∧ f k = n
    · obtain ⟨k0, hk0, e0⟩ := hex
      have := pigeon n (K - 1) (fun k => if k = k0 then f (K - 1) else f k) (fun k hk => by
        by_cases e : k = k0
        · rw [if_pos e]
          have := h1 (K - 1) (by omega)
          have : f (K - 1) ≠ n := fun e' => by have := h2 (K - 1) k0 (by omega) hk0 (e'.trans e0.symm); omega
          omega
        · rw [if_neg e]
          have := h1 k (by omega)
          have : f k ≠ n := fun e' => e (h2 k k0 (by omega) hk0 (e'.trans e0.symm))
          omega) (fun i j hi hj e => by
        by_cases e1 : i = k0
        · by_cases e2 : j = k0
          · omega
          · rw [if_pos e1, if_neg e2] at e
            have := h2 _ _ (by omega) (by omega) e; omega
        · by_cases e2 : j = k0
          · rw [if_neg e1, if_pos e2] at e
            have := h2 _ _ (by omega) (by omega) e; omega
          · rw [if_neg e1, if_neg e2] at e
            exact h2 _ _ (by omega) (by omega) e)
      omega
    · have := pigeon n K f (fun k hk => by
        have := h1 k hk
        have : f k ≠ n := fun e => hex ⟨k, hk, e⟩
        omega) h2
      omega
theorem Pt.Wf.few {n : Nat} {p : Pt} (h : p.Wf n) : p.bg.length ≤ n := by
  refine pigeon n _ (fun k => gt p.bg k) (fun k hk => by have := h.sp k hk; omega) fun i j hi hj e => ?_
  obtain ⟨a1, a2, a3⟩ := h.sp i hi
  obtain ⟨b1, b2, b3⟩ := h.sp j hj
  have e : gt p.bg i = gt p.bg j := e
  have := a3 _ (Nat.le_refl _) a1
  have := b3 _ (Nat.le_refl _) b1
  rw [e] at *
  omega

def hopP (bef : Nat → Nat → List Nat) (m : Nat) : Nat → Pt → List Nat → Pt
  | 0, p, _ => p
  | f + 1, p, w => match w.getLast? with
    | none => p
    | some s => hopP bef m f (popP bef (piece p.list (gt p.bg s) (gt p.en s)) m 0 p w.dropLast).1 (popP bef (piece p.list (gt p.bg s) (gt p.en s)) m 0 p w.dropLast).2
structure Hop (A : Fa) (p : Pt) (w : List Nat) : Prop where
  wf : p.Wf A.n
  zero : p.Zero
  work : ∀ k ∈ w, k < p.bg.length
  fr : ∀ u v, u < A.n → v < A.n → gt p.set u = gt p.set v → ∀ x, x < A.m → A.fr u x = A.fr v x
  bis : ∀ B, Bis A B → ∀ u v, B u v → gt p.set u = gt p.set v
  part : ∃ xc : Nat → Nat, (∀ u v, u < A.n → v < A.n → gt p.set u = gt p.set v → xc u = xc v) ∧ (∀ u v, u < A.n → v < A.n → gt p.set u = gt p.set v → ∀ x, x < A.m → xc (A.nx u x) = xc (A.nx v x)) ∧
    ∀ u v, u < A.n → v < A.n → xc u = xc v → gt p.set u ∈ w ∨ gt p.set v ∈ w ∨ gt p.set u = gt p.set v
theorem hop_step {A : Fa} (hA : A.ok) {bef : Nat → Nat → List Nat} (hb : ∀ y, y < A.m → ∀ c, c < A.n → ∀ u, u ∈ bef y c ↔ u < A.n ∧ A.nx u y = c) {p : Pt} {w : List Nat} (h : Hop A p w) {s : Nat} (hs : w.getLast? = some s) :
    Hop A (popP bef (piece p.list (gt p.bg s) (gt p.en s)) A.m 0 p w.dropLast).1 (popP bef (piece p.list (gt p.bg s) (gt p.en s)) A.m 0 p w.dropLast).2 ∧
    2 * (A.n - (popP bef (piece p.list (gt p.bg s) (gt p.en s)) A.m 0 p w.dropLast).1.bg.length) + (popP bef (piece p.list (gt p.bg s) (gt p.en s)) A.m 0 p w.dropLast).2.length < 2 * (A.n - p.bg.length) + w.length := by
  have hw : w = w.dropLast ++ [s] := by
    have hne : w ≠ [] := fun e => by rw [e] at hs; cases hs
    rw [List.getLast?_eq_some_getLast hne] at hs
    have := List.dropLast_concat_getLast hne
    rw [Option.some.inj hs] at this
    exact this.symm
  have hsK : s < p.bg.length := h.work s (by rw [hw]; simp)
  obtain ⟨k1, k2, k3⟩ := h.wf.sp s hsK
  have hS : ∀ c, c < A.n → (c ∈ piece p.list (gt p.bg s) (gt p.en s) ↔ gt p.set c = s) := fun c hc => by
    rw [piece_mem (by rw [h.wf.ll]; exact k2)]
    constructor
    · rintro ⟨i, h1, h2, rfl⟩; exact k3 i h1 h2
    · intro e
      obtain ⟨_, r2, r3⟩ := h.wf.st c hc
      rw [e] at r2 r3
      exact ⟨_, r2, r3, (h.wf.pl c hc).2⟩
  have hSn : ∀ c ∈ piece p.list (gt p.bg s) (gt p.en s), c < A.n := fun c hc => by
    rw [piece_mem (by rw [h.wf.ll]; exact k2)] at hc
    obtain ⟨i, h1, h2, rfl⟩ := hc
    exact (h.wf.li i (by omega)).1
  have hp := pop_spec (nx := A.nx) hSn A.m 0 w.dropLast h.wf h.zero fun y _ hy => hb y (by omega)
  generalize piece p.list (gt p.bg s) (gt p.en s) = S at *
  generalize popP bef S A.m 0 p w.dropLast = q at *
  obtain ⟨p1, w1⟩ := q
  have hpw : p1.Wf A.n := hp.wf
  have hfew := hpw.few
  have hle : p.bg.length ≤ p1.bg.length := hp.le
  have hwl : w1.length + p.bg.length = w.dropLast.length + p1.bg.length := hp.wlen
  have hwk : ∀ k, k ∈ w1 ↔ k ∈ w.dropLast ∨ (p.bg.length ≤ k ∧ k < p1.bg.length) := hp.work
  have hnum : ∀ v, v < A.n → gt p1.set v = gt p.set v ∨ p.bg.length ≤ gt p1.set v := hp.num
  have heq : ∀ u v, u < A.n → v < A.n → (gt p1.set u = gt p1.set v ↔ gt p.set u = gt p.set v ∧ ∀ y, 0 ≤ y → y < 0 + A.m → (A.nx u y ∈ S ↔ A.nx v y ∈ S)) := hp.eq
  have hwlen : w.length = w.dropLast.length + 1 := by conv => lhs; rw [hw]
                                                      simp
  refine ⟨⟨hpw, hp.zero, fun k hk => ?_, fun u v hu hv e => h.fr u v hu hv ((heq u v hu hv).1 e).1, fun B hB u v huv => ?_, ?_⟩, by show 2 * (A.n - p1.bg.length) + w1.length < _; omega⟩
  · rcases (hwk k).1 hk with h1 | h1
    · have := h.work k (by rw [hw]; exact List.mem_append_left _ h1)
      show k < p1.bg.length
      omega
    · exact h1.2
  · obtain ⟨hu, hv⟩ := hB.lt u v huv
    refine (heq u v hu hv).2 ⟨h.bis B hB u v huv, fun y _ hy => ?_⟩
    have hn := hB.nx u v huv y (by omega)
    obtain ⟨n1, n2⟩ := hB.lt _ _ hn
    rw [hS _ n1, hS _ n2, h.bis B hB _ _ hn]
  · obtain ⟨xc, x1, x2, x3⟩ := h.part
    refine ⟨fun u => 2 * xc u + if gt p.set u = s then 1 else 0, fun u v hu hv e => ?_, fun u v hu hv e x hx => ?_, fun u v hu hv e => ?_⟩
    · have e := ((heq u v hu hv).1 e).1
      simp only [x1 u v hu hv e, e]
    · obtain ⟨e, e'⟩ := (heq u v hu hv).1 e
      have n1 := hA.lt u x hu hx
      have n2 := hA.lt v x hv hx
      have hm := e' x (Nat.zero_le _) (by omega)
      rw [hS _ n1, hS _ n2] at hm
      simp only [x2 u v hu hv e x hx]
      by_cases c : gt p.set (A.nx u x) = s
      · rw [if_pos c, if_pos (hm.1 c)]
      · rw [if_neg c, if_neg fun c' => c (hm.2 c')]
    · have ex : xc u = xc v ∧ (gt p.set u = s ↔ gt p.set v = s) := by
        simp only at e
        by_cases c : gt p.set u = s
        · by_cases c' : gt p.set v = s
          · rw [if_pos c, if_pos c'] at e; exact ⟨by omega, by simp [c, c']⟩
          · rw [if_pos c, if_neg c'] at e; omega
        · by_cases c' : gt p.set v = s
          · rw [if_neg c, if_pos c'] at e; omega
          · rw [if_neg c, if_neg c'] at e; exact ⟨by omega, by simp [c, c']⟩
      show gt p1.set u ∈ w1 ∨ gt p1.set v ∈ w1 ∨ gt p1.set u = gt p1.set v
      by_cases cu : gt p1.set u ∈ w1
      · exact .inl cu
      by_cases cv : gt p1.set v ∈ w1
      · exact .inr (.inl cv)
      refine .inr (.inr ?_)
      have old : ∀ v, v < A.n → ¬ gt p1.set v ∈ w1 → gt p1.set v = gt p.set v ∧ ¬ gt p.set v ∈ w.dropLast := fun v hv c => by
        have hlt := (hpw.st v hv).1
        rcases hnum v hv with h1 | h1
        · refine ⟨h1, fun hm => c ((hwk _).2 (.inl ?_))⟩
          rw [h1]; exact hm
        · exact absurd ((hwk _).2 (.inr ⟨h1, hlt⟩)) c
      obtain ⟨u1, u2⟩ := old u hu cu
      obtain ⟨v1, v2⟩ := old v hv cv
      rw [u1, v1]
      by_cases c : gt p.set u = s
      · rw [c, ex.2.1 c]
      · have c' : gt p.set v ≠ s := fun h => c (ex.2.2 h)
        rcases x3 u v hu hv ex.1 with h1 | h1 | h1
        · rw [hw, List.mem_append, List.mem_singleton] at h1
          rcases h1 with h1 | h1
          · exact absurd h1 u2
          · exact absurd h1 c
        · rw [hw, List.mem_append, List.mem_singleton] at h1
          rcases h1 with h1 | h1
          · exact absurd h1 v2
          · exact absurd h1 c'
        · exact h1
theorem hop_end {A : Fa} (hA : A.ok) {bef : Nat → Nat → List Nat} (hb : ∀ y, y < A.m → ∀ c, c < A.n → ∀ u, u ∈ bef y c ↔ u < A.n ∧ A.nx u y = c) : ∀ (f : Nat) {p : Pt} {w : List Nat}, Hop A p w → 2 * (A.n - p.bg.length) + w.length ≤ f → Hop A (hopP bef A.m f p w) []
  | 0, p, w, h, hf => by
    have : w = [] := List.length_eq_zero_iff.1 (by omega)
    subst this; exact h
  | f + 1, p, w, h, hf => by
    rw [hopP]
    cases hs : w.getLast? with
    | none =>
      have : w = [] := by simpa using hs
      subst this; exact h
    | some s =>
      obtain ⟨h1, h2⟩ := hop_step hA hb h hs
      exact hop_end hA hb f h1 (by omega)
/-- both part the states alike -/
theorem hop_cls {A : Fa} (hA : A.ok) {p : Pt} (h : Hop A p []) {u v : Nat} (hu : u < A.n) (hv : v < A.n) : gt p.set u = gt p.set v ↔ clsR A u = clsR A v := by
  constructor
  · intro e
    obtain ⟨xc, x1, x2, x3⟩ := h.part
    refine clsR_bis (B := fun u v => u < A.n ∧ v < A.n ∧ gt p.set u = gt p.set v) ⟨fun u v k => ⟨k.1, k.2.1⟩, fun u v k => h.fr u v k.1 k.2.1 k.2.2, fun u v k x hx => ⟨hA.lt u x k.1 hx, hA.lt v x k.2.1 hx, ?_⟩⟩ u v ⟨hu, hv, e⟩
    rcases x3 _ _ (hA.lt u x k.1 hx) (hA.lt v x k.2.1 hx) (x2 u v k.1 k.2.1 k.2.2 x hx) with h1 | h1 | h1
    · simp at h1
    · simp at h1
    · exact h1
  · intro e
    exact h.bis _ (clsR_isBis hA) u v ⟨hu, hv, e⟩
end Go.Am

set_option linter.all false
namespace Go.Am
open Go

/-! # The numbers of the states of a minimal automaton (plain) -/

def idxN : List Nat → Nat → Nat
  | [], _ => 0
  | x :: l, c => bif x == c then 0 else idxN l c + 1
theorem idxN_lt : ∀ (l : List Nat) (c : Nat), idxN l c < l.length ↔ c ∈ l
  | [], c => by simp [idxN]
  | x :: l, c => by
    have := idxN_lt l c
    rw [idxN, List.length_cons, List.mem_cons]
    cases h : x == c with
    | true =>
      have : x = c := by simpa using h
      simp [this]
    | false =>
      have hne : ¬ x = c := by simpa using h
      simp only [cond_false]
      constructor
      · intro h; exact .inr (this.1 (by omega))
      · rintro (h | h)
        · exact absurd h.symm hne
        · have := this.2 h; omega
theorem idxN_map (f g : Nat → Nat) (n : Nat) : ∀ (l : List Nat), (∀ a ∈ l, f a = f n ↔ g a = g n) → idxN (l.map f) (f n) = idxN (l.map g) (g n)
  | [], _ => rfl
  | x :: l, h => by
    have h0 := h x (List.mem_cons_self ..)
    have he : (f x == f n) = (g x == g n) := by rw [Bool.eq_iff_iff, beq_iff_eq, beq_iff_eq]; exact h0
    rw [List.map_cons, List.map_cons, idxN, idxN, he, idxN_map f g n l fun a ha => h a (List.mem_cons_of_mem _ ha)]

/-- the numbers of the states of a row; new ones are put behind -/
def numRow (κ : Nat → Nat) : List Nat → List Nat → List Nat × List Nat
  | [], st => (st, [])
  | c :: cs, st => bif decide (idxN (st.map κ) (κ c) < st.length) then ((numRow κ cs st).1, idxN (st.map κ) (κ c) :: (numRow κ cs st).2) else ((numRow κ cs (st ++ [c])).1, st.length :: (numRow κ cs (st ++ [c])).2)
theorem numRow_rel {κ ρ : Nat → Nat} {Q : Nat → Prop} (hk : ∀ a b, Q a → Q b → (κ a = κ b ↔ ρ a = ρ b)) : ∀ (cs st : List Nat), (∀ a ∈ cs, Q a) → (∀ a ∈ st, Q a) → numRow id (cs.map ρ) (st.map ρ) = ((numRow κ cs st).1.map ρ, (numRow κ cs st).2) ∧ ∀ a ∈ (numRow κ cs st).1, Q a
  | [], st, _, h => ⟨rfl, h⟩
  | c :: cs, st, h1, h2 => by
    have hc := h1 c (List.mem_cons_self ..)
    have hcs := fun a ha => h1 a (List.mem_cons_of_mem _ ha)
    have he : idxN ((st.map ρ).map id) (id (ρ c)) = idxN (st.map κ) (κ c) := by
      rw [List.map_id]
      exact (idxN_map κ ρ c st fun a ha => hk a c (h2 a ha) hc).symm
    rw [List.map_cons, numRow, numRow, he, List.length_map]
    cases decide (idxN (st.map κ) (κ c) < st.length) with
    | true =>
      obtain ⟨e1, e2⟩ := numRow_rel hk cs st hcs h2
      simp only [cond_true, e1]
      exact ⟨by first | rfl | trivial, e2⟩
    | false =>
      obtain ⟨e1, e2⟩ := numRow_rel hk cs (st ++ [c]) hcs fun a ha => by
        rcases List.mem_append.1 ha with h | h
        · exact h2 a h
        · rw [List.mem_singleton.1 h]; exact hc
      have e3 : st.map ρ ++ [ρ c] = (st ++ [c]).map ρ := by simp
      simp only [cond_false, e3, e1]
      exact ⟨by first | rfl | trivial, e2⟩
def bfsN (κ : Nat → Nat) (row : Nat → List Nat) : Nat → Nat → List Nat → List (Nat × List Nat)
  | 0, _, _ => []
  | f + 1, i, st => match st[i]? with
    | none => []
    | some s => (s, (numRow κ (row s) st).2) :: bfsN κ row f (i + 1) (numRow κ (row s) st).1
theorem bfsN_rel {κ ρ : Nat → Nat} {Q : Nat → Prop} (hk : ∀ a b, Q a → Q b → (κ a = κ b ↔ ρ a = ρ b)) {row row' : Nat → List Nat} (hr : ∀ s, Q s → row' (ρ s) = (row s).map ρ ∧ ∀ a ∈ row s, Q a) : ∀ (f i : Nat) (st : List Nat), (∀ a ∈ st, Q a) →
    bfsN id row' f i (st.map ρ) = (bfsN κ row f i st).map (fun x => (ρ x.1, x.2)) ∧ ∀ x ∈ bfsN κ row f i st, Q x.1
  | 0, i, st, h => ⟨rfl, fun x hx => by simp [bfsN] at hx⟩
  | f + 1, i, st, h => by
    rw [bfsN, bfsN, List.getElem?_map]
    cases hs : st[i]? with
    | none => exact ⟨rfl, fun x hx => by simp at hx⟩
    | some s =>
      have hq := h s (List.mem_of_getElem? hs)
      obtain ⟨r1, r2⟩ := hr s hq
      obtain ⟨e1, e2⟩ := numRow_rel hk (row s) st r2 h
      obtain ⟨i1, i2⟩ := bfsN_rel hk hr f (i + 1) _ e2
      simp only [Option.map_some, r1, e1, i1, List.map_cons]
      refine ⟨by first | rfl | trivial, fun x hx => ?_⟩
      rcases List.mem_cons.1 hx with rfl | hx
      · exact hq
      · exact i2 x hx
/-- the states that are numbered have each their own class -/
theorem numRow_nd {κ : Nat → Nat} : ∀ (cs st : List Nat), (st.map κ).Nodup → ((numRow κ cs st).1.map κ).Nodup ∧ st.length ≤ (numRow κ cs st).1.length ∧ (∀ i, i < st.length → (numRow κ cs st).1[i]? = st[i]?) ∧ (numRow κ cs st).2.length = cs.length ∧ ∀ k ∈ (numRow κ cs st).2, k < (numRow κ cs st).1.length
  | [], st, h => ⟨h, Nat.le_refl _, fun _ _ => rfl, rfl, fun k hk => by simp [numRow] at hk⟩
  | c :: cs, st, h => by
    rw [numRow]
    cases hd : decide (idxN (st.map κ) (κ c) < st.length) with
    | true =>
      obtain ⟨h1, h2, h3, h4, h5⟩ := numRow_nd cs st h
      have hd : idxN (st.map κ) (κ c) < st.length := by simpa using hd
      simp only [cond_true, List.length_cons, h4]
      refine ⟨h1, h2, h3, by first | rfl | trivial, fun k hk => ?_⟩
      rcases List.mem_cons.1 hk with rfl | hk
      · omega
      · exact h5 k hk
    | false =>
      have hd : ¬ idxN (st.map κ) (κ c) < (st.map κ).length := by rw [List.length_map]; simpa using hd
      rw [idxN_lt] at hd
      obtain ⟨h1, h2, h3, h4, h5⟩ := numRow_nd cs (st ++ [c]) (by
        rw [List.map_append, List.nodup_append]
        refine ⟨h, by simp, fun a ha b hb => ?_⟩
        rw [List.map_cons, List.map_nil, List.mem_singleton] at hb
        rintro rfl
        rw [hb] at ha
        exact hd ha)
      rw [List.length_append, List.length_singleton] at h2
      simp only [cond_false, List.length_cons, h4]
      refine ⟨h1, by omega, fun i hi => ?_, by first | rfl | trivial, fun k hk => ?_⟩
      · rw [h3 i (by rw [List.length_append]; omega), List.getElem?_append_left hi]
      · rcases List.mem_cons.1 hk with rfl | hk
        · omega
        · exact h5 k hk
theorem nodup_few {κ : Nat → Nat} {n : Nat} {st : List Nat} (h : (st.map κ).Nodup) (hn : ∀ a ∈ st, a < n) : st.length ≤ n := by
  have hnd : st.Nodup := by
    rw [List.Nodup, List.pairwise_map] at h
    exact h.imp fun hne e => hne (by rw [e])
  refine pigeon n st.length (fun i => gt st i) (fun i hi => ?_) fun i j hi hj e => ?_
  · have : gt st i = st[i] := by unfold gt; rw [List.getD_eq_getElem?_getD, List.getElem?_eq_getElem hi]; rfl
    simp only [this]
    exact hn _ (List.getElem_mem hi)
  · have e1 : gt st i = st[i] := by unfold gt; rw [List.getD_eq_getElem?_getD, List.getElem?_eq_getElem hi]; rfl
    have e2 : gt st j = st[j] := by unfold gt; rw [List.getD_eq_getElem?_getD, List.getElem?_eq_getElem hj]; rfl
    simp only [e1, e2] at e
    exact (List.getElem_inj hnd).1 e

def rowF (A : Fa) (s : Nat) : List Nat := (List.range A.m).map (A.nx s)
/-- the program's minimal automaton: each new state with the row of its numbers -/
def minP (A : Fa) (cl : Nat → Nat) : List (Nat × List Nat) := bfsN cl (rowF A) (A.n + 1) 0 [0]
def minR (A : Fa) : List (Nat × List Nat) := bfsN id (fun c => (rowF A c).map (clsR A)) (A.n + 1) 0 [clsR A 0]
theorem min_eq {A : Fa} (hA : A.ok) {cl : Nat → Nat} (hc : ∀ u v, u < A.n → v < A.n → (cl u = cl v ↔ clsR A u = clsR A v)) :
    minR A = (minP A cl).map (fun x => (clsR A x.1, x.2)) ∧ ∀ x ∈ minP A cl, x.1 < A.n := by
  have hr : ∀ s, s < A.n → (fun c => (rowF A c).map (clsR A)) (clsR A s) = (rowF A s).map (clsR A) ∧ ∀ a ∈ rowF A s, a < A.n := fun s hs => by
    refine ⟨?_, fun a ha => ?_⟩
    · have hlt : clsR A s < A.n := Nat.lt_of_le_of_lt ((clsR_can A).le s) hs
      have he := (clsR_iff hA hlt hs).1 ((clsR_can A).fix s)
      simp only [rowF, List.map_map]
      refine List.map_congr_left fun x hx => ?_
      exact (he x (List.mem_range.1 hx)).2
    · obtain ⟨x, hx, rfl⟩ := List.mem_map.1 ha
      exact hA.lt s x hs (List.mem_range.1 hx)
  have := bfsN_rel (κ := cl) (ρ := clsR A) (Q := fun a => a < A.n) hc (row := rowF A) (row' := fun c => (rowF A c).map (clsR A)) hr (A.n + 1) 0 [0] fun a ha => by rw [List.mem_singleton.1 ha]; exact hA.pos
  exact this
theorem min_fr {A : Fa} (hA : A.ok) {s : Nat} (hs : s < A.n) {x : Nat} (hx : x < A.m) : A.fr (clsR A s) x = A.fr s x :=
  (((clsR_iff hA (Nat.lt_of_le_of_lt ((clsR_can A).le s) hs) hs).1 ((clsR_can A).fix s)) x hx).1
end Go.Am

set_option linter.all false
namespace Go.Am
open Go

/-! # The first partition: by what the states trigger on (plain) -/
section
variable {α : Type} [DecidableEq α]

/-- the keys of the first states, each once, in order -/
def ordK (κ : Nat → α) : Nat → List α
  | 0 => []
  | i + 1 => if κ i ∈ ordK κ i then ordK κ i else ordK κ i ++ [κ i]
theorem ordK_mem (κ : Nat → α) (k : α) : ∀ n, k ∈ ordK κ n ↔ ∃ i, i < n ∧ κ i = k
  | 0 => by simp [ordK]
  | n + 1 => by
    have ih := ordK_mem κ k n
    have ihn := ordK_mem κ (κ n) n
    rw [ordK]
    constructor
    · intro h
      by_cases e : κ n ∈ ordK κ n
      · rw [if_pos e] at h
        obtain ⟨i, h1, h2⟩ := ih.1 h
        exact ⟨i, by omega, h2⟩
      · rw [if_neg e, List.mem_append, List.mem_singleton] at h
        rcases h with h | h
        · obtain ⟨i, h1, h2⟩ := ih.1 h
          exact ⟨i, by omega, h2⟩
        · exact ⟨n, by omega, h.symm⟩
    · rintro ⟨i, h1, h2⟩
      by_cases hi : i = n
      · subst hi
        by_cases e : κ i ∈ ordK κ i
        · rw [if_pos e, ← h2]; exact e
        · rw [if_neg e, h2]; simp
      · have := ih.2 ⟨i, by omega, h2⟩
        by_cases e : κ n ∈ ordK κ n
        · rw [if_pos e]; exact this
        · rw [if_neg e]; exact List.mem_append_left _ this
theorem ordK_nd (κ : Nat → α) : ∀ n, (ordK κ n).Nodup
  | 0 => by simp [ordK]
  | n + 1 => by
    have ih := ordK_nd κ n
    rw [ordK]
    by_cases e : κ n ∈ ordK κ n
    · rw [if_pos e]; exact ih
    · rw [if_neg e, List.nodup_append]
      refine ⟨ih, by simp, fun a ha b hb => ?_⟩
      rw [List.mem_singleton.1 hb]
      rintro rfl
      exact e ha
theorem ordK_len (κ : Nat → α) : ∀ n, (ordK κ n).length ≤ n
  | 0 => Nat.le_refl _
  | n + 1 => by
    have := ordK_len κ n
    rw [ordK]
    split
    · omega
    · simp; omega
/-- the states with a key -/
def grp (κ : Nat → α) (k : α) (n : Nat) : List Nat := (List.range n).filter fun i => decide (κ i = k)
theorem grp_mem (κ : Nat → α) (k : α) (n u : Nat) : u ∈ grp κ k n ↔ u < n ∧ κ u = k := by simp [grp]
theorem grp_nd (κ : Nat → α) (k : α) (n : Nat) : (grp κ k n).Nodup := List.Pairwise.filter _ List.nodup_range
theorem grp_succ (κ : Nat → α) (k : α) (n : Nat) : grp κ k (n + 1) = if κ n = k then grp κ k n ++ [n] else grp κ k n := by
  unfold grp
  rw [List.range_succ, List.filter_append]
  by_cases e : κ n = k <;> simp [e]

def addSt (c : Nat) : List Nat → Pt → Pt
  | [], p => p
  | u :: l, p => addSt c l { p with place := p.place.set u p.list.length, set := p.set.set u c, list := p.list ++ [u] }
structure AddSt (n c : Nat) (l : List Nat) (p q : Pt) : Prop where
  list : q.list = p.list ++ l
  bg : q.bg = p.bg
  en : q.en = p.en
  mr : q.mr = p.mr
  lp : q.place.length = n
  ls : q.set.length = n
  out : ∀ v, v ∉ l → gt q.place v = gt p.place v ∧ gt q.set v = gt p.set v
  inn : ∀ j (h : j < l.length), gt q.place l[j] = p.list.length + j ∧ gt q.set l[j] = c
theorem addSt_spec (n c : Nat) : ∀ (l : List Nat) (p : Pt), l.Nodup → (∀ u ∈ l, u < n) → p.place.length = n → p.set.length = n → AddSt n c l p (addSt c l p)
  | [], p, _, _, h1, h2 => ⟨by simp [addSt], rfl, rfl, rfl, h1, h2, fun _ _ => ⟨rfl, rfl⟩, fun j h => by simp at h⟩
  | u :: l, p, hn, hu, h1, h2 => by
    rw [List.nodup_cons] at hn
    have hun := hu u (List.mem_cons_self ..)
    have ih := addSt_spec n c l { p with place := p.place.set u p.list.length, set := p.set.set u c, list := p.list ++ [u] } hn.2 (fun x hx => hu x (List.mem_cons_of_mem _ hx)) (by simp [h1]) (by simp [h2])
    rw [addSt]
    generalize addSt c l { p with place := p.place.set u p.list.length, set := p.set.set u c, list := p.list ++ [u] } = q at *
    refine ⟨by rw [ih.list]; simp, ih.bg, ih.en, ih.mr, ih.lp, ih.ls, fun v hv => ?_, fun j hj => ?_⟩
    · rw [List.mem_cons, not_or] at hv
      obtain ⟨a, b⟩ := ih.out v hv.2
      rw [a, b]
      simp only [gt_set]
      rw [if_neg (by omega), if_neg (by omega)]
      exact ⟨rfl, rfl⟩
    · cases j with
      | zero =>
        obtain ⟨a, b⟩ := ih.out u hn.1
        rw [List.getElem_cons_zero, a, b]
        rw [gt_set, gt_set, if_pos ⟨rfl, by omega⟩, if_pos ⟨rfl, by omega⟩]
        exact ⟨rfl, rfl⟩
      | succ j =>
        obtain ⟨a, b⟩ := ih.inn j (by simpa using hj)
        rw [List.getElem_cons_succ, a, b]
        refine ⟨?_, rfl⟩
        simp only [List.length_append, List.length_singleton]
        omega
def fillP (κ : Nat → α) (n : Nat) : List α → Pt → Pt
  | [], p => p
  | k :: ks, p => fillP κ n ks { addSt p.bg.length (grp κ k n) p with bg := p.bg ++ [p.list.length], mr := p.mr ++ [0], en := p.en ++ [(addSt p.bg.length (grp κ k n) p).list.length] }
def rowsP (κ : Nat → α) (n : Nat) : Pt := fillP κ n (ordK κ n) ⟨[], List.replicate n 0, List.replicate n 0, [], [], []⟩

/-- so much is filled -/
structure Fil (κ : Nat → α) (n : Nat) (done : List α) (p : Pt) : Prop where
  lp : p.place.length = n
  ls : p.set.length = n
  lb : p.bg.length = done.length
  le : p.en.length = done.length
  lm : p.mr.length = done.length
  li : ∀ i, i < p.list.length → gt p.list i < n ∧ gt p.place (gt p.list i) = i ∧ κ (gt p.list i) ∈ done
  st : ∀ u, u < n → κ u ∈ done → gt p.place u < p.list.length ∧ gt p.list (gt p.place u) = u ∧ gt p.set u < done.length ∧ gt p.bg (gt p.set u) ≤ gt p.place u ∧ gt p.place u < gt p.en (gt p.set u) ∧ done[gt p.set u]? = some (κ u)
  sp : ∀ k, k < done.length → gt p.bg k < gt p.en k ∧ gt p.en k ≤ p.list.length ∧ ∀ i, gt p.bg k ≤ i → i < gt p.en k → gt p.set (gt p.list i) = k
  mr : ∀ k, k < done.length → gt p.mr k = 0
theorem gt_left {a b : List Nat} {i : Nat} (h : i < a.length) : gt (a ++ b) i = gt a i := by
  unfold gt; rw [List.getD_eq_getElem?_getD, List.getD_eq_getElem?_getD, List.getElem?_append_left h]
theorem gt_right {a b : List Nat} {i : Nat} (h : a.length ≤ i) : gt (a ++ b) i = gt b (i - a.length) := by
  unfold gt; rw [List.getD_eq_getElem?_getD, List.getD_eq_getElem?_getD, List.getElem?_append_right h]
theorem gt_get {l : List Nat} {i : Nat} (h : i < l.length) : gt l i = l[i] := by
  unfold gt; rw [List.getD_eq_getElem?_getD, List.getElem?_eq_getElem h]; rfl
theorem fil_step {κ : Nat → α} {n : Nat} {done : List α} {p : Pt} (h : Fil κ n done p) {k : α} (hk : k ∉ done) (hex : ∃ i, i < n ∧ κ i = k) :
    Fil κ n (done ++ [k]) { addSt p.bg.length (grp κ k n) p with bg := p.bg ++ [p.list.length], mr := p.mr ++ [0], en := p.en ++ [(addSt p.bg.length (grp κ k n) p).list.length] } := by
  have ha := addSt_spec n p.bg.length (grp κ k n) p (grp_nd κ k n) (fun u hu => ((grp_mem κ k n u).1 hu).1) h.lp h.ls
  generalize addSt p.bg.length (grp κ k n) p = q at *
  have hne : 0 < (grp κ k n).length := by
    obtain ⟨i, h1, h2⟩ := hex
    exact List.length_pos_of_mem ((grp_mem κ k n i).2 ⟨h1, h2⟩)
  have hgm := grp_mem κ k n
  have hgd := grp_nd κ k n
  generalize grp κ k n = G at *
  have hql : q.list.length = p.list.length + G.length := by rw [ha.list]; simp
  have hdl : (done ++ [k]).length = done.length + 1 := by simp
  have hB : ∀ i, gt (p.bg ++ [p.list.length]) i = if i = done.length then p.list.length else gt p.bg i := fun i => by rw [gt_app, h.lb]
  have hE : ∀ i, gt (p.en ++ [q.list.length]) i = if i = done.length then q.list.length else gt p.en i := fun i => by rw [gt_app, h.le]
  have hM : ∀ i, gt (p.mr ++ [0]) i = if i = done.length then 0 else gt p.mr i := fun i => by rw [gt_app, h.lm]
  have hold : ∀ i, i < p.list.length → gt q.list i = gt p.list i := fun i hi => by rw [ha.list, gt_left hi]
  have hnew : ∀ j (hj : j < G.length), gt q.list (p.list.length + j) = G[j] := fun j hj => by rw [ha.list, gt_right (by omega), Nat.add_sub_cancel_left, gt_get hj]
  have hout : ∀ i, i < p.list.length → gt p.list i ∉ G := fun i hi hm => by
    have := (h.li i hi).2.2
    rw [((hgm _).1 hm).2] at this
    exact hk this
  refine ⟨ha.lp, ha.ls, by simp [h.lb], by simp [h.le], by simp [h.lm], fun i hi => ?_, fun u hu hd => ?_, fun j hj => ?_, fun j hj => ?_⟩
  · have hi : i < q.list.length := hi
    by_cases hlt : i < p.list.length
    · obtain ⟨a, b, c⟩ := h.li i hlt
      obtain ⟨o1, _⟩ := ha.out _ (hout i hlt)
      simp only [hold i hlt]
      exact ⟨a, o1.trans b, List.mem_append_left _ c⟩
    · obtain ⟨j, rfl⟩ : ∃ j, i = p.list.length + j := ⟨i - p.list.length, by omega⟩
      have hj : j < G.length := by omega
      simp only [hnew j hj]
      obtain ⟨g1, g2⟩ := (hgm _).1 (List.getElem_mem hj)
      exact ⟨g1, (ha.inn j hj).1, by rw [g2]; simp⟩
  · show gt q.place u < q.list.length ∧ gt q.list (gt q.place u) = u ∧ gt q.set u < (done ++ [k]).length ∧ gt (p.bg ++ [p.list.length]) (gt q.set u) ≤ gt q.place u ∧ gt q.place u < gt (p.en ++ [q.list.length]) (gt q.set u) ∧ (done ++ [k])[gt q.set u]? = some (κ u)
    by_cases hg : u ∈ G
    · obtain ⟨j, hj, rfl⟩ := List.mem_iff_getElem.1 hg
      obtain ⟨i1, i2⟩ := ha.inn j hj
      have hs : gt q.set G[j] = done.length := by rw [i2, h.lb]
      rw [i1, hs, hnew j hj, hB, hE, if_pos rfl, if_pos rfl, hdl, ((hgm _).1 hg).2]
      exact ⟨by omega, rfl, by omega, by omega, by omega, by simp⟩
    · have hd' : κ u ∈ done := by
        rcases List.mem_append.1 hd with h1 | h1
        · exact h1
        · exact absurd ((hgm u).2 ⟨hu, List.mem_singleton.1 h1⟩) hg
      obtain ⟨a, b, c, d, e, f⟩ := h.st u hu hd'
      obtain ⟨o1, o2⟩ := ha.out u hg
      rw [o1, o2, hold _ a, hB, hE, if_neg (by omega), if_neg (by omega), hdl, List.getElem?_append_left c]
      exact ⟨by omega, b, by omega, d, e, f⟩
  · show gt (p.bg ++ [p.list.length]) j < gt (p.en ++ [q.list.length]) j ∧ gt (p.en ++ [q.list.length]) j ≤ q.list.length ∧ ∀ i, gt (p.bg ++ [p.list.length]) j ≤ i → i < gt (p.en ++ [q.list.length]) j → gt q.set (gt q.list i) = j
    rw [hB, hE]
    by_cases e : j = done.length
    · rw [if_pos e, if_pos e]
      refine ⟨by omega, Nat.le_refl _, fun i h1 h2 => ?_⟩
      obtain ⟨r, rfl⟩ : ∃ r, i = p.list.length + r := ⟨i - p.list.length, by omega⟩
      have hr : r < G.length := by omega
      rw [hnew r hr, (ha.inn r hr).2, h.lb, e]
    · have hj' : j < done.length := by have : j < (done ++ [k]).length := hj; omega
      rw [if_neg e, if_neg e]
      obtain ⟨a, b, c⟩ := h.sp j hj'
      refine ⟨a, by omega, fun i h1 h2 => ?_⟩
      rw [hold i (by omega), (ha.out _ (hout i (by omega))).2]
      exact c i h1 h2
  · show gt (p.mr ++ [0]) j = 0
    rw [hM]
    by_cases e : j = done.length
    · rw [if_pos e]
    · rw [if_neg e]
      exact h.mr j (by have : j < (done ++ [k]).length := hj; omega)
theorem fil_all {κ : Nat → α} {n : Nat} : ∀ (ks : List α) {done : List α} {p : Pt}, Fil κ n done p → (done ++ ks).Nodup → (∀ k ∈ ks, ∃ i, i < n ∧ κ i = k) → Fil κ n (done ++ ks) (fillP κ n ks p)
  | [], done, p, h, _, _ => by rw [List.append_nil]; exact h
  | k :: ks, done, p, h, hn, he => by
    have hk : k ∉ done := fun hm => by
      rw [List.nodup_append] at hn
      exact hn.2.2 k hm k (List.mem_cons_self ..) rfl
    have h1 := fil_step h hk (he k (List.mem_cons_self ..))
    have e : done ++ k :: ks = (done ++ [k]) ++ ks := by simp
    rw [e] at hn ⊢
    exact fil_all ks h1 hn fun x hx => he x (List.mem_cons_of_mem _ hx)
theorem rows_fil (κ : Nat → α) (n : Nat) : Fil κ n (ordK κ n) (rowsP κ n) := by
  have h0 : Fil κ n [] ⟨[], List.replicate n 0, List.replicate n 0, [], [], []⟩ := ⟨by simp, by simp, rfl, rfl, rfl, fun i hi => by simp at hi, fun u _ h => by simp at h, fun k hk => by simp at hk, fun k hk => by simp at hk⟩
  have := fil_all (ordK κ n) h0 (by simpa using ordK_nd κ n) fun k hk => (ordK_mem κ k n).1 hk
  rw [List.nil_append] at this
  exact this
theorem rows_hop {A : Fa} {κ : Nat → α} (hk : ∀ u v, u < A.n → v < A.n → (κ u = κ v ↔ ∀ x, x < A.m → A.fr u x = A.fr v x)) : Hop A (rowsP κ A.n) (List.range (rowsP κ A.n).bg.length) := by
  have h := rows_fil κ A.n
  generalize rowsP κ A.n = p at *
  have hd : ∀ u, u < A.n → κ u ∈ ordK κ A.n := fun u hu => (ordK_mem κ _ _).2 ⟨u, hu, rfl⟩
  have hll : p.list.length = A.n := by
    refine Nat.le_antisymm (pigeon A.n p.list.length (gt p.list) (fun i hi => (h.li i hi).1) fun i j hi hj e => ?_) (pigeon p.list.length A.n (gt p.place) (fun u hu => (h.st u hu (hd u hu)).1) fun u v hu hv e => ?_)
    · have a := (h.li i hi).2.1
      have b := (h.li j hj).2.1
      rw [e] at a; exact a.symm.trans b
    · have a := (h.st u hu (hd u hu)).2.1
      have b := (h.st v hv (hd v hv)).2.1
      rw [e] at a; exact a.symm.trans b
  have hset : ∀ u v, u < A.n → v < A.n → (gt p.set u = gt p.set v ↔ κ u = κ v) := fun u v hu hv => by
    obtain ⟨_, _, a, _, _, b⟩ := h.st u hu (hd u hu)
    obtain ⟨_, _, c, _, _, d⟩ := h.st v hv (hd v hv)
    constructor
    · intro e; rw [e, d] at b; exact (Option.some.inj b).symm
    · intro e
      rw [List.getElem?_eq_getElem a] at b
      rw [List.getElem?_eq_getElem c] at d
      have := (Option.some.inj b).trans (e.trans (Option.some.inj d).symm)
      exact (List.getElem_inj (ordK_nd κ A.n)).1 this
  refine ⟨⟨hll, h.lp, h.ls, by rw [h.le, h.lb], by rw [h.lm, h.lb], fun u hu => ?_, fun i hi => ?_, fun u hu => ?_, fun k hk' => ?_, fun k hk' => ?_⟩, fun k hk' => h.mr k (by rw [h.lb] at hk'; exact hk'), fun k hk' => List.mem_range.1 hk', fun u v hu hv e => (hk u v hu hv).1 ((hset u v hu hv).1 e), fun B hB u v huv => ?_, fun _ => 0, fun _ _ _ _ _ => rfl, fun _ _ _ _ _ _ _ => rfl, fun u v hu hv _ => ?_⟩
  · obtain ⟨a, b, _⟩ := h.st u hu (hd u hu)
    exact ⟨by omega, b⟩
  · obtain ⟨a, b, _⟩ := h.li i (by omega)
    exact ⟨a, b⟩
  · obtain ⟨_, _, a, b, c, _⟩ := h.st u hu (hd u hu)
    exact ⟨by rw [h.lb]; exact a, b, c⟩
  · obtain ⟨a, b, c⟩ := h.sp k (by rw [h.lb] at hk'; exact hk')
    exact ⟨a, by omega, c⟩
  · have a := h.mr k (by rw [h.lb] at hk'; exact hk')
    have b := h.sp k (by rw [h.lb] at hk'; exact hk')
    omega
  · obtain ⟨hu, hv⟩ := hB.lt u v huv
    exact (hset u v hu hv).2 ((hk u v hu hv).2 (hB.fr u v huv))
  · obtain ⟨_, _, a, _⟩ := h.st u hu (hd u hu)
    exact .inl (List.mem_range.2 (by rw [h.lb]; exact a))
end
/-- the program's classes -/
def clsP {α : Type} [DecidableEq α] (A : Fa) (κ : Nat → α) (bef : Nat → Nat → List Nat) : Nat → Nat :=
  gt (hopP bef A.m (2 * (A.n - (rowsP κ A.n).bg.length) + (rowsP κ A.n).bg.length) (rowsP κ A.n) (List.range (rowsP κ A.n).bg.length)).set
/-- the states from which a state is reached by a symbol -/
def befA (A : Fa) (x c : Nat) : List Nat := (List.range A.n).filter fun u => A.nx u x == c
theorem befA_mem (A : Fa) (x c u : Nat) : u ∈ befA A x c ↔ u < A.n ∧ A.nx u x = c := by simp [befA]
theorem cls_eq {α : Type} [DecidableEq α] {A : Fa} (hA : A.ok) {κ : Nat → α} (hk : ∀ u v, u < A.n → v < A.n → (κ u = κ v ↔ ∀ x, x < A.m → A.fr u x = A.fr v x)) {u v : Nat} (hu : u < A.n) (hv : v < A.n) :
    clsP A κ (befA A) u = clsP A κ (befA A) v ↔ clsR A u = clsR A v := by
  have h0 := rows_hop hk
  have h1 := hop_end hA (fun y _ c _ u => befA_mem A y c u) _ h0 (Nat.le_refl _)
  rw [List.length_range] at h1
  exact hop_cls hA h1 hu hv
end Go.Am
