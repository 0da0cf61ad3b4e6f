/- A part of the proof of a statement of this seat: the machine on which the program is read, and what it computes; for every input. -/
import Derived.Test.YtikiipfbkfgmbaaGreatDoorM02
import Derived.Test.YtikiipfbkfgmbaaGreatDoorM03
import Derived.Laws.BitsLemmas
set_option linter.unusedVariables false
namespace Go.Am
open Go

/-! # The data of the trigger layer, and how they stand as values of the machine -/

abbrev Str := List UInt8

inductive Cond where
  | mk (kind : Str) (a b mi ma : Int) (pat : Str) (nl : Bool) (kids : List Cond)

/-- a slice that nobody writes: nil or not -/
def encS (nl : Bool) (l : List AV) : AV := match nl, l with
  | true, [] => .nils
  | _, l => .fz l

mutual
def encC : Cond → AV
  | .mk k a b mi ma p nl kids => .agg [.str k, .int .i64 a, .int .i64 b, .int .i64 mi, .int .i64 ma, .str p, encS nl (encL kids)]
def encL : List Cond → List AV
  | [] => []
  | c :: l => encC c :: encL l
end
theorem encL_map : ∀ l, encL l = l.map encC
  | [] => by simp [encL]
  | c :: l => by simp [encL, encL_map l]
theorem encL_get (l : List Cond) (i : Nat) : (encL l)[i]? = (l[i]?).map encC := by rw [encL_map]; simp
theorem encL_len (l : List Cond) : (encL l).length = l.length := by rw [encL_map]; simp

def Cond.kind : Cond → Str | .mk k _ _ _ _ _ _ _ => k
def Cond.a : Cond → Int | .mk _ a _ _ _ _ _ _ => a
def Cond.b : Cond → Int | .mk _ _ b _ _ _ _ _ => b
def Cond.mi : Cond → Int | .mk _ _ _ m _ _ _ _ => m
def Cond.ma : Cond → Int | .mk _ _ _ _ m _ _ _ => m
def Cond.pat : Cond → Str | .mk _ _ _ _ _ p _ _ => p
def Cond.nl : Cond → Bool | .mk _ _ _ _ _ _ n _ => n
def Cond.kids : Cond → List Cond | .mk _ _ _ _ _ _ _ l => l
def Cond.cells (c : Cond) : List AV := [.str c.kind, .int .i64 c.a, .int .i64 c.b, .int .i64 c.mi, .int .i64 c.ma, .str c.pat, encS c.nl (encL c.kids)]
theorem encC_cells (c : Cond) : encC c = .agg c.cells := by cases c; simp [encC, Cond.cells, Cond.kind, Cond.a, Cond.b, Cond.mi, Cond.ma, Cond.pat, Cond.nl, Cond.kids]

structure Step where
  cond : Cond
  times : Int
  within : Int
def Step.cells (s : Step) : List AV := s.cond.cells ++ [.int .i64 s.times, .int .i64 s.within]
def encStep (s : Step) : AV := .agg [.str s.cond.kind, .int .i64 s.cond.a, .int .i64 s.cond.b, .int .i64 s.cond.mi, .int .i64 s.cond.ma, .str s.cond.pat, encS s.cond.nl (encL s.cond.kids), .int .i64 s.times, .int .i64 s.within]

structure Prog where
  lines : Int
  nl : Bool
  steps : List Step
def encP (p : Prog) : AV := .agg [.int .i64 p.lines, encS p.nl (p.steps.map encStep)]

def ints (l : List Int) : List AV := l.map (.int .i64 ·)
def bools (l : List Bool) : List AV := l.map .bool

structure Auto where
  lines : Int
  nNl : Bool
  next : List (Bool × List Int)
  fNl : Bool
  fires : List (Bool × List Bool)
def encRow (r : Bool × List Int) : AV := encS r.1 (ints r.2)
def encFRow (r : Bool × List Bool) : AV := encS r.1 (bools r.2)
def encA (a : Auto) : AV := .agg [.int .i64 a.lines, encS a.nNl (a.next.map encRow), encS a.fNl (a.fires.map encFRow)]

/-! ### How such slices read -/
theorem encS_fz (l : List AV) : encS false l = .fz l := by cases l <;> rfl
theorem encS_cons (nl : Bool) (x : AV) (l : List AV) : encS nl (x :: l) = .fz (x :: l) := by cases nl <;> rfl
theorem encS_nils : encS true [] = .nils := rfl
theorem still_encS (nl : Bool) (l : List AV) : still (encS nl l) = true := by
  cases nl <;> cases l <;> simp [encS, still]
theorem noAgg_encS (nl : Bool) (l : List AV) : noAgg (encS nl l) = true := by
  cases nl <;> cases l <;> simp [encS, noAgg]
theorem cells_encS (nl : Bool) (l : List AV) : (encS nl l).cells = [encS nl l] := by
  cases nl <;> cases l <;> simp [encS, AV.cells]
theorem lenL_encS (nl : Bool) (l : List AV) : lenRL (encS nl l) = some (.int .i64 l.length) := by
  cases nl <;> cases l <;> simp [encS, lenRL]
theorem frz_encS (X : Cx) (s : St) (d : Nat) (nl : Bool) (l : List AV) : frz X s (d + 1) (encS nl l) = some (encS nl l) := by
  cases nl <;> cases l <;> simp [encS, frz]
theorem ixa_encS (n : Nat) (nl : Bool) (l : List AV) (k : IntKind) (i : Int) (x : AV) (h0 : 0 ≤ i) (hx : l[i.toNat]? = some x) (hc : x.cells.length = n) (hn : n ≠ 0) : ixRA n (encS nl l) (.int k i) = some (.fp x.cells 0) := by
  have hl : l ≠ [] := by intro h; rw [h] at hx; simp at hx
  have : encS nl l = .fz l := by cases l with
    | nil => exact absurd rfl hl
    | cons y l => exact encS_cons ..
  rw [this, ixa_fz]
  simp [h0, hx, ixF, hc, hn]

theorem wrap_i64 {n : Int} (h0 : -2 ^ 63 ≤ n) (h1 : n < 2 ^ 63) : IntKind.i64.wrap n = n := by
  rw [IntKind.wrap_i64]
  omega
end Go.Am

set_option linter.all false
namespace Go.Am
open Go Go.Proofs
variable [MaxLen]
set_option maxRecDepth 100000
instance seatStat : Stat := ⟨fun m c => ∃ n, n ≤ m ∧ okC U n c = true ∧ noRF c = true, fun t => Nat.beq t 207⟩
theorem U_und (t : TypeId) : U.und t = Tryz.prog.underlying t := by unfold U; rfl
theorem U_inf (t : TypeId) : U.inf t = Tryz.prog.info? t := by unfold U; rfl
theorem U_ext (f : FuncId) : U.ext f = extU f := by unfold U; rfl
theorem U_pure (f : FuncId) : U.pure f = !keeps.contains f := by unfold U; rfl
theorem U_gbase (g : Nat) : U.gbase g = gbU g := by unfold U; rfl
theorem U_glob : U.glob = 8 := by unfold U; rfl
theorem U_fn (f : FuncId) : U.fn f = bif Nat.beq f 75 then none else Tryz.prog.funcs[f]? := by unfold U; rfl

/-- a function's body, resolved, and where its results stand -/
noncomputable def fnRC (f : FuncId) : Option (List ResultVar × RC) := match U.fn f with
  | some fn => match fn.body with
    | some c => some (fn.results.toList, rc U c)
    | none => none
  | none => none
theorem fnRC_some {f : FuncId} {rs : List ResultVar} {r : RC} (h : fnRC f = some (rs, r)) : ∃ fn c, U.fn f = some fn ∧ fn.body = some c ∧ fn.results.toList = rs ∧ rc U c = r := by
  unfold fnRC at h
  split at h
  · rename_i fn hf
    split at h
    · rename_i c hb
      cases h
      exact ⟨fn, c, hf, hb, rfl, rfl⟩
    · cases h
  · cases h
def isPure (f : FuncId) : Bool := !keeps.contains f && (extU f).isNone
def isKept (f : FuncId) : Bool := keeps.contains f && (extU f).isNone
theorem isPure_of {f : FuncId} (h : isPure f = true) : U.pure f = true ∧ U.ext f = none := by
  rw [isPure, Bool.and_eq_true, Option.isNone_iff_eq_none] at h
  rw [U_pure, U_ext]; exact h
theorem isKept_of {f : FuncId} (h : isKept f = true) : U.pure f = false ∧ U.ext f = none := by
  rw [isKept, Bool.and_eq_true, Option.isNone_iff_eq_none] at h
  rw [U_pure, U_ext, h.1]; exact ⟨rfl, h.2⟩

/-- a call in a state of its own, of values that nobody writes -/
theorem pure_go {f : FuncId} {rs : List ResultVar} {r : RC} (h : fnRC f = some (rs, r)) (hp : isPure f = true) {args : List AV} (hst : stills args = true) {v : AV}
    (hg : go U (finP U rs) [] r (bindArgs 0 args .nil) (ownSt U) = some v) : calV U f args = some v := by
  obtain ⟨fn, c, h1, h2, h3, h4⟩ := fnRC_some h
  obtain ⟨p1, p2⟩ := isPure_of hp
  exact calV_pure U p2 p1 h1 h2 h3 h4 hst hg
/-- a call in the state at hand -/
theorem kept_go {f : FuncId} {rs : List ResultVar} {r : RC} (h : fnRC f = some (rs, r)) (hp : isKept f = true) {args : List AV} {s : St} {x : AV × St}
    (hg : go U (finB U rs) [] r (bindArgs 0 args .nil) s = some x) : cal U f args s = some x := by
  obtain ⟨fn, c, h1, h2, h3, h4⟩ := fnRC_some h
  obtain ⟨p1, p2⟩ := isKept_of hp
  unfold cal callF
  rw [p2, p1]
  exact callB_go U h1 h2 h3 h4 hg
/-- with what stands in memory -/
theorem z_of {f : FuncId} (hp : isPure f = true) {args : List AV} (s : St) (hst : stills args = false) : callK U (calV U f args) f args s = calZ U f (mapO (frz U s 40) args) s :=
  cal_calZ U s (isPure_of hp).2 (isPure_of hp).1 hst
def gateZ (p : Bool) (x : Option (AV × St)) (s : St) : Option (AV × St) := bif p then x else some (undef, s)
theorem gateZ_some (p : Bool) (v : AV) (s : St) : gateZ p (some (v, s)) s = some (bif p then v else undef, s) := by cases p <;> rfl
theorem gateZ_true (x : Option (AV × St)) (s : St) : gateZ true x s = x := (fun h => h) rfl
theorem gateZ_false (x : Option (AV × St)) (s : St) : gateZ false x s = some (undef, s) := (fun h => h) rfl
theorem zg_of {f : FuncId} (hp : isPure f = true) {p : Bool} {args : List AV} (s : St) (hst : stills args = false) : gateC U p (calV U f args) f args s = gateZ p (calZ U f (mapO (frz U s 40) args) s) s := by
  unfold gateC gateZ
  rw [z_of hp s hst]
theorem flat_frz (s : St) : ∀ (d : Nat) (v v' : AV), frz U s d v = some v' → flat v' = true → v = v' := by
  intro d
  induction d with
  | zero => intro v v' h; simp [frz] at h
  | succ d ih =>
    intro v v' h hf
    have hl : ∀ (l l' : List AV), mapO (frz U s d) l = some l' → flats l' = true → l = l' := by
      intro l
      induction l with
      | nil => intro l' h _; simp only [mapO] at h; cases h; rfl
      | cons x l ihl =>
        intro l' h hf
        simp only [mapO] at h
        split at h
        · rename_i y r h1 h2
          cases h
          simp only [flats, Bool.and_eq_true] at hf
          rw [ih _ _ h1 hf.1, ihl _ h2 hf.2]
        · cases h
    cases v with
    | ptr b o =>
      rw [frz_ptr] at h
      unfold frzP at h
      split at h
      · simp only [fpK, Option.map_eq_some_iff] at h
        obtain ⟨_, _, rfl⟩ := h
        simp [flat] at hf
      · cases h
    | sl b o len cap esz =>
      rw [frz_sl] at h
      unfold frzS frzT fzK at h
      split at h
      · split at h
        · split at h
          · simp only [Option.map_eq_some_iff] at h
            obtain ⟨_, _, rfl⟩ := h
            simp [flat] at hf
          · cases h
        · cases h
      · cases h
    | map r =>
      simp only [frz] at h
      split at h
      · split at h
        · cases h; simp [flat] at hf
        · cases h
      · cases h
    | fn f x y =>
      simp only [frz] at h
      split at h
      · split at h
        · rename_i x' y' h1 h2
          cases h
          simp only [flat, Bool.and_eq_true] at hf
          rw [hl _ _ h1 hf.1.2, hl _ _ h2 hf.2]
        · cases h
      · cases h
    | iface t x =>
      simp only [frz] at h
      split at h
      · rename_i x' h1
        cases h
        simp only [flat] at hf
        rw [ih _ _ h1 hf]
      · cases h
    | agg cs =>
      simp only [frz] at h
      split at h
      · rename_i x' h1
        cases h
        simp only [flat] at hf
        rw [hl _ _ h1 hf]
      · cases h
    | tup cs =>
      simp only [frz] at h
      split at h
      · rename_i x' h1
        cases h
        simp only [flat] at hf
        rw [hl _ _ h1 hf]
      · cases h
    | _ => simp only [frz] at h; cases h; rfl
/-- what such a call hands out, where that lies nowhere, it hands out of any arguments that read alike -/
theorem q_of {f : FuncId} {rs : List ResultVar} {r : RC} (h : fnRC f = some (rs, r)) {us : List AV} {v : AV} (hf : flat v = true)
    (hg : go U (finP U rs) [] r (bindArgs 0 us .nil) (ownSt U) = some v) : callQ U (execL U) f us false = some v := by
  obtain ⟨fn, c, h1, h2, h3, h4⟩ := fnRC_some h
  have hg : frzB U (finB U rs (den U r (bindArgs 0 us .nil) (ownSt U))) = some v := hg
  cases hd : finB U rs (den U r (bindArgs 0 us .nil) (ownSt U)) with
  | none => rw [hd] at hg; simp [frzB] at hg
  | some x =>
    obtain ⟨v0, s'⟩ := x
    rw [hd] at hg
    have hB := callB_go U h1 h2 h3 h4 (args := us) (s := ownSt U) (x := (v0, s')) hd
    simp only [frzB] at hg
    have := flat_frz s' _ _ _ hg hf
    subst this
    unfold callQ
    rw [hB]
    simp [hf]
/-- the calls that the machine runs by itself -/
theorem v_of_q {f : FuncId} (hp : isPure f = true) {args : List AV} (hst : stills args = true) {v : AV} (h : callQ U (execL U) f args true = some v) : calV U f args = some v := by
  refine calV_of fun s => ?_
  obtain ⟨p1, p2⟩ := isPure_of hp
  unfold cal callF
  rw [p2]
  simp only [p1, if_true, callP, frzArgs, hst, h]
theorem und_2 : U.und 2 = some (.int .i64) := by kernel_rfl
theorem und_3 : U.und 3 = some (.int .i64) := by kernel_rfl
theorem und_5 : U.und 5 = some (.int .u8) := by kernel_rfl
theorem und_21 : U.und 21 = some (.int .i32) := by kernel_rfl
theorem und_26 : U.und 26 = some (.int .i64) := by kernel_rfl
theorem und_299 : U.und 299 = some (.int .u32) := by kernel_rfl
theorem und_301 : U.und 301 = some (.int .u64) := by kernel_rfl
theorem und_272 : U.und 272 = some (.int .u64) := by kernel_rfl
theorem ag_2 : isAggT U 2 = some false := by kernel_rfl
theorem sz_2 : size U 2 = some 1 := by kernel_rfl
theorem ag_3 : isAggT U 3 = some false := by kernel_rfl
theorem sz_3 : size U 3 = some 1 := by kernel_rfl
theorem ag_4 : isAggT U 4 = some false := by kernel_rfl
theorem sz_4 : size U 4 = some 1 := by kernel_rfl
theorem ag_5 : isAggT U 5 = some false := by kernel_rfl
theorem sz_5 : size U 5 = some 1 := by kernel_rfl
theorem ag_9 : isAggT U 9 = some false := by kernel_rfl
theorem sz_9 : size U 9 = some 1 := by kernel_rfl
theorem ag_21 : isAggT U 21 = some false := by kernel_rfl
theorem sz_21 : size U 21 = some 1 := by kernel_rfl
theorem ag_23 : isAggT U 23 = some false := by kernel_rfl
theorem sz_23 : size U 23 = some 1 := by kernel_rfl
theorem ag_25 : isAggT U 25 = some true := by kernel_rfl
theorem sz_25 : size U 25 = some 2 := by kernel_rfl
theorem ag_26 : isAggT U 26 = some false := by kernel_rfl
theorem sz_26 : size U 26 = some 1 := by kernel_rfl
theorem ag_29 : isAggT U 29 = some false := by kernel_rfl
theorem sz_29 : size U 29 = some 1 := by kernel_rfl
theorem ag_31 : isAggT U 31 = some true := by kernel_rfl
theorem sz_31 : size U 31 = some 2 := by kernel_rfl
theorem ag_37 : isAggT U 37 = some false := by kernel_rfl
theorem sz_37 : size U 37 = some 1 := by kernel_rfl
theorem ag_39 : isAggT U 39 = some true := by kernel_rfl
theorem sz_39 : size U 39 = some 7 := by kernel_rfl
theorem ag_40 : isAggT U 40 = some false := by kernel_rfl
theorem sz_40 : size U 40 = some 1 := by kernel_rfl
theorem ag_43 : isAggT U 43 = some false := by kernel_rfl
theorem sz_43 : size U 43 = some 1 := by kernel_rfl
theorem ag_46 : isAggT U 46 = some false := by kernel_rfl
theorem sz_46 : size U 46 = some 1 := by kernel_rfl
theorem ag_48 : isAggT U 48 = some true := by kernel_rfl
theorem sz_48 : size U 48 = some 7 := by kernel_rfl
theorem ag_66 : isAggT U 66 = some false := by kernel_rfl
theorem sz_66 : size U 66 = some 1 := by kernel_rfl
theorem ag_67 : isAggT U 67 = some false := by kernel_rfl
theorem sz_67 : size U 67 = some 1 := by kernel_rfl
theorem ag_69 : isAggT U 69 = some true := by kernel_rfl
theorem sz_69 : size U 69 = some 3 := by kernel_rfl
theorem ag_72 : isAggT U 72 = some true := by kernel_rfl
theorem sz_72 : size U 72 = some 3 := by kernel_rfl
theorem ag_90 : isAggT U 90 = some true := by kernel_rfl
theorem sz_90 : size U 90 = some 9 := by kernel_rfl
theorem ag_108 : isAggT U 108 = some false := by kernel_rfl
theorem sz_108 : size U 108 = some 1 := by kernel_rfl
theorem ag_116 : isAggT U 116 = some true := by kernel_rfl
theorem sz_116 : size U 116 = some 2 := by kernel_rfl
theorem ag_144 : isAggT U 144 = some true := by kernel_rfl
theorem sz_144 : size U 144 = some 9 := by kernel_rfl
theorem ag_152 : isAggT U 152 = some true := by kernel_rfl
theorem sz_152 : size U 152 = some 3 := by kernel_rfl
theorem ag_158 : isAggT U 158 = some true := by kernel_rfl
theorem sz_158 : size U 158 = some 3 := by kernel_rfl
theorem ag_176 : isAggT U 176 = some true := by kernel_rfl
theorem sz_176 : size U 176 = some 5 := by kernel_rfl
theorem ag_183 : isAggT U 183 = some false := by kernel_rfl
theorem sz_183 : size U 183 = some 1 := by kernel_rfl
theorem ag_186 : isAggT U 186 = some true := by kernel_rfl
theorem sz_186 : size U 186 = some 2 := by kernel_rfl
theorem ag_205 : isAggT U 205 = some false := by kernel_rfl
theorem sz_205 : size U 205 = some 1 := by kernel_rfl
theorem ag_207 : isAggT U 207 = some true := by kernel_rfl
theorem sz_207 : size U 207 = some 2 := by kernel_rfl
theorem ag_236 : isAggT U 236 = some true := by kernel_rfl
theorem sz_236 : size U 236 = some 9 := by kernel_rfl
theorem ag_272 : isAggT U 272 = some false := by kernel_rfl
theorem sz_272 : size U 272 = some 1 := by kernel_rfl
theorem ag_299 : isAggT U 299 = some false := by kernel_rfl
theorem sz_299 : size U 299 = some 1 := by kernel_rfl
theorem ag_301 : isAggT U 301 = some false := by kernel_rfl
theorem sz_301 : size U 301 = some 1 := by kernel_rfl
attribute [go_sem ↓] gateZ_true gateZ_false
attribute [go_sem] gateZ_some Int.reduceBEq Int.reduceBNe Int.reduceAdd U_glob und_2 und_3 und_5 und_21 und_26 und_299 und_301 und_272 ag_2 sz_2 ag_3 sz_3 ag_4 sz_4 ag_5 sz_5 ag_9 sz_9 ag_21 sz_21 ag_23 sz_23 ag_25 sz_25 ag_26 sz_26 ag_29 sz_29 ag_31 sz_31 ag_37 sz_37 ag_39 sz_39 ag_40 sz_40 ag_43 sz_43 ag_46 sz_46 ag_48 sz_48 ag_66 sz_66 ag_67 sz_67 ag_69 sz_69 ag_72 sz_72 ag_90 sz_90 ag_108 sz_108 ag_116 sz_116 ag_144 sz_144 ag_152 sz_152 ag_158 sz_158 ag_176 sz_176 ag_183 sz_183 ag_186 sz_186 ag_205 sz_205 ag_207 sz_207 ag_236 sz_236 ag_272 sz_272 ag_299 sz_299 ag_301 sz_301
end Go.Am

set_option linter.all false
namespace Go.Am
open Go
variable [MaxLen]
set_option maxRecDepth 100000
/-- strobe/stroberef04.Outside; results .tmp 6 -/
def r94 : RC := (.seq (.ops [⟨some 6, none, none, false, .mov (.v (.bool false))⟩]) (.seq (.ops [⟨some 7, none, none, false, .mov (.t 0)⟩,
  ⟨some 8, none, none, false, .mov (.t 1)⟩,
  ⟨some 9, none, none, false, .bin .lss 3 false (.t 7) (.t 8)⟩,
  ⟨some 10, none, none, false, .mov (.t 9)⟩,
  ⟨some 11, some (10, false), none, false, .mov (.t 0)⟩,
  ⟨some 12, some (10, false), none, false, .mov (.t 2)⟩,
  ⟨some 13, some (10, false), none, false, .bin .gtr 3 false (.t 11) (.t 12)⟩,
  ⟨some 14, none, none, false, .pick (.t 10) (.v (.bool true)) (.t 13)⟩,
  ⟨some 6, none, none, false, .mov (.t 14)⟩]) .ret))
theorem k94 : fnRC 94 = some ([.tmp 6], r94) := by kernel_rfl

/-- strobe/stroberef04.CheckLines; results .tmp 2 -/
def r26 : RC := (.seq (.ops [⟨some 2, none, none, false, .mov (.v (.int .i64 0))⟩]) (.seq (.seq (.ops [⟨some 3, none, none, false, .mov (.t 0)⟩,
  ⟨some 4, none, none, false, .call 94 [(.t 3), (.v (.int .i64 1)), (.v (.int .i64 16))]⟩]) (.cond (.t 4) (.seq (.ops [⟨some 2, none, none, false, .mov (.v (.int .i64 3))⟩]) .ret) .skip)) (.seq (.ops [⟨some 2, none, none, false, .mov (.v (.int .i64 0))⟩]) .ret)))
theorem k26 : fnRC 26 = some ([.tmp 2], r26) := by kernel_rfl

/-- strobe/stroberef04.uses; results .cell 2 160,.tmp 3 -/
def r95 : RC := (.seq (.ops [⟨some 2, none, none, false, .al [(.bool false), (.bool false), (.bool false), (.bool false), (.bool false), (.bool false)] 160⟩,
  ⟨some 3, none, none, false, .mov (.v (.bool false))⟩]) (.seq (.seq (.ops [⟨some 4, none, none, false, .mov (.t 0)⟩]) (.block 0 (.seq (.seq (.ops [⟨some 6, none, none, false, .bin .eql 9 true (.t 4) (.v (.str [104, 105, 103, 104]))⟩,
  ⟨some 5, none, none, false, .mov (.t 6)⟩]) (.cond (.t 5) .skip (.seq (.ops [⟨some 7, none, none, false, .bin .eql 9 true (.t 4) (.v (.str [108, 111, 119]))⟩,
  ⟨some 5, none, none, false, .mov (.t 7)⟩]) (.cond (.t 5) .skip (.seq (.ops [⟨some 8, none, none, false, .bin .eql 9 true (.t 4) (.v (.str [114, 105, 115, 101]))⟩,
  ⟨some 5, none, none, false, .mov (.t 8)⟩]) (.cond (.t 5) .skip (.ops [⟨some 9, none, none, false, .bin .eql 9 true (.t 4) (.v (.str [102, 97, 108, 108]))⟩,
  ⟨some 5, none, none, false, .mov (.t 9)⟩]))))))) (.cond (.t 5) (.seq (.ops [⟨some 10, none, none, false, .bld [(.bool false), (.bool false), (.bool false), (.bool false), (.bool false), (.bool false)] [(0, 1, (.v (.bool true))), (1, 1, (.v (.bool false))), (2, 1, (.v (.bool false))), (3, 1, (.v (.bool false))), (4, 1, (.v (.bool false))), (5, 1, (.v (.bool false)))]⟩,
  ⟨none, none, none, false, .st 6 (.t 2) (.t 10)⟩,
  ⟨some 3, none, none, false, .mov (.v (.bool true))⟩]) .ret) (.seq (.seq (.ops [⟨some 12, none, none, false, .bin .eql 9 true (.t 4) (.v (.str [112, 97, 116, 116, 101, 114, 110]))⟩,
  ⟨some 11, none, none, false, .mov (.t 12)⟩]) (.cond (.t 11) .skip (.ops [⟨some 13, none, none, false, .bin .eql 9 true (.t 4) (.v (.str [101, 110, 116, 101, 114]))⟩,
  ⟨some 11, none, none, false, .mov (.t 13)⟩]))) (.cond (.t 11) (.seq (.ops [⟨some 14, none, none, false, .bld [(.bool false), (.bool false), (.bool false), (.bool false), (.bool false), (.bool false)] [(0, 1, (.v (.bool false))), (1, 1, (.v (.bool false))), (2, 1, (.v (.bool false))), (3, 1, (.v (.bool false))), (4, 1, (.v (.bool true))), (5, 1, (.v (.bool false)))]⟩,
  ⟨none, none, none, false, .st 6 (.t 2) (.t 14)⟩,
  ⟨some 3, none, none, false, .mov (.v (.bool true))⟩]) .ret) (.seq (.seq (.ops [⟨some 16, none, none, false, .bin .eql 9 true (.t 4) (.v (.str [112, 117, 108, 115, 101]))⟩,
  ⟨some 15, none, none, false, .mov (.t 16)⟩]) (.cond (.t 15) .skip (.ops [⟨some 17, none, none, false, .bin .eql 9 true (.t 4) (.v (.str [103, 97, 112]))⟩,
  ⟨some 15, none, none, false, .mov (.t 17)⟩]))) (.cond (.t 15) (.seq (.ops [⟨some 18, none, none, false, .bld [(.bool false), (.bool false), (.bool false), (.bool false), (.bool false), (.bool false)] [(0, 1, (.v (.bool true))), (1, 1, (.v (.bool false))), (2, 1, (.v (.bool true))), (3, 1, (.v (.bool true))), (4, 1, (.v (.bool false))), (5, 1, (.v (.bool false)))]⟩,
  ⟨none, none, none, false, .st 6 (.t 2) (.t 18)⟩,
  ⟨some 3, none, none, false, .mov (.v (.bool true))⟩]) .ret) (.seq (.ops [⟨some 20, none, none, false, .bin .eql 9 true (.t 4) (.v (.str [105, 100, 108, 101]))⟩,
  ⟨some 19, none, none, false, .mov (.t 20)⟩]) (.cond (.t 19) (.seq (.ops [⟨some 21, none, none, false, .bld [(.bool false), (.bool false), (.bool false), (.bool false), (.bool false), (.bool false)] [(0, 1, (.v (.bool true))), (1, 1, (.v (.bool false))), (2, 1, (.v (.bool true))), (3, 1, (.v (.bool false))), (4, 1, (.v (.bool false))), (5, 1, (.v (.bool false)))]⟩,
  ⟨none, none, none, false, .st 6 (.t 2) (.t 21)⟩,
  ⟨some 3, none, none, false, .mov (.v (.bool true))⟩]) .ret) (.seq (.ops [⟨some 23, none, none, false, .bin .eql 9 true (.t 4) (.v (.str [115, 101, 116, 117, 112]))⟩,
  ⟨some 22, none, none, false, .mov (.t 23)⟩]) (.cond (.t 22) (.seq (.ops [⟨some 24, none, none, false, .bld [(.bool false), (.bool false), (.bool false), (.bool false), (.bool false), (.bool false)] [(0, 1, (.v (.bool true))), (1, 1, (.v (.bool true))), (2, 1, (.v (.bool true))), (3, 1, (.v (.bool false))), (4, 1, (.v (.bool false))), (5, 1, (.v (.bool false)))]⟩,
  ⟨none, none, none, false, .st 6 (.t 2) (.t 24)⟩,
  ⟨some 3, none, none, false, .mov (.v (.bool true))⟩]) .ret) (.seq (.ops [⟨some 26, none, none, false, .bin .eql 9 true (.t 4) (.v (.str [114, 117, 110, 116]))⟩,
  ⟨some 25, none, none, false, .mov (.t 26)⟩]) (.cond (.t 25) (.seq (.ops [⟨some 27, none, none, false, .bld [(.bool false), (.bool false), (.bool false), (.bool false), (.bool false), (.bool false)] [(0, 1, (.v (.bool true))), (1, 1, (.v (.bool true))), (2, 1, (.v (.bool false))), (3, 1, (.v (.bool false))), (4, 1, (.v (.bool false))), (5, 1, (.v (.bool false)))]⟩,
  ⟨none, none, none, false, .st 6 (.t 2) (.t 27)⟩,
  ⟨some 3, none, none, false, .mov (.v (.bool true))⟩]) .ret) (.seq (.seq (.ops [⟨some 29, none, none, false, .bin .eql 9 true (.t 4) (.v (.str [110, 111, 116]))⟩,
  ⟨some 28, none, none, false, .mov (.t 29)⟩]) (.cond (.t 28) .skip (.seq (.ops [⟨some 30, none, none, false, .bin .eql 9 true (.t 4) (.v (.str [97, 108, 108]))⟩,
  ⟨some 28, none, none, false, .mov (.t 30)⟩]) (.cond (.t 28) .skip (.ops [⟨some 31, none, none, false, .bin .eql 9 true (.t 4) (.v (.str [97, 110, 121]))⟩,
  ⟨some 28, none, none, false, .mov (.t 31)⟩]))))) (.cond (.t 28) (.seq (.ops [⟨some 32, none, none, false, .bld [(.bool false), (.bool false), (.bool false), (.bool false), (.bool false), (.bool false)] [(0, 1, (.v (.bool false))), (1, 1, (.v (.bool false))), (2, 1, (.v (.bool false))), (3, 1, (.v (.bool false))), (4, 1, (.v (.bool false))), (5, 1, (.v (.bool true)))]⟩,
  ⟨none, none, none, false, .st 6 (.t 2) (.t 32)⟩,
  ⟨some 3, none, none, false, .mov (.v (.bool true))⟩]) .ret) .skip)))))))))))))))) (.seq (.ops [⟨some 33, none, none, false, .bld [(.bool false), (.bool false), (.bool false), (.bool false), (.bool false), (.bool false)] []⟩,
  ⟨none, none, none, false, .st 6 (.t 2) (.t 33)⟩,
  ⟨some 3, none, none, false, .mov (.v (.bool false))⟩]) .ret)))
theorem k95 : fnRC 95 = some ([.cell 2 160, .tmp 3], r95) := by kernel_rfl

def r96_l0 : RC := (.seq (.seq (.ops [⟨some 10, none, none, false, .mov (.t 5)⟩,
  ⟨some 11, none, none, false, .mov (.t 0)⟩,
  ⟨some 12, none, none, false, .lenS (.t 11)⟩,
  ⟨some 13, none, none, false, .bin .lss 3 false (.t 10) (.t 12)⟩]) (.cond (.t 13) .skip (.exit 0))) (.seq (.block 1 (.seq (.ops [⟨some 16, none, none, false, .mov (.t 0)⟩,
  ⟨some 17, none, none, false, .mov (.t 5)⟩,
  ⟨some 18, none, none, false, .ixs (.t 16) (.t 17)⟩,
  ⟨some 19, none, none, false, .bin .neq 5 true (.t 18) (.v (.int .u8 48))⟩,
  ⟨some 20, none, none, false, .mov (.t 19)⟩,
  ⟨some 21, some (20, true), none, false, .mov (.t 0)⟩,
  ⟨some 22, some (20, true), none, false, .mov (.t 5)⟩,
  ⟨some 23, some (20, true), none, false, .ixs (.t 21) (.t 22)⟩,
  ⟨some 24, some (20, true), none, false, .bin .neq 5 true (.t 23) (.v (.int .u8 49))⟩,
  ⟨some 25, none, none, false, .pick (.t 20) (.t 24) (.v (.bool false))⟩,
  ⟨some 26, none, none, false, .mov (.t 25)⟩,
  ⟨some 27, some (26, true), none, false, .mov (.t 0)⟩,
  ⟨some 28, some (26, true), none, false, .mov (.t 5)⟩,
  ⟨some 29, some (26, true), none, false, .ixs (.t 27) (.t 28)⟩,
  ⟨some 30, some (26, true), none, false, .bin .neq 5 true (.t 29) (.v (.int .u8 120))⟩,
  ⟨some 31, none, none, false, .pick (.t 26) (.t 30) (.v (.bool false))⟩]) (.cond (.t 31) (.seq (.ops [⟨some 4, none, none, false, .mov (.v (.bool true))⟩]) .ret) .skip))) (.ops [⟨some 14, none, none, false, .mov (.t 5)⟩,
  ⟨some 15, none, none, false, .bin .add 3 true (.t 14) (.v (.int .i64 1))⟩,
  ⟨some 5, none, none, false, .mov (.t 15)⟩])))
/-- strobe/stroberef04.badPattern; results .tmp 4 -/
def r96 : RC := (.seq (.ops [⟨some 4, none, none, false, .mov (.v (.bool false))⟩]) (.seq (.seq (.ops [⟨some 6, none, none, false, .mov (.t 0)⟩,
  ⟨some 7, none, none, false, .lenS (.t 6)⟩,
  ⟨some 8, none, none, false, .mov (.t 1)⟩,
  ⟨some 9, none, none, false, .bin .neq 3 false (.t 7) (.t 8)⟩]) (.cond (.t 9) (.seq (.ops [⟨some 4, none, none, false, .mov (.v (.bool true))⟩]) .ret) .skip)) (.seq (.seq (.ops [⟨some 5, none, none, false, .mov (.v (.int .i64 0))⟩]) (.block 0 (.loop r96_l0))) (.seq (.ops [⟨some 4, none, none, false, .mov (.v (.bool false))⟩]) .ret))))
theorem k96 : fnRC 96 = some ([.tmp 4], r96) := by kernel_rfl

def r27_l0 : RC := (.seq (.seq (.ops [⟨some 167, none, none, false, .mov (.t 9)⟩,
  ⟨some 168, none, none, false, .fa 6 (.t 4)⟩,
  ⟨some 169, none, none, false, .ld1 (.t 168)⟩,
  ⟨some 170, none, none, false, .lenL (.t 169)⟩,
  ⟨some 171, none, none, false, .bin .lss 3 false (.t 167) (.t 170)⟩]) (.cond (.t 171) .skip (.exit 0))) (.seq (.block 1 (.seq (.ops [⟨some 174, none, none, false, .mov (.t 0)⟩,
  ⟨some 175, none, none, false, .fa 6 (.t 4)⟩,
  ⟨some 176, none, none, false, .ld1 (.t 175)⟩,
  ⟨some 177, none, none, false, .mov (.t 9)⟩,
  ⟨some 178, none, none, false, .ixa 7 (.t 176) (.t 177)⟩,
  ⟨some 179, none, none, false, .ldn 7 (.t 178)⟩,
  ⟨some 180, none, none, false, .mov (.t 2)⟩,
  ⟨some 181, none, none, false, .bin .add 3 true (.t 180) (.v (.int .i64 1))⟩,
  ⟨some 182, none, none, false, .call 27 [(.t 174), (.t 179), (.t 181)]⟩,
  ⟨some 10, none, none, false, .mov (.t 182)⟩]) (.seq (.ops [⟨some 183, none, none, false, .mov (.t 10)⟩,
  ⟨some 184, none, none, false, .bin .neq 3 true (.t 183) (.v (.int .i64 0))⟩]) (.cond (.t 184) (.seq (.ops [⟨some 185, none, none, false, .mov (.t 10)⟩,
  ⟨some 6, none, none, false, .mov (.t 185)⟩]) .ret) .skip)))) (.ops [⟨some 172, none, none, false, .mov (.t 9)⟩,
  ⟨some 173, none, none, false, .bin .add 3 true (.t 172) (.v (.int .i64 1))⟩,
  ⟨some 9, none, none, false, .mov (.t 173)⟩])))
/-- strobe/stroberef04.CheckCond; results .tmp 6 -/
def r27 : RC := (.seq (.ops [⟨some 4, none, none, false, .box 39 (.t 1)⟩,
  ⟨some 6, none, none, false, .mov (.v (.int .i64 0))⟩]) (.seq (.seq (.ops [⟨some 11, none, none, false, .mov (.t 2)⟩,
  ⟨some 12, none, none, false, .bin .gtr 3 true (.t 11) (.v (.int .i64 4))⟩]) (.cond (.t 12) (.seq (.ops [⟨some 6, none, none, false, .mov (.v (.int .i64 5))⟩]) .ret) .skip)) (.seq (.ops [⟨some 14, none, none, false, .fa 0 (.t 4)⟩,
  ⟨some 15, none, none, false, .ld1 (.t 14)⟩,
  ⟨some 16, none, none, false, .call 95 [(.t 15)]⟩,
  ⟨some 13, none, none, false, .mov (.t 16)⟩,
  ⟨some 17, none, none, false, .ext (.t 13) 0⟩,
  ⟨some 18, none, none, false, .ext (.t 13) 1⟩,
  ⟨some 7, none, none, false, .al [(.bool false), (.bool false), (.bool false), (.bool false), (.bool false), (.bool false)] 160⟩,
  ⟨none, none, none, false, .st 6 (.t 7) (.t 17)⟩,
  ⟨some 8, none, none, false, .mov (.t 18)⟩]) (.seq (.seq (.ops [⟨some 19, none, none, false, .mov (.t 8)⟩,
  ⟨some 20, none, none, false, .un .not (.t 19)⟩]) (.cond (.t 20) (.seq (.ops [⟨some 6, none, none, false, .mov (.v (.int .i64 13))⟩]) .ret) .skip)) (.seq (.seq (.ops [⟨some 21, none, none, false, .ixp 6 1 (.t 7) (.v (.int .i64 0))⟩,
  ⟨some 22, none, none, false, .ld1 (.t 21)⟩,
  ⟨some 23, none, none, false, .un .not (.t 22)⟩,
  ⟨some 24, none, none, false, .mov (.t 23)⟩,
  ⟨some 25, some (24, true), none, false, .fa 1 (.t 4)⟩,
  ⟨some 26, some (24, true), none, false, .ld1 (.t 25)⟩,
  ⟨some 27, some (24, true), none, false, .bin .neq 3 true (.t 26) (.v (.int .i64 0))⟩,
  ⟨some 28, none, none, false, .pick (.t 24) (.t 27) (.v (.bool false))⟩,
  ⟨some 29, none, none, false, .mov (.t 28)⟩,
  ⟨some 30, some (29, false), none, false, .ixp 6 1 (.t 7) (.v (.int .i64 1))⟩,
  ⟨some 31, some (29, false), none, false, .ld1 (.t 30)⟩,
  ⟨some 32, some (29, false), none, false, .un .not (.t 31)⟩,
  ⟨some 33, some (29, false), none, false, .mov (.t 32)⟩,
  ⟨some 34, some (33, true), none, false, .fa 2 (.t 4)⟩,
  ⟨some 35, some (33, true), none, false, .ld1 (.t 34)⟩,
  ⟨some 36, some (33, true), none, false, .bin .neq 3 true (.t 35) (.v (.int .i64 0))⟩,
  ⟨some 37, some (29, false), none, false, .pick (.t 33) (.t 36) (.v (.bool false))⟩,
  ⟨some 38, none, none, false, .pick (.t 29) (.v (.bool true)) (.t 37)⟩,
  ⟨some 39, none, none, false, .mov (.t 38)⟩,
  ⟨some 40, some (39, false), none, false, .ixp 6 1 (.t 7) (.v (.int .i64 2))⟩,
  ⟨some 41, some (39, false), none, false, .ld1 (.t 40)⟩,
  ⟨some 42, some (39, false), none, false, .un .not (.t 41)⟩,
  ⟨some 43, some (39, false), none, false, .mov (.t 42)⟩,
  ⟨some 44, some (43, true), none, false, .fa 3 (.t 4)⟩,
  ⟨some 45, some (43, true), none, false, .ld1 (.t 44)⟩,
  ⟨some 46, some (43, true), none, false, .bin .neq 3 true (.t 45) (.v (.int .i64 0))⟩,
  ⟨some 47, some (39, false), none, false, .pick (.t 43) (.t 46) (.v (.bool false))⟩,
  ⟨some 48, none, none, false, .pick (.t 39) (.v (.bool true)) (.t 47)⟩,
  ⟨some 49, none, none, false, .mov (.t 48)⟩,
  ⟨some 50, some (49, false), none, false, .ixp 6 1 (.t 7) (.v (.int .i64 3))⟩,
  ⟨some 51, some (49, false), none, false, .ld1 (.t 50)⟩,
  ⟨some 52, some (49, false), none, false, .un .not (.t 51)⟩,
  ⟨some 53, some (49, false), none, false, .mov (.t 52)⟩,
  ⟨some 54, some (53, true), none, false, .fa 4 (.t 4)⟩,
  ⟨some 55, some (53, true), none, false, .ld1 (.t 54)⟩,
  ⟨some 56, some (53, true), none, false, .bin .neq 3 true (.t 55) (.v (.int .i64 0))⟩,
  ⟨some 57, some (49, false), none, false, .pick (.t 53) (.t 56) (.v (.bool false))⟩,
  ⟨some 58, none, none, false, .pick (.t 49) (.v (.bool true)) (.t 57)⟩,
  ⟨some 59, none, none, false, .mov (.t 58)⟩,
  ⟨some 60, some (59, false), none, false, .ixp 6 1 (.t 7) (.v (.int .i64 4))⟩,
  ⟨some 61, some (59, false), none, false, .ld1 (.t 60)⟩,
  ⟨some 62, some (59, false), none, false, .un .not (.t 61)⟩,
  ⟨some 63, some (59, false), none, false, .mov (.t 62)⟩,
  ⟨some 64, some (63, true), none, false, .fa 5 (.t 4)⟩,
  ⟨some 65, some (63, true), none, false, .ld1 (.t 64)⟩,
  ⟨some 66, some (63, true), none, false, .bin .neq 9 true (.t 65) (.v (.str []))⟩,
  ⟨some 67, some (59, false), none, false, .pick (.t 63) (.t 66) (.v (.bool false))⟩,
  ⟨some 68, none, none, false, .pick (.t 59) (.v (.bool true)) (.t 67)⟩,
  ⟨some 69, none, none, false, .mov (.t 68)⟩,
  ⟨some 70, some (69, false), none, false, .ixp 6 1 (.t 7) (.v (.int .i64 5))⟩,
  ⟨some 71, some (69, false), none, false, .ld1 (.t 70)⟩,
  ⟨some 72, some (69, false), none, false, .un .not (.t 71)⟩,
  ⟨some 73, some (69, false), none, false, .mov (.t 72)⟩,
  ⟨some 74, some (73, true), none, false, .fa 6 (.t 4)⟩,
  ⟨some 75, some (73, true), none, false, .ld1 (.t 74)⟩,
  ⟨some 76, some (73, true), none, false, .lenL (.t 75)⟩,
  ⟨some 77, some (73, true), none, false, .bin .gtr 3 true (.t 76) (.v (.int .i64 0))⟩,
  ⟨some 78, some (69, false), none, false, .pick (.t 73) (.t 77) (.v (.bool false))⟩,
  ⟨some 79, none, none, false, .pick (.t 69) (.v (.bool true)) (.t 78)⟩]) (.cond (.t 79) (.seq (.ops [⟨some 6, none, none, false, .mov (.v (.int .i64 2))⟩]) .ret) .skip)) (.seq (.seq (.ops [⟨some 80, none, none, false, .ixp 6 1 (.t 7) (.v (.int .i64 0))⟩,
  ⟨some 81, none, none, false, .ld1 (.t 80)⟩,
  ⟨some 82, none, none, false, .mov (.t 81)⟩,
  ⟨some 83, some (82, true), none, false, .fa 1 (.t 4)⟩,
  ⟨some 84, some (82, true), none, false, .ld1 (.t 83)⟩,
  ⟨some 85, some (82, true), none, false, .mov (.t 0)⟩,
  ⟨some 86, some (82, true), none, false, .bin .sub 3 true (.t 85) (.v (.int .i64 1))⟩,
  ⟨some 87, some (82, true), none, false, .call 94 [(.t 84), (.v (.int .i64 0)), (.t 86)]⟩,
  ⟨some 88, none, none, false, .pick (.t 82) (.t 87) (.v (.bool false))⟩,
  ⟨some 89, none, none, false, .mov (.t 88)⟩,
  ⟨some 90, some (89, false), none, false, .ixp 6 1 (.t 7) (.v (.int .i64 1))⟩,
  ⟨some 91, some (89, false), none, false, .ld1 (.t 90)⟩,
  ⟨some 92, some (89, false), none, false, .mov (.t 91)⟩,
  ⟨some 93, some (92, true), none, false, .fa 2 (.t 4)⟩,
  ⟨some 94, some (92, true), none, false, .ld1 (.t 93)⟩,
  ⟨some 95, some (92, true), none, false, .mov (.t 0)⟩,
  ⟨some 96, some (92, true), none, false, .bin .sub 3 true (.t 95) (.v (.int .i64 1))⟩,
  ⟨some 97, some (92, true), none, false, .call 94 [(.t 94), (.v (.int .i64 0)), (.t 96)]⟩,
  ⟨some 98, some (89, false), none, false, .pick (.t 92) (.t 97) (.v (.bool false))⟩,
  ⟨some 99, none, none, false, .pick (.t 89) (.v (.bool true)) (.t 98)⟩]) (.cond (.t 99) (.seq (.ops [⟨some 6, none, none, false, .mov (.v (.int .i64 3))⟩]) .ret) .skip)) (.seq (.seq (.ops [⟨some 100, none, none, false, .ixp 6 1 (.t 7) (.v (.int .i64 1))⟩,
  ⟨some 101, none, none, false, .ld1 (.t 100)⟩,
  ⟨some 102, none, none, false, .mov (.t 101)⟩,
  ⟨some 103, some (102, true), none, false, .fa 1 (.t 4)⟩,
  ⟨some 104, some (102, true), none, false, .ld1 (.t 103)⟩,
  ⟨some 105, some (102, true), none, false, .fa 2 (.t 4)⟩,
  ⟨some 106, some (102, true), none, false, .ld1 (.t 105)⟩,
  ⟨some 107, some (102, true), none, false, .bin .eql 3 false (.t 104) (.t 106)⟩,
  ⟨some 108, none, none, false, .pick (.t 102) (.t 107) (.v (.bool false))⟩]) (.cond (.t 108) (.seq (.ops [⟨some 6, none, none, false, .mov (.v (.int .i64 9))⟩]) .ret) .skip)) (.seq (.seq (.ops [⟨some 109, none, none, false, .ixp 6 1 (.t 7) (.v (.int .i64 2))⟩,
  ⟨some 110, none, none, false, .ld1 (.t 109)⟩,
  ⟨some 111, none, none, false, .mov (.t 110)⟩,
  ⟨some 112, some (111, true), none, false, .fa 3 (.t 4)⟩,
  ⟨some 113, some (111, true), none, false, .ld1 (.t 112)⟩,
  ⟨some 114, some (111, true), none, false, .call 94 [(.t 113), (.v (.int .i64 1)), (.v (.int .i64 255))]⟩,
  ⟨some 115, none, none, false, .pick (.t 111) (.t 114) (.v (.bool false))⟩,
  ⟨some 116, none, none, false, .mov (.t 115)⟩,
  ⟨some 117, some (116, false), none, false, .ixp 6 1 (.t 7) (.v (.int .i64 3))⟩,
  ⟨some 118, some (116, false), none, false, .ld1 (.t 117)⟩,
  ⟨some 119, some (116, false), none, false, .mov (.t 118)⟩,
  ⟨some 120, some (119, true), none, false, .fa 4 (.t 4)⟩,
  ⟨some 121, some (119, true), none, false, .ld1 (.t 120)⟩,
  ⟨some 122, some (119, true), none, false, .call 94 [(.t 121), (.v (.int .i64 1)), (.v (.int .i64 255))]⟩,
  ⟨some 123, some (116, false), none, false, .pick (.t 119) (.t 122) (.v (.bool false))⟩,
  ⟨some 124, none, none, false, .pick (.t 116) (.v (.bool true)) (.t 123)⟩]) (.cond (.t 124) (.seq (.ops [⟨some 6, none, none, false, .mov (.v (.int .i64 3))⟩]) .ret) .skip)) (.seq (.seq (.ops [⟨some 125, none, none, false, .ixp 6 1 (.t 7) (.v (.int .i64 3))⟩,
  ⟨some 126, none, none, false, .ld1 (.t 125)⟩,
  ⟨some 127, none, none, false, .mov (.t 126)⟩,
  ⟨some 128, some (127, true), none, false, .fa 3 (.t 4)⟩,
  ⟨some 129, some (127, true), none, false, .ld1 (.t 128)⟩,
  ⟨some 130, some (127, true), none, false, .fa 4 (.t 4)⟩,
  ⟨some 131, some (127, true), none, false, .ld1 (.t 130)⟩,
  ⟨some 132, some (127, true), none, false, .bin .gtr 3 false (.t 129) (.t 131)⟩,
  ⟨some 133, none, none, false, .pick (.t 127) (.t 132) (.v (.bool false))⟩]) (.cond (.t 133) (.seq (.ops [⟨some 6, none, none, false, .mov (.v (.int .i64 11))⟩]) .ret) .skip)) (.seq (.seq (.ops [⟨some 134, none, none, false, .ixp 6 1 (.t 7) (.v (.int .i64 4))⟩,
  ⟨some 135, none, none, false, .ld1 (.t 134)⟩,
  ⟨some 136, none, none, false, .mov (.t 135)⟩,
  ⟨some 137, some (136, true), none, false, .fa 5 (.t 4)⟩,
  ⟨some 138, some (136, true), none, false, .ld1 (.t 137)⟩,
  ⟨some 139, some (136, true), none, false, .mov (.t 0)⟩,
  ⟨some 140, some (136, true), none, false, .call 96 [(.t 138), (.t 139)]⟩,
  ⟨some 141, none, none, false, .pick (.t 136) (.t 140) (.v (.bool false))⟩]) (.cond (.t 141) (.seq (.ops [⟨some 6, none, none, false, .mov (.v (.int .i64 1))⟩]) .ret) .skip)) (.seq (.seq (.ops [⟨some 142, none, none, false, .fa 0 (.t 4)⟩,
  ⟨some 143, none, none, false, .ld1 (.t 142)⟩,
  ⟨some 144, none, none, false, .bin .eql 9 true (.t 143) (.v (.str [110, 111, 116]))⟩,
  ⟨some 145, none, none, false, .mov (.t 144)⟩,
  ⟨some 146, some (145, true), none, false, .fa 6 (.t 4)⟩,
  ⟨some 147, some (145, true), none, false, .ld1 (.t 146)⟩,
  ⟨some 148, some (145, true), none, false, .lenL (.t 147)⟩,
  ⟨some 149, some (145, true), none, false, .bin .neq 3 true (.t 148) (.v (.int .i64 1))⟩,
  ⟨some 150, none, none, false, .pick (.t 145) (.t 149) (.v (.bool false))⟩]) (.cond (.t 150) (.seq (.ops [⟨some 6, none, none, false, .mov (.v (.int .i64 2))⟩]) .ret) .skip)) (.seq (.seq (.ops [⟨some 151, none, none, false, .ixp 6 1 (.t 7) (.v (.int .i64 5))⟩,
  ⟨some 152, none, none, false, .ld1 (.t 151)⟩,
  ⟨some 153, none, none, false, .mov (.t 152)⟩,
  ⟨some 154, some (153, true), none, false, .fa 6 (.t 4)⟩,
  ⟨some 155, some (153, true), none, false, .ld1 (.t 154)⟩,
  ⟨some 156, some (153, true), none, false, .lenL (.t 155)⟩,
  ⟨some 157, some (153, true), none, false, .bin .eql 3 true (.t 156) (.v (.int .i64 0))⟩,
  ⟨some 158, none, none, false, .pick (.t 153) (.t 157) (.v (.bool false))⟩]) (.cond (.t 158) (.seq (.ops [⟨some 6, none, none, false, .mov (.v (.int .i64 12))⟩]) .ret) .skip)) (.seq (.seq (.ops [⟨some 159, none, none, false, .ixp 6 1 (.t 7) (.v (.int .i64 5))⟩,
  ⟨some 160, none, none, false, .ld1 (.t 159)⟩,
  ⟨some 161, none, none, false, .mov (.t 160)⟩,
  ⟨some 162, some (161, true), none, false, .fa 6 (.t 4)⟩,
  ⟨some 163, some (161, true), none, false, .ld1 (.t 162)⟩,
  ⟨some 164, some (161, true), none, false, .lenL (.t 163)⟩,
  ⟨some 165, some (161, true), none, false, .bin .gtr 3 true (.t 164) (.v (.int .i64 8))⟩,
  ⟨some 166, none, none, false, .pick (.t 161) (.t 165) (.v (.bool false))⟩]) (.cond (.t 166) (.seq (.ops [⟨some 6, none, none, false, .mov (.v (.int .i64 5))⟩]) .ret) .skip)) (.seq (.seq (.ops [⟨some 9, none, none, false, .mov (.v (.int .i64 0))⟩]) (.block 0 (.loop r27_l0))) (.seq (.ops [⟨some 6, none, none, false, .mov (.v (.int .i64 0))⟩]) .ret)))))))))))))))
theorem k27 : fnRC 27 = some ([.tmp 6], r27) := by kernel_rfl

def r34_l0 : RC := (.seq (.seq (.ops [⟨some 21, none, none, false, .mov (.t 4)⟩,
  ⟨some 22, none, none, false, .fa 1 (.t 1)⟩,
  ⟨some 23, none, none, false, .ld1 (.t 22)⟩,
  ⟨some 24, none, none, false, .lenL (.t 23)⟩,
  ⟨some 25, none, none, false, .bin .lss 3 false (.t 21) (.t 24)⟩]) (.cond (.t 25) .skip (.exit 0))) (.seq (.block 1 (.seq (.ops [⟨some 28, none, none, false, .fa 1 (.t 1)⟩,
  ⟨some 29, none, none, false, .ld1 (.t 28)⟩,
  ⟨some 30, none, none, false, .mov (.t 4)⟩,
  ⟨some 31, none, none, false, .ixa 9 (.t 29) (.t 30)⟩,
  ⟨some 32, none, none, false, .ldn 9 (.t 31)⟩,
  ⟨some 5, none, none, false, .al [(.str []), (.int .i64 0), (.int .i64 0), (.int .i64 0), (.int .i64 0), (.str []), .nils, (.int .i64 0), (.int .i64 0)] 90⟩,
  ⟨none, none, none, false, .st 9 (.t 5) (.t 32)⟩]) (.seq (.seq (.ops [⟨some 33, none, none, false, .fa 0 (.t 1)⟩,
  ⟨some 34, none, none, false, .ld1 (.t 33)⟩,
  ⟨some 35, none, none, false, .fa 0 (.t 5)⟩,
  ⟨some 36, none, none, false, .ldn 7 (.t 35)⟩,
  ⟨some 37, none, none, false, .call 27 [(.t 34), (.t 36), (.v (.int .i64 1))]⟩,
  ⟨some 6, none, none, false, .mov (.t 37)⟩]) (.seq (.ops [⟨some 38, none, none, false, .mov (.t 6)⟩,
  ⟨some 39, none, none, false, .bin .neq 3 true (.t 38) (.v (.int .i64 0))⟩]) (.cond (.t 39) (.seq (.ops [⟨some 40, none, none, false, .mov (.t 6)⟩,
  ⟨some 2, none, none, false, .mov (.t 40)⟩]) .ret) .skip))) (.seq (.ops [⟨some 41, none, none, false, .fa 7 (.t 5)⟩,
  ⟨some 42, none, none, false, .ld1 (.t 41)⟩,
  ⟨some 43, none, none, false, .call 94 [(.t 42), (.v (.int .i64 1)), (.v (.int .i64 64))]⟩,
  ⟨some 44, none, none, false, .mov (.t 43)⟩,
  ⟨some 45, some (44, false), none, false, .fa 8 (.t 5)⟩,
  ⟨some 46, some (44, false), none, false, .ld1 (.t 45)⟩,
  ⟨some 47, some (44, false), none, false, .call 94 [(.t 46), (.v (.int .i64 0)), (.v (.int .i64 255))]⟩,
  ⟨some 48, none, none, false, .pick (.t 44) (.v (.bool true)) (.t 47)⟩,
  ⟨some 49, none, none, false, .mov (.t 48)⟩,
  ⟨some 50, some (49, false), none, false, .mov (.t 4)⟩,
  ⟨some 51, some (49, false), none, false, .bin .eql 3 true (.t 50) (.v (.int .i64 0))⟩,
  ⟨some 52, some (49, false), none, false, .mov (.t 51)⟩,
  ⟨some 53, some (52, true), none, false, .fa 8 (.t 5)⟩,
  ⟨some 54, some (52, true), none, false, .ld1 (.t 53)⟩,
  ⟨some 55, some (52, true), none, false, .bin .neq 3 true (.t 54) (.v (.int .i64 0))⟩,
  ⟨some 56, some (49, false), none, false, .pick (.t 52) (.t 55) (.v (.bool false))⟩,
  ⟨some 57, none, none, false, .pick (.t 49) (.v (.bool true)) (.t 56)⟩]) (.cond (.t 57) (.seq (.ops [⟨some 2, none, none, false, .mov (.v (.int .i64 3))⟩]) .ret) .skip))))) (.ops [⟨some 26, none, none, false, .mov (.t 4)⟩,
  ⟨some 27, none, none, false, .bin .add 3 true (.t 26) (.v (.int .i64 1))⟩,
  ⟨some 4, none, none, false, .mov (.t 27)⟩])))
/-- strobe/stroberef04.CheckProgram; results .tmp 2 -/
def r34 : RC := (.seq (.ops [⟨some 1, none, none, false, .box 31 (.t 0)⟩,
  ⟨some 2, none, none, false, .mov (.v (.int .i64 0))⟩]) (.seq (.seq (.ops [⟨some 7, none, none, false, .fa 0 (.t 1)⟩,
  ⟨some 8, none, none, false, .ld1 (.t 7)⟩,
  ⟨some 9, none, none, false, .call 26 [(.t 8)]⟩,
  ⟨some 3, none, none, false, .mov (.t 9)⟩]) (.seq (.ops [⟨some 10, none, none, false, .mov (.t 3)⟩,
  ⟨some 11, none, none, false, .bin .neq 3 true (.t 10) (.v (.int .i64 0))⟩]) (.cond (.t 11) (.seq (.ops [⟨some 12, none, none, false, .mov (.t 3)⟩,
  ⟨some 2, none, none, false, .mov (.t 12)⟩]) .ret) .skip))) (.seq (.seq (.ops [⟨some 13, none, none, false, .fa 1 (.t 1)⟩,
  ⟨some 14, none, none, false, .ld1 (.t 13)⟩,
  ⟨some 15, none, none, false, .lenL (.t 14)⟩,
  ⟨some 16, none, none, false, .bin .eql 3 true (.t 15) (.v (.int .i64 0))⟩]) (.cond (.t 16) (.seq (.ops [⟨some 2, none, none, false, .mov (.v (.int .i64 12))⟩]) .ret) .skip)) (.seq (.seq (.ops [⟨some 17, none, none, false, .fa 1 (.t 1)⟩,
  ⟨some 18, none, none, false, .ld1 (.t 17)⟩,
  ⟨some 19, none, none, false, .lenL (.t 18)⟩,
  ⟨some 20, none, none, false, .bin .gtr 3 true (.t 19) (.v (.int .i64 8))⟩]) (.cond (.t 20) (.seq (.ops [⟨some 2, none, none, false, .mov (.v (.int .i64 5))⟩]) .ret) .skip)) (.seq (.seq (.ops [⟨some 4, none, none, false, .mov (.v (.int .i64 0))⟩]) (.block 0 (.loop r34_l0))) (.seq (.ops [⟨some 2, none, none, false, .mov (.v (.int .i64 0))⟩]) .ret))))))
theorem k34 : fnRC 34 = some ([.tmp 2], r34) := by kernel_rfl

/-- strobe/trigger.when; results .tmp 4 -/
def r116 : RC := (.seq (.ops [⟨some 4, none, none, false, .mov (.v (.int .i64 0))⟩]) (.seq (.seq (.ops [⟨some 5, none, none, false, .mov (.t 0)⟩]) (.cond (.t 5) (.seq (.ops [⟨some 6, none, none, false, .mov (.t 1)⟩,
  ⟨some 4, none, none, false, .mov (.t 6)⟩]) .ret) .skip)) (.seq (.ops [⟨some 4, none, none, false, .mov (.v (.int .i64 0))⟩]) .ret)))
theorem k116 : fnRC 116 = some ([.tmp 4], r116) := by kernel_rfl

/-- strobe/trigger.within; results .tmp 6 -/
def r124 : RC := (.seq (.ops [⟨some 6, none, none, false, .mov (.v (.int .i64 0))⟩]) (.seq (.ops [⟨some 7, none, none, false, .mov (.t 0)⟩,
  ⟨some 8, none, none, false, .mov (.t 1)⟩,
  ⟨some 9, none, none, false, .bin .lss 3 false (.t 7) (.t 8)⟩,
  ⟨some 10, none, none, false, .mov (.t 9)⟩,
  ⟨some 11, some (10, false), none, false, .mov (.t 0)⟩,
  ⟨some 12, some (10, false), none, false, .mov (.t 2)⟩,
  ⟨some 13, some (10, false), none, false, .bin .gtr 3 false (.t 11) (.t 12)⟩,
  ⟨some 14, none, none, false, .pick (.t 10) (.v (.bool true)) (.t 13)⟩,
  ⟨some 15, none, none, false, .call 116 [(.t 14), (.v (.int .i64 3))]⟩,
  ⟨some 6, none, none, false, .mov (.t 15)⟩]) .ret))
theorem k124 : fnRC 124 = some ([.tmp 6], r124) := by kernel_rfl

/-- strobe/trigger.checkLines; results .tmp 2 -/
def r88 : RC := (.seq (.ops [⟨some 2, none, none, false, .mov (.v (.int .i64 0))⟩]) (.seq (.ops [⟨some 3, none, none, false, .mov (.t 0)⟩,
  ⟨some 4, none, none, false, .call 124 [(.t 3), (.v (.int .i64 1)), (.v (.int .i64 16))]⟩,
  ⟨some 2, none, none, false, .mov (.t 4)⟩]) .ret))
theorem k88 : fnRC 88 = some ([.tmp 2], r88) := by kernel_rfl

def r89_l0 : RC := (.seq (.ops [⟨some 8, none, none, false, .bin .lss 3 false (.t 7) (.t 6)⟩]) (.seq (.cond (.t 8) .skip (.exit 0)) (.seq (.block 1 (.seq (.ops [⟨some 9, none, none, false, .ixa 1 (.t 5) (.t 7)⟩,
  ⟨some 10, none, none, false, .ld1 (.t 9)⟩,
  ⟨some 4, none, none, false, .mov (.t 10)⟩]) (.seq (.ops [⟨some 11, none, none, false, .mov (.t 4)⟩,
  ⟨some 12, none, none, false, .bin .neq 26 true (.t 11) (.v (.int .i64 0))⟩]) (.cond (.t 12) (.seq (.ops [⟨some 13, none, none, false, .mov (.t 4)⟩,
  ⟨some 2, none, none, false, .mov (.t 13)⟩]) .ret) .skip)))) (.ops [⟨some 14, none, none, false, .bin .add 3 true (.t 7) (.v (.int .i64 1))⟩,
  ⟨some 7, none, none, false, .mov (.t 14)⟩]))))
/-- strobe/trigger.first; results .tmp 2 -/
def r89 : RC := (.seq (.ops [⟨some 2, none, none, false, .mov (.v (.int .i64 0))⟩]) (.seq (.seq (.ops [⟨some 5, none, none, false, .mov (.t 0)⟩,
  ⟨some 6, none, none, false, .lenL (.t 5)⟩,
  ⟨some 7, none, none, false, .mov (.v (.int .i64 0))⟩]) (.block 0 (.loop r89_l0))) (.seq (.ops [⟨some 2, none, none, false, .mov (.v (.int .i64 0))⟩]) .ret)))
theorem k89 : fnRC 89 = some ([.tmp 2], r89) := by kernel_rfl

/-- (strobe/trigger.kind).unused; results .tmp 4 -/
def r157 : RC := (.seq (.ops [⟨some 2, none, none, false, .box 236 (.t 0)⟩,
  ⟨some 3, none, none, false, .box 48 (.t 1)⟩,
  ⟨some 4, none, none, false, .mov (.v (.bool false))⟩]) (.seq (.ops [⟨some 5, none, none, false, .fa 0 (.t 2)⟩,
  ⟨some 6, none, none, false, .ld1 (.t 5)⟩,
  ⟨some 7, none, none, false, .un .not (.t 6)⟩,
  ⟨some 8, none, none, false, .mov (.t 7)⟩,
  ⟨some 9, some (8, true), none, false, .fa 1 (.t 3)⟩,
  ⟨some 10, some (8, true), none, false, .ld1 (.t 9)⟩,
  ⟨some 11, some (8, true), none, false, .bin .neq 3 true (.t 10) (.v (.int .i64 0))⟩,
  ⟨some 12, none, none, false, .pick (.t 8) (.t 11) (.v (.bool false))⟩,
  ⟨some 13, none, none, false, .mov (.t 12)⟩,
  ⟨some 14, some (13, false), none, false, .fa 1 (.t 2)⟩,
  ⟨some 15, some (13, false), none, false, .ld1 (.t 14)⟩,
  ⟨some 16, some (13, false), none, false, .un .not (.t 15)⟩,
  ⟨some 17, some (13, false), none, false, .mov (.t 16)⟩,
  ⟨some 18, some (17, true), none, false, .fa 2 (.t 3)⟩,
  ⟨some 19, some (17, true), none, false, .ld1 (.t 18)⟩,
  ⟨some 20, some (17, true), none, false, .bin .neq 3 true (.t 19) (.v (.int .i64 0))⟩,
  ⟨some 21, some (13, false), none, false, .pick (.t 17) (.t 20) (.v (.bool false))⟩,
  ⟨some 22, none, none, false, .pick (.t 13) (.v (.bool true)) (.t 21)⟩,
  ⟨some 23, none, none, false, .mov (.t 22)⟩,
  ⟨some 24, some (23, false), none, false, .fa 2 (.t 2)⟩,
  ⟨some 25, some (23, false), none, false, .ld1 (.t 24)⟩,
  ⟨some 26, some (23, false), none, false, .un .not (.t 25)⟩,
  ⟨some 27, some (23, false), none, false, .mov (.t 26)⟩,
  ⟨some 28, some (27, true), none, false, .fa 3 (.t 3)⟩,
  ⟨some 29, some (27, true), none, false, .ld1 (.t 28)⟩,
  ⟨some 30, some (27, true), none, false, .bin .neq 3 true (.t 29) (.v (.int .i64 0))⟩,
  ⟨some 31, some (23, false), none, false, .pick (.t 27) (.t 30) (.v (.bool false))⟩,
  ⟨some 32, none, none, false, .pick (.t 23) (.v (.bool true)) (.t 31)⟩,
  ⟨some 33, none, none, false, .mov (.t 32)⟩,
  ⟨some 34, some (33, false), none, false, .fa 3 (.t 2)⟩,
  ⟨some 35, some (33, false), none, false, .ld1 (.t 34)⟩,
  ⟨some 36, some (33, false), none, false, .un .not (.t 35)⟩,
  ⟨some 37, some (33, false), none, false, .mov (.t 36)⟩,
  ⟨some 38, some (37, true), none, false, .fa 4 (.t 3)⟩,
  ⟨some 39, some (37, true), none, false, .ld1 (.t 38)⟩,
  ⟨some 40, some (37, true), none, false, .bin .neq 3 true (.t 39) (.v (.int .i64 0))⟩,
  ⟨some 41, some (33, false), none, false, .pick (.t 37) (.t 40) (.v (.bool false))⟩,
  ⟨some 42, none, none, false, .pick (.t 33) (.v (.bool true)) (.t 41)⟩,
  ⟨some 43, none, none, false, .mov (.t 42)⟩,
  ⟨some 44, some (43, false), none, false, .fa 4 (.t 2)⟩,
  ⟨some 45, some (43, false), none, false, .ld1 (.t 44)⟩,
  ⟨some 46, some (43, false), none, false, .un .not (.t 45)⟩,
  ⟨some 47, some (43, false), none, false, .mov (.t 46)⟩,
  ⟨some 48, some (47, true), none, false, .fa 5 (.t 3)⟩,
  ⟨some 49, some (47, true), none, false, .ld1 (.t 48)⟩,
  ⟨some 50, some (47, true), none, false, .bin .neq 9 true (.t 49) (.v (.str []))⟩,
  ⟨some 51, some (43, false), none, false, .pick (.t 47) (.t 50) (.v (.bool false))⟩,
  ⟨some 52, none, none, false, .pick (.t 43) (.v (.bool true)) (.t 51)⟩,
  ⟨some 53, none, none, false, .mov (.t 52)⟩,
  ⟨some 54, some (53, false), none, false, .fa 5 (.t 2)⟩,
  ⟨some 55, some (53, false), none, false, .ld1 (.t 54)⟩,
  ⟨some 56, some (53, false), none, false, .un .not (.t 55)⟩,
  ⟨some 57, some (53, false), none, false, .mov (.t 56)⟩,
  ⟨some 58, some (57, true), none, false, .fa 6 (.t 3)⟩,
  ⟨some 59, some (57, true), none, false, .ld1 (.t 58)⟩,
  ⟨some 60, some (57, true), none, false, .lenL (.t 59)⟩,
  ⟨some 61, some (57, true), none, false, .bin .gtr 3 true (.t 60) (.v (.int .i64 0))⟩,
  ⟨some 62, some (53, false), none, false, .pick (.t 57) (.t 61) (.v (.bool false))⟩,
  ⟨some 63, none, none, false, .pick (.t 53) (.v (.bool true)) (.t 62)⟩,
  ⟨some 4, none, none, false, .mov (.t 63)⟩]) .ret))
theorem k157 : fnRC 157 = some ([.tmp 4], r157) := by kernel_rfl

/-- strobe/trigger.checkPattern; results .tmp 4 -/
def r158 : RC := (.seq (.ops [⟨some 4, none, none, false, .mov (.v (.int .i64 0))⟩]) (.seq (.ops [⟨some 5, none, none, false, .mov (.t 1)⟩,
  ⟨some 6, none, none, false, .lenS (.t 5)⟩,
  ⟨some 7, none, none, false, .mov (.t 0)⟩,
  ⟨some 8, none, none, false, .bin .neq 3 false (.t 6) (.t 7)⟩,
  ⟨some 9, none, none, false, .mov (.t 8)⟩,
  ⟨some 10, some (9, false), none, false, .mov (.t 1)⟩,
  ⟨some 11, some (9, false), none, false, .call 212 [(.t 10), (.v (.str [48, 49, 120]))]⟩,
  ⟨some 12, some (9, false), none, false, .bin .neq 9 true (.t 11) (.v (.str []))⟩,
  ⟨some 13, none, none, false, .pick (.t 9) (.v (.bool true)) (.t 12)⟩,
  ⟨some 14, none, none, false, .call 116 [(.t 13), (.v (.int .i64 1))]⟩,
  ⟨some 4, none, none, false, .mov (.t 14)⟩]) .ret))
theorem k158 : fnRC 158 = some ([.tmp 4], r158) := by kernel_rfl

def r90_l0 : RC := (.seq (.ops [⟨some 144, none, none, false, .bin .lss 3 false (.t 143) (.t 142)⟩]) (.seq (.cond (.t 144) .skip (.exit 0)) (.seq (.block 1 (.seq (.ops [⟨some 145, none, none, false, .ixa 7 (.t 141) (.t 143)⟩,
  ⟨some 146, none, none, false, .ldn 7 (.t 145)⟩,
  ⟨some 12, none, none, false, .al [(.str []), (.int .i64 0), (.int .i64 0), (.int .i64 0), (.int .i64 0), (.str []), .nils] 48⟩,
  ⟨none, none, none, false, .st 7 (.t 12) (.t 146)⟩]) (.seq (.ops [⟨some 147, none, none, false, .mov (.t 10)⟩,
  ⟨some 148, none, none, false, .bin .eql 26 true (.t 147) (.v (.int .i64 0))⟩]) (.cond (.t 148) (.ops [⟨some 149, none, none, false, .mov (.t 0)⟩,
  ⟨some 150, none, none, false, .ldn 7 (.t 12)⟩,
  ⟨some 151, none, none, false, .mov (.t 2)⟩,
  ⟨some 152, none, none, false, .bin .add 3 true (.t 151) (.v (.int .i64 1))⟩,
  ⟨some 153, none, none, false, .call 90 [(.t 149), (.t 150), (.t 152)]⟩,
  ⟨some 10, none, none, false, .mov (.t 153)⟩]) .skip)))) (.ops [⟨some 154, none, none, false, .bin .add 3 true (.t 143) (.v (.int .i64 1))⟩,
  ⟨some 143, none, none, false, .mov (.t 154)⟩]))))
/-- strobe/trigger.checkCond; results .tmp 6 -/
def r90 : RC := (.seq (.ops [⟨some 4, none, none, false, .box 48 (.t 1)⟩,
  ⟨some 6, none, none, false, .mov (.v (.int .i64 0))⟩]) (.seq (.drw 10 [⟨some 14, none, none, false, .call 156 []⟩,
  ⟨some 15, none, none, false, .fa 0 (.t 4)⟩,
  ⟨some 16, none, none, false, .ld1 (.t 15)⟩,
  ⟨some 17, none, none, false, .raw (.lookup 238 (.tmp 14) (.tmp 16) true)⟩,
  ⟨some 13, none, none, false, .mov (.t 17)⟩,
  ⟨some 18, none, none, false, .ext (.t 13) 0⟩,
  ⟨some 19, none, none, false, .ext (.t 13) 1⟩,
  ⟨some 7, none, some 7, false, .al [(.bool false), (.bool false), (.bool false), (.bool false), (.bool false), (.bool false), .nilfn, .nilfn, .nilfn] 236⟩,
  ⟨none, none, none, true, .st 9 (.t 7) (.t 18)⟩,
  ⟨some 8, none, none, false, .mov (.t 19)⟩]) (.seq (.seq (.ops [⟨some 20, none, none, false, .mov (.t 2)⟩,
  ⟨some 21, none, none, false, .bin .gtr 3 true (.t 20) (.v (.int .i64 4))⟩,
  ⟨some 22, none, none, false, .call 116 [(.t 21), (.v (.int .i64 5))]⟩,
  ⟨some 23, none, none, false, .mov (.t 8)⟩,
  ⟨some 24, none, none, false, .un .not (.t 23)⟩,
  ⟨some 25, none, none, false, .call 116 [(.t 24), (.v (.int .i64 13))]⟩,
  ⟨some 26, none, none, false, .bsl 26 1 2 [(.int .i64 0), (.int .i64 0)] [(0, 1, (.t 22)), (1, 1, (.t 25))]⟩,
  ⟨some 27, none, none, false, .call 89 [(.t 26)]⟩,
  ⟨some 9, none, none, false, .mov (.t 27)⟩]) (.seq (.ops [⟨some 28, none, none, false, .mov (.t 9)⟩,
  ⟨some 29, none, none, false, .bin .neq 26 true (.t 28) (.v (.int .i64 0))⟩]) (.cond (.t 29) (.seq (.ops [⟨some 30, none, none, false, .mov (.t 9)⟩,
  ⟨some 6, none, none, false, .mov (.t 30)⟩]) .ret) .skip))) (.seq (.drw 73 [⟨some 31, none, none, false, .ldn 9 (.t 7)⟩,
  ⟨some 32, none, none, false, .ldn 7 (.t 4)⟩,
  ⟨some 33, none, none, false, .call 157 [(.t 31), (.t 32)]⟩,
  ⟨some 34, none, none, false, .call 116 [(.t 33), (.v (.int .i64 2))]⟩,
  ⟨some 35, none, none, false, .fa 0 (.t 7)⟩,
  ⟨some 36, none, none, false, .ld1 (.t 35)⟩,
  ⟨some 37, none, none, false, .mov (.t 36)⟩,
  ⟨some 38, some (37, true), none, false, .fa 1 (.t 4)⟩,
  ⟨some 39, some (37, true), none, false, .ld1 (.t 38)⟩,
  ⟨some 40, some (37, true), none, false, .bin .lss 3 true (.t 39) (.v (.int .i64 0))⟩,
  ⟨some 41, some (37, true), none, false, .mov (.t 40)⟩,
  ⟨some 42, some (41, false), none, false, .fa 1 (.t 4)⟩,
  ⟨some 43, some (41, false), none, false, .ld1 (.t 42)⟩,
  ⟨some 44, some (41, false), none, false, .mov (.t 0)⟩,
  ⟨some 45, some (41, false), none, false, .bin .geq 3 false (.t 43) (.t 44)⟩,
  ⟨some 46, some (37, true), none, false, .pick (.t 41) (.v (.bool true)) (.t 45)⟩,
  ⟨some 47, none, none, false, .pick (.t 37) (.t 46) (.v (.bool false))⟩,
  ⟨some 48, none, none, false, .call 116 [(.t 47), (.v (.int .i64 3))]⟩,
  ⟨some 49, none, none, false, .fa 1 (.t 7)⟩,
  ⟨some 50, none, none, false, .ld1 (.t 49)⟩,
  ⟨some 51, none, none, false, .mov (.t 50)⟩,
  ⟨some 52, some (51, true), none, false, .fa 2 (.t 4)⟩,
  ⟨some 53, some (51, true), none, false, .ld1 (.t 52)⟩,
  ⟨some 54, some (51, true), none, false, .bin .lss 3 true (.t 53) (.v (.int .i64 0))⟩,
  ⟨some 55, some (51, true), none, false, .mov (.t 54)⟩,
  ⟨some 56, some (55, false), none, false, .fa 2 (.t 4)⟩,
  ⟨some 57, some (55, false), none, false, .ld1 (.t 56)⟩,
  ⟨some 58, some (55, false), none, false, .mov (.t 0)⟩,
  ⟨some 59, some (55, false), none, false, .bin .geq 3 false (.t 57) (.t 58)⟩,
  ⟨some 60, some (51, true), none, false, .pick (.t 55) (.v (.bool true)) (.t 59)⟩,
  ⟨some 61, none, none, false, .pick (.t 51) (.t 60) (.v (.bool false))⟩,
  ⟨some 62, none, none, false, .call 116 [(.t 61), (.v (.int .i64 3))]⟩,
  ⟨some 63, none, none, false, .fa 1 (.t 7)⟩,
  ⟨some 64, none, none, false, .ld1 (.t 63)⟩,
  ⟨some 65, none, none, false, .mov (.t 64)⟩,
  ⟨some 66, some (65, true), none, false, .fa 1 (.t 4)⟩,
  ⟨some 67, some (65, true), none, false, .ld1 (.t 66)⟩,
  ⟨some 68, some (65, true), none, false, .fa 2 (.t 4)⟩,
  ⟨some 69, some (65, true), none, false, .ld1 (.t 68)⟩,
  ⟨some 70, some (65, true), none, false, .bin .eql 3 false (.t 67) (.t 69)⟩,
  ⟨some 71, none, none, false, .pick (.t 65) (.t 70) (.v (.bool false))⟩,
  ⟨some 72, none, none, false, .call 116 [(.t 71), (.v (.int .i64 9))]⟩,
  ⟨some 73, none, none, false, .fa 2 (.t 7)⟩,
  ⟨some 74, none, none, false, .ld1 (.t 73)⟩,
  ⟨some 75, none, none, false, .mov (.t 74)⟩,
  ⟨some 76, some (75, true), none, false, .fa 3 (.t 4)⟩,
  ⟨some 77, some (75, true), none, false, .ld1 (.t 76)⟩,
  ⟨some 78, some (75, true), none, false, .call 124 [(.t 77), (.v (.int .i64 1)), (.v (.int .i64 255))]⟩,
  ⟨some 79, some (75, true), none, false, .bin .neq 26 true (.t 78) (.v (.int .i64 0))⟩,
  ⟨some 80, none, none, false, .pick (.t 75) (.t 79) (.v (.bool false))⟩,
  ⟨some 81, none, none, false, .call 116 [(.t 80), (.v (.int .i64 3))]⟩,
  ⟨some 82, none, none, false, .fa 3 (.t 7)⟩,
  ⟨some 83, none, none, false, .ld1 (.t 82)⟩,
  ⟨some 84, none, none, false, .mov (.t 83)⟩,
  ⟨some 85, some (84, true), none, false, .fa 4 (.t 4)⟩,
  ⟨some 86, some (84, true), none, false, .ld1 (.t 85)⟩,
  ⟨some 87, some (84, true), none, false, .call 124 [(.t 86), (.v (.int .i64 1)), (.v (.int .i64 255))]⟩,
  ⟨some 88, some (84, true), none, false, .bin .neq 26 true (.t 87) (.v (.int .i64 0))⟩,
  ⟨some 89, none, none, false, .pick (.t 84) (.t 88) (.v (.bool false))⟩,
  ⟨some 90, none, none, false, .call 116 [(.t 89), (.v (.int .i64 3))]⟩,
  ⟨some 91, none, none, false, .fa 3 (.t 7)⟩,
  ⟨some 92, none, none, false, .ld1 (.t 91)⟩,
  ⟨some 93, none, none, false, .mov (.t 92)⟩,
  ⟨some 94, some (93, true), none, false, .fa 3 (.t 4)⟩,
  ⟨some 95, some (93, true), none, false, .ld1 (.t 94)⟩,
  ⟨some 96, some (93, true), none, false, .fa 4 (.t 4)⟩,
  ⟨some 97, some (93, true), none, false, .ld1 (.t 96)⟩,
  ⟨some 98, some (93, true), none, false, .bin .gtr 3 false (.t 95) (.t 97)⟩,
  ⟨some 99, none, none, false, .pick (.t 93) (.t 98) (.v (.bool false))⟩,
  ⟨some 100, none, none, false, .call 116 [(.t 99), (.v (.int .i64 11))]⟩,
  ⟨some 101, none, some 70, false, .bsl 26 1 7 [(.int .i64 0), (.int .i64 0), (.int .i64 0), (.int .i64 0), (.int .i64 0), (.int .i64 0), (.int .i64 0)] [(0, 1, (.t 34)), (1, 1, (.t 48)), (2, 1, (.t 62)), (3, 1, (.t 72)), (4, 1, (.t 81)), (5, 1, (.t 90)), (6, 1, (.t 100))]⟩,
  ⟨some 102, none, none, false, .call 89 [(.t 101)]⟩,
  ⟨some 10, none, none, false, .mov (.t 102)⟩]) (.seq (.seq (.ops [⟨some 103, none, none, false, .fa 4 (.t 7)⟩,
  ⟨some 104, none, none, false, .ld1 (.t 103)⟩]) (.cond (.t 104) (.ops [⟨some 105, none, none, false, .mov (.t 10)⟩,
  ⟨some 106, none, none, false, .mov (.t 0)⟩,
  ⟨some 107, none, none, false, .fa 5 (.t 4)⟩,
  ⟨some 108, none, none, false, .ld1 (.t 107)⟩,
  ⟨some 109, none, none, false, .call 158 [(.t 106), (.t 108)]⟩,
  ⟨some 110, none, none, false, .bsl 26 1 2 [(.int .i64 0), (.int .i64 0)] [(0, 1, (.t 105)), (1, 1, (.t 109))]⟩,
  ⟨some 111, none, none, false, .call 89 [(.t 110)]⟩,
  ⟨some 10, none, none, false, .mov (.t 111)⟩]) .skip)) (.seq (.seq (.ops [⟨some 112, none, none, false, .mov (.t 10)⟩,
  ⟨some 113, none, none, false, .bin .neq 26 true (.t 112) (.v (.int .i64 0))⟩,
  ⟨some 114, none, none, false, .mov (.t 113)⟩,
  ⟨some 115, some (114, false), none, false, .fa 5 (.t 7)⟩,
  ⟨some 116, some (114, false), none, false, .ld1 (.t 115)⟩,
  ⟨some 117, some (114, false), none, false, .un .not (.t 116)⟩,
  ⟨some 118, none, none, false, .pick (.t 114) (.v (.bool true)) (.t 117)⟩]) (.cond (.t 118) (.seq (.ops [⟨some 119, none, none, false, .mov (.t 10)⟩,
  ⟨some 6, none, none, false, .mov (.t 119)⟩]) .ret) .skip)) (.seq (.seq (.ops [⟨some 120, none, none, false, .fa 0 (.t 4)⟩,
  ⟨some 121, none, none, false, .ld1 (.t 120)⟩,
  ⟨some 122, none, none, false, .bin .eql 9 true (.t 121) (.v (.str [110, 111, 116]))⟩]) (.cond (.t 122) (.ops [⟨some 123, none, none, false, .fa 6 (.t 4)⟩,
  ⟨some 124, none, none, false, .ld1 (.t 123)⟩,
  ⟨some 125, none, none, false, .lenL (.t 124)⟩,
  ⟨some 126, none, none, false, .bin .neq 3 true (.t 125) (.v (.int .i64 1))⟩,
  ⟨some 127, none, none, false, .call 116 [(.t 126), (.v (.int .i64 2))]⟩,
  ⟨some 10, none, none, false, .mov (.t 127)⟩]) (.drw 13 [⟨some 128, none, none, false, .fa 6 (.t 4)⟩,
  ⟨some 129, none, none, false, .ld1 (.t 128)⟩,
  ⟨some 130, none, none, false, .lenL (.t 129)⟩,
  ⟨some 131, none, none, false, .bin .eql 3 true (.t 130) (.v (.int .i64 0))⟩,
  ⟨some 132, none, none, false, .call 116 [(.t 131), (.v (.int .i64 12))]⟩,
  ⟨some 133, none, none, false, .fa 6 (.t 4)⟩,
  ⟨some 134, none, none, false, .ld1 (.t 133)⟩,
  ⟨some 135, none, none, false, .lenL (.t 134)⟩,
  ⟨some 136, none, none, false, .bin .gtr 3 true (.t 135) (.v (.int .i64 8))⟩,
  ⟨some 137, none, none, false, .call 116 [(.t 136), (.v (.int .i64 5))]⟩,
  ⟨some 138, none, some 10, false, .bsl 26 1 2 [(.int .i64 0), (.int .i64 0)] [(0, 1, (.t 132)), (1, 1, (.t 137))]⟩,
  ⟨some 139, none, none, false, .call 89 [(.t 138)]⟩,
  ⟨some 10, none, none, false, .mov (.t 139)⟩]))) (.seq (.seq (.ops [⟨some 140, none, none, false, .fa 6 (.t 4)⟩,
  ⟨some 141, none, none, false, .ld1 (.t 140)⟩,
  ⟨some 142, none, none, false, .lenL (.t 141)⟩,
  ⟨some 143, none, none, false, .mov (.v (.int .i64 0))⟩]) (.block 0 (.loop r90_l0))) (.seq (.ops [⟨some 155, none, none, false, .mov (.t 10)⟩,
  ⟨some 6, none, none, false, .mov (.t 155)⟩]) .ret)))))))))
theorem k90 : fnRC 90 = some ([.tmp 6], r90) := by kernel_rfl

def r64_l0 : RC := (.seq (.ops [⟨some 29, none, none, false, .bin .lss 3 false (.t 28) (.t 27)⟩]) (.seq (.cond (.t 29) .skip (.exit 0)) (.seq (.block 1 (.seq (.ops [⟨some 30, none, none, false, .mov (.t 28)⟩,
  ⟨some 31, none, none, false, .ixa 9 (.t 26) (.t 28)⟩,
  ⟨some 32, none, none, false, .ldn 9 (.t 31)⟩,
  ⟨some 5, none, none, false, .al [(.str []), (.int .i64 0), (.int .i64 0), (.int .i64 0), (.int .i64 0), (.str []), .nils, (.int .i64 0), (.int .i64 0)] 144⟩,
  ⟨some 4, none, none, false, .mov (.t 30)⟩,
  ⟨none, none, none, false, .st 9 (.t 5) (.t 32)⟩]) (.seq (.drw 22 [⟨some 33, none, none, false, .fa 0 (.t 1)⟩,
  ⟨some 34, none, none, false, .ld1 (.t 33)⟩,
  ⟨some 35, none, none, false, .fa 0 (.t 5)⟩,
  ⟨some 36, none, none, false, .ldn 7 (.t 35)⟩,
  ⟨some 37, none, none, false, .call 90 [(.t 34), (.t 36), (.v (.int .i64 1))]⟩,
  ⟨some 38, none, none, false, .fa 7 (.t 5)⟩,
  ⟨some 39, none, none, false, .ld1 (.t 38)⟩,
  ⟨some 40, none, none, false, .call 124 [(.t 39), (.v (.int .i64 1)), (.v (.int .i64 64))]⟩,
  ⟨some 41, none, none, false, .fa 8 (.t 5)⟩,
  ⟨some 42, none, none, false, .ld1 (.t 41)⟩,
  ⟨some 43, none, none, false, .call 124 [(.t 42), (.v (.int .i64 0)), (.v (.int .i64 255))]⟩,
  ⟨some 44, none, none, false, .mov (.t 4)⟩,
  ⟨some 45, none, none, false, .bin .eql 3 true (.t 44) (.v (.int .i64 0))⟩,
  ⟨some 46, none, none, false, .mov (.t 45)⟩,
  ⟨some 47, some (46, true), none, false, .fa 8 (.t 5)⟩,
  ⟨some 48, some (46, true), none, false, .ld1 (.t 47)⟩,
  ⟨some 49, some (46, true), none, false, .bin .neq 3 true (.t 48) (.v (.int .i64 0))⟩,
  ⟨some 50, none, none, false, .pick (.t 46) (.t 49) (.v (.bool false))⟩,
  ⟨some 51, none, none, false, .call 116 [(.t 50), (.v (.int .i64 3))]⟩,
  ⟨some 52, none, some 19, false, .bsl 26 1 4 [(.int .i64 0), (.int .i64 0), (.int .i64 0), (.int .i64 0)] [(0, 1, (.t 37)), (1, 1, (.t 40)), (2, 1, (.t 43)), (3, 1, (.t 51))]⟩,
  ⟨some 53, none, none, false, .call 89 [(.t 52)]⟩,
  ⟨some 6, none, none, false, .mov (.t 53)⟩]) (.seq (.ops [⟨some 54, none, none, false, .mov (.t 6)⟩,
  ⟨some 55, none, none, false, .bin .neq 26 true (.t 54) (.v (.int .i64 0))⟩]) (.cond (.t 55) (.seq (.ops [⟨some 56, none, none, false, .mov (.t 6)⟩,
  ⟨some 2, none, none, false, .mov (.t 56)⟩]) .ret) .skip))))) (.ops [⟨some 57, none, none, false, .bin .add 3 true (.t 28) (.v (.int .i64 1))⟩,
  ⟨some 28, none, none, false, .mov (.t 57)⟩]))))
/-- strobe/trigger.CheckProgram; results .tmp 2 -/
def r64 : RC := (.seq (.ops [⟨some 1, none, none, false, .box 25 (.t 0)⟩,
  ⟨some 2, none, none, false, .mov (.v (.int .i64 0))⟩]) (.seq (.seq (.drw 16 [⟨some 7, none, none, false, .fa 0 (.t 1)⟩,
  ⟨some 8, none, none, false, .ld1 (.t 7)⟩,
  ⟨some 9, none, none, false, .call 88 [(.t 8)]⟩,
  ⟨some 10, none, none, false, .fa 1 (.t 1)⟩,
  ⟨some 11, none, none, false, .ld1 (.t 10)⟩,
  ⟨some 12, none, none, false, .lenL (.t 11)⟩,
  ⟨some 13, none, none, false, .bin .eql 3 true (.t 12) (.v (.int .i64 0))⟩,
  ⟨some 14, none, none, false, .call 116 [(.t 13), (.v (.int .i64 12))]⟩,
  ⟨some 15, none, none, false, .fa 1 (.t 1)⟩,
  ⟨some 16, none, none, false, .ld1 (.t 15)⟩,
  ⟨some 17, none, none, false, .lenL (.t 16)⟩,
  ⟨some 18, none, none, false, .bin .gtr 3 true (.t 17) (.v (.int .i64 8))⟩,
  ⟨some 19, none, none, false, .call 116 [(.t 18), (.v (.int .i64 5))]⟩,
  ⟨some 20, none, some 13, false, .bsl 26 1 3 [(.int .i64 0), (.int .i64 0), (.int .i64 0)] [(0, 1, (.t 9)), (1, 1, (.t 14)), (2, 1, (.t 19))]⟩,
  ⟨some 21, none, none, false, .call 89 [(.t 20)]⟩,
  ⟨some 3, none, none, false, .mov (.t 21)⟩]) (.seq (.ops [⟨some 22, none, none, false, .mov (.t 3)⟩,
  ⟨some 23, none, none, false, .bin .neq 26 true (.t 22) (.v (.int .i64 0))⟩]) (.cond (.t 23) (.seq (.ops [⟨some 24, none, none, false, .mov (.t 3)⟩,
  ⟨some 2, none, none, false, .mov (.t 24)⟩]) .ret) .skip))) (.seq (.seq (.ops [⟨some 25, none, none, false, .fa 1 (.t 1)⟩,
  ⟨some 26, none, none, false, .ld1 (.t 25)⟩,
  ⟨some 27, none, none, false, .lenL (.t 26)⟩,
  ⟨some 28, none, none, false, .mov (.v (.int .i64 0))⟩]) (.block 0 (.loop r64_l0))) (.seq (.ops [⟨some 2, none, none, false, .mov (.v (.int .i64 0))⟩]) .ret))))
theorem k64 : fnRC 64 = some ([.tmp 2], r64) := by kernel_rfl

def r86_l0 : RC := (.seq (.seq (.ops [⟨some 26, none, none, false, .mov (.t 5)⟩,
  ⟨some 27, none, none, false, .fa 6 (.t 2)⟩,
  ⟨some 28, none, none, false, .ld1 (.t 27)⟩,
  ⟨some 29, none, none, false, .lenL (.t 28)⟩,
  ⟨some 30, none, none, false, .bin .lss 3 false (.t 26) (.t 29)⟩]) (.cond (.t 30) .skip (.exit 0))) (.seq (.block 1 (.seq (.ops [⟨some 33, none, none, false, .fa 6 (.t 2)⟩,
  ⟨some 34, none, none, false, .ld1 (.t 33)⟩,
  ⟨some 35, none, none, false, .mov (.t 5)⟩,
  ⟨some 36, none, none, false, .ixa 7 (.t 34) (.t 35)⟩,
  ⟨some 37, none, none, false, .ldn 7 (.t 36)⟩,
  ⟨some 38, none, none, false, .mov (.t 1)⟩,
  ⟨some 39, none, none, false, .bin .add 3 true (.t 38) (.v (.int .i64 1))⟩,
  ⟨some 40, none, none, false, .call 86 [(.t 37), (.t 39)]⟩,
  ⟨some 41, none, none, false, .un .not (.t 40)⟩]) (.cond (.t 41) (.seq (.ops [⟨some 4, none, none, false, .mov (.v (.bool false))⟩]) .ret) .skip))) (.ops [⟨some 31, none, none, false, .mov (.t 5)⟩,
  ⟨some 32, none, none, false, .bin .add 3 true (.t 31) (.v (.int .i64 1))⟩,
  ⟨some 5, none, none, false, .mov (.t 32)⟩])))
/-- strobe/stroberef04.shortCond; results .tmp 4 -/
def r86 : RC := (.seq (.ops [⟨some 2, none, none, false, .box 39 (.t 0)⟩,
  ⟨some 4, none, none, false, .mov (.v (.bool false))⟩]) (.seq (.seq (.ops [⟨some 6, none, none, false, .mov (.t 1)⟩,
  ⟨some 7, none, none, false, .bin .gtr 3 true (.t 6) (.v (.int .i64 6))⟩,
  ⟨some 8, none, none, false, .mov (.t 7)⟩,
  ⟨some 9, some (8, false), none, false, .fa 0 (.t 2)⟩,
  ⟨some 10, some (8, false), none, false, .ld1 (.t 9)⟩,
  ⟨some 11, some (8, false), none, false, .lenS (.t 10)⟩,
  ⟨some 12, some (8, false), none, false, .bin .gtr 3 true (.t 11) (.v (.int .i64 20))⟩,
  ⟨some 13, none, none, false, .pick (.t 8) (.v (.bool true)) (.t 12)⟩,
  ⟨some 14, none, none, false, .mov (.t 13)⟩,
  ⟨some 15, some (14, false), none, false, .fa 5 (.t 2)⟩,
  ⟨some 16, some (14, false), none, false, .ld1 (.t 15)⟩,
  ⟨some 17, some (14, false), none, false, .lenS (.t 16)⟩,
  ⟨some 18, some (14, false), none, false, .bin .gtr 3 true (.t 17) (.v (.int .i64 40))⟩,
  ⟨some 19, none, none, false, .pick (.t 14) (.v (.bool true)) (.t 18)⟩,
  ⟨some 20, none, none, false, .mov (.t 19)⟩,
  ⟨some 21, some (20, false), none, false, .fa 6 (.t 2)⟩,
  ⟨some 22, some (20, false), none, false, .ld1 (.t 21)⟩,
  ⟨some 23, some (20, false), none, false, .lenL (.t 22)⟩,
  ⟨some 24, some (20, false), none, false, .bin .gtr 3 true (.t 23) (.v (.int .i64 10))⟩,
  ⟨some 25, none, none, false, .pick (.t 20) (.v (.bool true)) (.t 24)⟩]) (.cond (.t 25) (.seq (.ops [⟨some 4, none, none, false, .mov (.v (.bool false))⟩]) .ret) .skip)) (.seq (.seq (.ops [⟨some 5, none, none, false, .mov (.v (.int .i64 0))⟩]) (.block 0 (.loop r86_l0))) (.seq (.ops [⟨some 4, none, none, false, .mov (.v (.bool true))⟩]) .ret))))
theorem k86 : fnRC 86 = some ([.tmp 4], r86) := by kernel_rfl

def r87_l0 : RC := (.seq (.seq (.ops [⟨some 5, none, none, false, .mov (.t 4)⟩,
  ⟨some 6, none, none, false, .fa 6 (.t 1)⟩,
  ⟨some 7, none, none, false, .ld1 (.t 6)⟩,
  ⟨some 8, none, none, false, .lenL (.t 7)⟩,
  ⟨some 9, none, none, false, .bin .lss 3 false (.t 5) (.t 8)⟩]) (.cond (.t 9) .skip (.exit 0))) (.seq (.block 1 (.ops [⟨some 12, none, none, false, .mov (.t 3)⟩,
  ⟨some 13, none, none, false, .fa 6 (.t 1)⟩,
  ⟨some 14, none, none, false, .ld1 (.t 13)⟩,
  ⟨some 15, none, none, false, .mov (.t 4)⟩,
  ⟨some 16, none, none, false, .ixa 7 (.t 14) (.t 15)⟩,
  ⟨some 17, none, none, false, .ldn 7 (.t 16)⟩,
  ⟨some 18, none, none, false, .call 87 [(.t 17)]⟩,
  ⟨some 19, none, none, false, .bin .add 3 false (.t 12) (.t 18)⟩,
  ⟨some 3, none, none, false, .mov (.t 19)⟩])) (.ops [⟨some 10, none, none, false, .mov (.t 4)⟩,
  ⟨some 11, none, none, false, .bin .add 3 true (.t 10) (.v (.int .i64 1))⟩,
  ⟨some 4, none, none, false, .mov (.t 11)⟩])))
/-- strobe/stroberef04.leaves; results .tmp 2 -/
def r87 : RC := (.seq (.ops [⟨some 1, none, none, false, .box 39 (.t 0)⟩,
  ⟨some 2, none, none, false, .mov (.v (.int .i64 0))⟩]) (.seq (.ops [⟨some 3, none, none, false, .mov (.v (.int .i64 1))⟩]) (.seq (.seq (.ops [⟨some 4, none, none, false, .mov (.v (.int .i64 0))⟩]) (.block 0 (.loop r87_l0))) (.seq (.ops [⟨some 20, none, none, false, .mov (.t 3)⟩,
  ⟨some 2, none, none, false, .mov (.t 20)⟩]) .ret))))
theorem k87 : fnRC 87 = some ([.tmp 2], r87) := by kernel_rfl

/-- strobe/stroberef04.ShortCond; results .tmp 4 -/
def r21 : RC := (.seq (.ops [⟨some 2, none, none, false, .box 39 (.t 0)⟩,
  ⟨some 4, none, none, false, .mov (.v (.bool false))⟩]) (.seq (.ops [⟨some 5, none, none, false, .ldn 7 (.t 2)⟩,
  ⟨some 6, none, none, false, .call 86 [(.t 5), (.v (.int .i64 1))]⟩,
  ⟨some 7, none, none, false, .mov (.t 6)⟩,
  ⟨some 8, some (7, true), none, false, .ldn 7 (.t 2)⟩,
  ⟨some 9, some (7, true), none, false, .call 87 [(.t 8)]⟩,
  ⟨some 10, some (7, true), none, false, .mov (.t 1)⟩,
  ⟨some 11, some (7, true), none, false, .bin .leq 3 false (.t 9) (.t 10)⟩,
  ⟨some 12, none, none, false, .pick (.t 7) (.t 11) (.v (.bool false))⟩,
  ⟨some 4, none, none, false, .mov (.t 12)⟩]) .ret))
theorem k21 : fnRC 21 = some ([.tmp 4], r21) := by kernel_rfl

def r31_l0 : RC := (.seq (.seq (.ops [⟨some 10, none, none, false, .mov (.t 5)⟩,
  ⟨some 11, none, none, false, .fa 1 (.t 2)⟩,
  ⟨some 12, none, none, false, .ld1 (.t 11)⟩,
  ⟨some 13, none, none, false, .lenL (.t 12)⟩,
  ⟨some 14, none, none, false, .bin .lss 3 false (.t 10) (.t 13)⟩]) (.cond (.t 14) .skip (.exit 0))) (.seq (.block 1 (.seq (.ops [⟨some 17, none, none, false, .fa 1 (.t 2)⟩,
  ⟨some 18, none, none, false, .ld1 (.t 17)⟩,
  ⟨some 19, none, none, false, .mov (.t 5)⟩,
  ⟨some 20, none, none, false, .ixa 9 (.t 18) (.t 19)⟩,
  ⟨some 21, none, none, false, .fa 0 (.t 20)⟩,
  ⟨some 22, none, none, false, .ldn 7 (.t 21)⟩,
  ⟨some 23, none, none, false, .mov (.t 1)⟩,
  ⟨some 24, none, none, false, .call 21 [(.t 22), (.t 23)]⟩,
  ⟨some 25, none, none, false, .un .not (.t 24)⟩]) (.cond (.t 25) (.seq (.ops [⟨some 4, none, none, false, .mov (.v (.bool false))⟩]) .ret) .skip))) (.ops [⟨some 15, none, none, false, .mov (.t 5)⟩,
  ⟨some 16, none, none, false, .bin .add 3 true (.t 15) (.v (.int .i64 1))⟩,
  ⟨some 5, none, none, false, .mov (.t 16)⟩])))
/-- strobe/stroberef04.Short; results .tmp 4 -/
def r31 : RC := (.seq (.ops [⟨some 2, none, none, false, .box 31 (.t 0)⟩,
  ⟨some 4, none, none, false, .mov (.v (.bool false))⟩]) (.seq (.seq (.ops [⟨some 6, none, none, false, .fa 1 (.t 2)⟩,
  ⟨some 7, none, none, false, .ld1 (.t 6)⟩,
  ⟨some 8, none, none, false, .lenL (.t 7)⟩,
  ⟨some 9, none, none, false, .bin .gtr 3 true (.t 8) (.v (.int .i64 10))⟩]) (.cond (.t 9) (.seq (.ops [⟨some 4, none, none, false, .mov (.v (.bool false))⟩]) .ret) .skip)) (.seq (.seq (.ops [⟨some 5, none, none, false, .mov (.v (.int .i64 0))⟩]) (.block 0 (.loop r31_l0))) (.seq (.ops [⟨some 4, none, none, false, .mov (.v (.bool true))⟩]) .ret))))
theorem k31 : fnRC 31 = some ([.tmp 4], r31) := by kernel_rfl

def r24_l0 : RC := (.seq (.seq (.ops [⟨some 18, none, none, false, .mov (.t 4)⟩,
  ⟨some 19, none, none, false, .fa 6 (.t 1)⟩,
  ⟨some 20, none, none, false, .ld1 (.t 19)⟩,
  ⟨some 21, none, none, false, .lenL (.t 20)⟩,
  ⟨some 22, none, none, false, .bin .lss 3 false (.t 18) (.t 21)⟩]) (.cond (.t 22) .skip (.exit 0))) (.seq (.block 1 (.drw 12 [⟨some 25, none, none, false, .fa 6 (.t 3)⟩,
  ⟨some 26, none, none, false, .ld1 (.t 25)⟩,
  ⟨some 27, none, none, false, .fa 6 (.t 1)⟩,
  ⟨some 28, none, none, false, .ld1 (.t 27)⟩,
  ⟨some 29, none, none, false, .mov (.t 4)⟩,
  ⟨some 30, none, none, false, .ixa 7 (.t 28) (.t 29)⟩,
  ⟨some 31, none, none, false, .ldn 7 (.t 30)⟩,
  ⟨some 32, none, none, false, .call 24 [(.t 31)]⟩,
  ⟨some 33, none, some 8, false, .bsl 48 7 1 [(.str []), (.int .i64 0), (.int .i64 0), (.int .i64 0), (.int .i64 0), (.str []), .nils] [(0, 7, (.t 32))]⟩,
  ⟨some 34, none, none, true, .app 48 7 88 (.t 26) (.t 33)⟩,
  ⟨some 35, none, none, false, .fa 6 (.t 3)⟩,
  ⟨none, none, none, true, .st 1 (.t 35) (.t 34)⟩])) (.ops [⟨some 23, none, none, false, .mov (.t 4)⟩,
  ⟨some 24, none, none, false, .bin .add 3 true (.t 23) (.v (.int .i64 1))⟩,
  ⟨some 4, none, none, false, .mov (.t 24)⟩])))
/-- strobe/strobelaw04.condBack; results .cell 2 48 -/
def r24 : RC := (.seq (.ops [⟨some 1, none, none, false, .box 39 (.t 0)⟩,
  ⟨some 2, none, none, false, .al [(.str []), (.int .i64 0), (.int .i64 0), (.int .i64 0), (.int .i64 0), (.str []), .nils] 48⟩]) (.seq (.ops [⟨some 5, none, none, false, .fa 0 (.t 1)⟩,
  ⟨some 6, none, none, false, .ld1 (.t 5)⟩,
  ⟨some 7, none, none, false, .fa 1 (.t 1)⟩,
  ⟨some 8, none, none, false, .ld1 (.t 7)⟩,
  ⟨some 9, none, none, false, .fa 2 (.t 1)⟩,
  ⟨some 10, none, none, false, .ld1 (.t 9)⟩,
  ⟨some 11, none, none, false, .fa 3 (.t 1)⟩,
  ⟨some 12, none, none, false, .ld1 (.t 11)⟩,
  ⟨some 13, none, none, false, .fa 4 (.t 1)⟩,
  ⟨some 14, none, none, false, .ld1 (.t 13)⟩,
  ⟨some 15, none, none, false, .fa 5 (.t 1)⟩,
  ⟨some 16, none, none, false, .ld1 (.t 15)⟩,
  ⟨some 17, none, none, false, .bld [(.str []), (.int .i64 0), (.int .i64 0), (.int .i64 0), (.int .i64 0), (.str []), .nils] [(0, 1, (.t 6)), (1, 1, (.t 8)), (2, 1, (.t 10)), (3, 1, (.t 12)), (4, 1, (.t 14)), (5, 1, (.t 16))]⟩,
  ⟨some 3, none, none, false, .al [(.str []), (.int .i64 0), (.int .i64 0), (.int .i64 0), (.int .i64 0), (.str []), .nils] 48⟩,
  ⟨none, none, none, false, .st 7 (.t 3) (.t 17)⟩]) (.seq (.seq (.ops [⟨some 4, none, none, false, .mov (.v (.int .i64 0))⟩]) (.block 0 (.loop r24_l0))) (.seq (.ops [⟨some 36, none, none, false, .ldn 7 (.t 3)⟩,
  ⟨none, none, none, false, .st 7 (.t 2) (.t 36)⟩]) .ret))))
theorem k24 : fnRC 24 = some ([.cell 2 48], r24) := by kernel_rfl

def r33_l0 : RC := (.seq (.seq (.ops [⟨some 8, none, none, false, .mov (.t 4)⟩,
  ⟨some 9, none, none, false, .fa 1 (.t 1)⟩,
  ⟨some 10, none, none, false, .ld1 (.t 9)⟩,
  ⟨some 11, none, none, false, .lenL (.t 10)⟩,
  ⟨some 12, none, none, false, .bin .lss 3 false (.t 8) (.t 11)⟩]) (.cond (.t 12) .skip (.exit 0))) (.seq (.block 1 (.drw 26 [⟨some 15, none, none, false, .fa 1 (.t 3)⟩,
  ⟨some 16, none, none, false, .ld1 (.t 15)⟩,
  ⟨some 17, none, none, false, .fa 1 (.t 1)⟩,
  ⟨some 18, none, none, false, .ld1 (.t 17)⟩,
  ⟨some 19, none, none, false, .mov (.t 4)⟩,
  ⟨some 20, none, none, false, .ixa 9 (.t 18) (.t 19)⟩,
  ⟨some 21, none, none, false, .fa 0 (.t 20)⟩,
  ⟨some 22, none, none, false, .ldn 7 (.t 21)⟩,
  ⟨some 23, none, none, false, .call 24 [(.t 22)]⟩,
  ⟨some 24, none, none, false, .fa 1 (.t 1)⟩,
  ⟨some 25, none, none, false, .ld1 (.t 24)⟩,
  ⟨some 26, none, none, false, .mov (.t 4)⟩,
  ⟨some 27, none, none, false, .ixa 9 (.t 25) (.t 26)⟩,
  ⟨some 28, none, none, false, .fa 7 (.t 27)⟩,
  ⟨some 29, none, none, false, .ld1 (.t 28)⟩,
  ⟨some 30, none, none, false, .fa 1 (.t 1)⟩,
  ⟨some 31, none, none, false, .ld1 (.t 30)⟩,
  ⟨some 32, none, none, false, .mov (.t 4)⟩,
  ⟨some 33, none, none, false, .ixa 9 (.t 31) (.t 32)⟩,
  ⟨some 34, none, none, false, .fa 8 (.t 33)⟩,
  ⟨some 35, none, none, false, .ld1 (.t 34)⟩,
  ⟨some 36, none, none, false, .bld [(.str []), (.int .i64 0), (.int .i64 0), (.int .i64 0), (.int .i64 0), (.str []), .nils, (.int .i64 0), (.int .i64 0)] [(0, 7, (.t 23)), (7, 1, (.t 29)), (8, 1, (.t 35))]⟩,
  ⟨some 37, none, some 22, false, .bsl 144 9 1 [(.str []), (.int .i64 0), (.int .i64 0), (.int .i64 0), (.int .i64 0), (.str []), .nils, (.int .i64 0), (.int .i64 0)] [(0, 9, (.t 36))]⟩,
  ⟨some 38, none, none, true, .app 144 9 104 (.t 16) (.t 37)⟩,
  ⟨some 39, none, none, false, .fa 1 (.t 3)⟩,
  ⟨none, none, none, true, .st 1 (.t 39) (.t 38)⟩])) (.ops [⟨some 13, none, none, false, .mov (.t 4)⟩,
  ⟨some 14, none, none, false, .bin .add 3 true (.t 13) (.v (.int .i64 1))⟩,
  ⟨some 4, none, none, false, .mov (.t 14)⟩])))
/-- strobe/strobelaw04.back; results .cell 2 25 -/
def r33 : RC := (.seq (.ops [⟨some 1, none, none, false, .box 31 (.t 0)⟩,
  ⟨some 2, none, none, false, .al [(.int .i64 0), .nils] 25⟩]) (.seq (.ops [⟨some 5, none, none, false, .fa 0 (.t 1)⟩,
  ⟨some 6, none, none, false, .ld1 (.t 5)⟩,
  ⟨some 7, none, none, false, .bld [(.int .i64 0), .nils] [(0, 1, (.t 6))]⟩,
  ⟨some 3, none, none, false, .al [(.int .i64 0), .nils] 25⟩,
  ⟨none, none, none, false, .st 2 (.t 3) (.t 7)⟩]) (.seq (.seq (.ops [⟨some 4, none, none, false, .mov (.v (.int .i64 0))⟩]) (.block 0 (.loop r33_l0))) (.seq (.ops [⟨some 40, none, none, false, .ldn 2 (.t 3)⟩,
  ⟨none, none, none, false, .st 2 (.t 2) (.t 40)⟩]) .ret))))
theorem k33 : fnRC 33 = some ([.cell 2 25], r33) := by kernel_rfl

end Go.Am

set_option linter.all false
namespace Go.Am
open Go Go.Proofs
variable [MaxLen]
set_option maxRecDepth 100000
theorem ld_25 (a : AV) (s : St) : loadA U 25 a s = ldn 2 a s := loadA_n U ag_25 sz_25 a s
theorem ld_31 (a : AV) (s : St) : loadA U 31 a s = ldn 2 a s := loadA_n U ag_31 sz_31 a s
theorem ld_39 (a : AV) (s : St) : loadA U 39 a s = ldn 7 a s := loadA_n U ag_39 sz_39 a s
theorem ld_48 (a : AV) (s : St) : loadA U 48 a s = ldn 7 a s := loadA_n U ag_48 sz_48 a s
theorem ld_69 (a : AV) (s : St) : loadA U 69 a s = ldn 3 a s := loadA_n U ag_69 sz_69 a s
theorem ld_72 (a : AV) (s : St) : loadA U 72 a s = ldn 3 a s := loadA_n U ag_72 sz_72 a s
theorem ld_116 (a : AV) (s : St) : loadA U 116 a s = ldn 2 a s := loadA_n U ag_116 sz_116 a s
theorem ag_131 : isAggT U 131 = some true := by kernel_rfl
theorem sz_131 : size U 131 = some 2 := by kernel_rfl
theorem ld_131 (a : AV) (s : St) : loadA U 131 a s = ldn 2 a s := loadA_n U ag_131 sz_131 a s
theorem ld_152 (a : AV) (s : St) : loadA U 152 a s = ldn 3 a s := loadA_n U ag_152 sz_152 a s
theorem ag_160 : isAggT U 160 = some true := by kernel_rfl
theorem sz_160 : size U 160 = some 6 := by kernel_rfl
theorem ld_160 (a : AV) (s : St) : loadA U 160 a s = ldn 6 a s := loadA_n U ag_160 sz_160 a s
theorem ag_167 : isAggT U 167 = some true := by kernel_rfl
theorem sz_167 : size U 167 = some 3 := by kernel_rfl
theorem ld_167 (a : AV) (s : St) : loadA U 167 a s = ldn 3 a s := loadA_n U ag_167 sz_167 a s
theorem ld_176 (a : AV) (s : St) : loadA U 176 a s = ldn 5 a s := loadA_n U ag_176 sz_176 a s
theorem ag_305 : isAggT U 305 = some true := by kernel_rfl
theorem sz_305 : size U 305 = some 256 := by kernel_rfl
theorem ld_305 (a : AV) (s : St) : loadA U 305 a s = ldn 256 a s := loadA_n U ag_305 sz_305 a s
theorem gateV_false (x : Option AV) (s : St) : gateV false x s = some (undef, s) := (fun h => h) rfl
theorem gateC_false (X : Cx) (x : Option AV) (f : FuncId) (args : List AV) (s : St) : gateC X false x f args s = some (undef, s) := (fun h => h) rfl
theorem gateV_true (x : Option AV) (s : St) : gateV true x s = pureO x s := (fun h => h) rfl
theorem gateC_true (X : Cx) (x : Option AV) (f : FuncId) (args : List AV) (s : St) : gateC X true x f args s = callK X x f args s := (fun h => h) rfl
def St.upto (s : St) (k : Nat) : St := { s with next := k }
theorem upto_get (s : St) (k j : Nat) : (s.upto k).get j = s.get j := (fun h => h) rfl
theorem upto_next (s : St) (k : Nat) : (s.upto k).next = k := (fun h => h) rfl
theorem go_drw_upto {X : Cx} {β : Type} (fin : Fl → β) (ks : List K) (e : Env) (s : St) (n : Nat) (l : List RO) : go X fin ks (.drw n l) e s = bif noneR s.next s l then goD' X fin ks s.next l e (s.upto (s.next + n)) else stuck X fin ks := go_drw X fin ks e s n l
theorem gb_none {n : Nat} (h : 4 ≤ n) : U.gbase n = none := by
  rw [U_gbase]; unfold gbU gcell
  match n, h with
  | n + 4, _ => rfl
/-- no block stands yet from the counter on -/
def Fr (s : St) : Prop := ∀ j, s.next ≤ j → s.get j = none
theorem Fr.at {s : St} (h : Fr s) (k : Nat) : s.get (s.next + k) = none := h _ (by omega)
theorem Fr.own : Fr (ownSt U) := fun j hj => by
  rw [own_get]; rw [own_next, U_glob] at hj; exact gb_none (by omega)
theorem Fr.new {s : St} (h : Fr s) (x : Blk) : Fr (s.new x) := fun j hj => by
  rw [next_new] at hj; rw [get_new, if_neg (by omega)]; exact h j (by omega)
theorem Fr.put {s : St} (h : Fr s) {k : Nat} (hk : k < s.next) (x : Blk) : Fr (s.put k x) := fun j hj => by
  rw [next_put] at hj; rw [get_put, if_neg (by omega)]; exact h j (by omega)
theorem Fr.upto {s : St} (h : Fr s) {k : Nat} (hk : s.next ≤ k) : Fr (s.upto k) := fun j hj => by
  rw [upto_next] at hj; rw [upto_get]; exact h j (by omega)
attribute [go_sem ↓ high] go_drw_upto
attribute [go_sem ↓] upto_get upto_next
attribute [go_sem] gb_none Option.isNone_none
attribute [go_sem ↓] gateV_false gateC_false gateV_true gateC_true
attribute [go_sem] ld_25 ld_31 ld_39 ld_48 ld_69 ld_72 ld_116 ag_131 sz_131 ld_131 ld_152 ag_160 sz_160 ld_160 ag_167 sz_167 ld_167 ld_176 ag_305 sz_305 ld_305
end Go.Am

set_option linter.unusedVariables false
namespace Go.Am
open Go

/-! # The kinds of conditions -/

inductive Kd where
  | high | low | rise | fall | pattern | enter | pulse | gap | idle | setup | runt | not_ | all_ | any_ | other
  deriving DecidableEq

def kdStr : Kd → Str
  | .high => [104, 105, 103, 104]
  | .low => [108, 111, 119]
  | .rise => [114, 105, 115, 101]
  | .fall => [102, 97, 108, 108]
  | .pattern => [112, 97, 116, 116, 101, 114, 110]
  | .enter => [101, 110, 116, 101, 114]
  | .pulse => [112, 117, 108, 115, 101]
  | .gap => [103, 97, 112]
  | .idle => [105, 100, 108, 101]
  | .setup => [115, 101, 116, 117, 112]
  | .runt => [114, 117, 110, 116]
  | .not_ => [110, 111, 116]
  | .all_ => [97, 108, 108]
  | .any_ => [97, 110, 121]
  | .other => []

def kdOf (k : Str) : Kd :=
  br (k == [104, 105, 103, 104]) .high <|
  br (k == [108, 111, 119]) .low <|
  br (k == [114, 105, 115, 101]) .rise <|
  br (k == [102, 97, 108, 108]) .fall <|
  br (k == [112, 97, 116, 116, 101, 114, 110]) .pattern <|
  br (k == [101, 110, 116, 101, 114]) .enter <|
  br (k == [112, 117, 108, 115, 101]) .pulse <|
  br (k == [103, 97, 112]) .gap <|
  br (k == [105, 100, 108, 101]) .idle <|
  br (k == [115, 101, 116, 117, 112]) .setup <|
  br (k == [114, 117, 110, 116]) .runt <|
  br (k == [110, 111, 116]) .not_ <|
  br (k == [97, 108, 108]) .all_ <|
  br (k == [97, 110, 121]) .any_ <|
  .other

structure Uses where
  a : Bool
  b : Bool
  mi : Bool
  ma : Bool
  pat : Bool
  kids : Bool
def usesOf : Kd → Uses
  | .high | .low | .rise | .fall => ⟨true, false, false, false, false, false⟩
  | .pattern | .enter => ⟨false, false, false, false, true, false⟩
  | .pulse | .gap => ⟨true, false, true, true, false, false⟩
  | .idle => ⟨true, false, true, false, false, false⟩
  | .setup => ⟨true, true, true, false, false, false⟩
  | .runt => ⟨true, true, false, false, false, false⟩
  | .not_ | .all_ | .any_ => ⟨false, false, false, false, false, true⟩
  | .other => ⟨false, false, false, false, false, false⟩
def Kd.known : Kd → Bool
  | .other => false
  | _ => true

/-- what is known of a kind's name -/
def kdFacts (k : Str) (d : Kd) : Prop := kdOf k = d ∧ (k == [104, 105, 103, 104]) = decide (d = .high) ∧ (k == [108, 111, 119]) = decide (d = .low) ∧ (k == [114, 105, 115, 101]) = decide (d = .rise) ∧ (k == [102, 97, 108, 108]) = decide (d = .fall) ∧ (k == [112, 97, 116, 116, 101, 114, 110]) = decide (d = .pattern) ∧ (k == [101, 110, 116, 101, 114]) = decide (d = .enter) ∧ (k == [112, 117, 108, 115, 101]) = decide (d = .pulse) ∧ (k == [103, 97, 112]) = decide (d = .gap) ∧ (k == [105, 100, 108, 101]) = decide (d = .idle) ∧ (k == [115, 101, 116, 117, 112]) = decide (d = .setup) ∧ (k == [114, 117, 110, 116]) = decide (d = .runt) ∧ (k == [110, 111, 116]) = decide (d = .not_) ∧ (k == [97, 108, 108]) = decide (d = .all_) ∧ (k == [97, 110, 121]) = decide (d = .any_)
theorem kd_facts (k : Str) : kdFacts k (kdOf k) := by
  by_cases e0 : k = [104, 105, 103, 104]
  · subst e0; exact ⟨rfl, rfl, rfl, rfl, rfl, rfl, rfl, rfl, rfl, rfl, rfl, rfl, rfl, rfl, rfl⟩
  by_cases e1 : k = [108, 111, 119]
  · subst e1; exact ⟨rfl, rfl, rfl, rfl, rfl, rfl, rfl, rfl, rfl, rfl, rfl, rfl, rfl, rfl, rfl⟩
  by_cases e2 : k = [114, 105, 115, 101]
  · subst e2; exact ⟨rfl, rfl, rfl, rfl, rfl, rfl, rfl, rfl, rfl, rfl, rfl, rfl, rfl, rfl, rfl⟩
  by_cases e3 : k = [102, 97, 108, 108]
  · subst e3; exact ⟨rfl, rfl, rfl, rfl, rfl, rfl, rfl, rfl, rfl, rfl, rfl, rfl, rfl, rfl, rfl⟩
  by_cases e4 : k = [112, 97, 116, 116, 101, 114, 110]
  · subst e4; exact ⟨rfl, rfl, rfl, rfl, rfl, rfl, rfl, rfl, rfl, rfl, rfl, rfl, rfl, rfl, rfl⟩
  by_cases e5 : k = [101, 110, 116, 101, 114]
  · subst e5; exact ⟨rfl, rfl, rfl, rfl, rfl, rfl, rfl, rfl, rfl, rfl, rfl, rfl, rfl, rfl, rfl⟩
  by_cases e6 : k = [112, 117, 108, 115, 101]
  · subst e6; exact ⟨rfl, rfl, rfl, rfl, rfl, rfl, rfl, rfl, rfl, rfl, rfl, rfl, rfl, rfl, rfl⟩
  by_cases e7 : k = [103, 97, 112]
  · subst e7; exact ⟨rfl, rfl, rfl, rfl, rfl, rfl, rfl, rfl, rfl, rfl, rfl, rfl, rfl, rfl, rfl⟩
  by_cases e8 : k = [105, 100, 108, 101]
  · subst e8; exact ⟨rfl, rfl, rfl, rfl, rfl, rfl, rfl, rfl, rfl, rfl, rfl, rfl, rfl, rfl, rfl⟩
  by_cases e9 : k = [115, 101, 116, 117, 112]
  · subst e9; exact ⟨rfl, rfl, rfl, rfl, rfl, rfl, rfl, rfl, rfl, rfl, rfl, rfl, rfl, rfl, rfl⟩
  by_cases e10 : k = [114, 117, 110, 116]
  · subst e10; exact ⟨rfl, rfl, rfl, rfl, rfl, rfl, rfl, rfl, rfl, rfl, rfl, rfl, rfl, rfl, rfl⟩
  by_cases e11 : k = [110, 111, 116]
  · subst e11; exact ⟨rfl, rfl, rfl, rfl, rfl, rfl, rfl, rfl, rfl, rfl, rfl, rfl, rfl, rfl, rfl⟩
  by_cases e12 : k = [97, 108, 108]
  · subst e12; exact ⟨rfl, rfl, rfl, rfl, rfl, rfl, rfl, rfl, rfl, rfl, rfl, rfl, rfl, rfl, rfl⟩
  by_cases e13 : k = [97, 110, 121]
  · subst e13; exact ⟨rfl, rfl, rfl, rfl, rfl, rfl, rfl, rfl, rfl, rfl, rfl, rfl, rfl, rfl, rfl⟩
  have f0 : (k == [104, 105, 103, 104]) = false := beq_eq_false_iff_ne.2 e0
  have f1 : (k == [108, 111, 119]) = false := beq_eq_false_iff_ne.2 e1
  have f2 : (k == [114, 105, 115, 101]) = false := beq_eq_false_iff_ne.2 e2
  have f3 : (k == [102, 97, 108, 108]) = false := beq_eq_false_iff_ne.2 e3
  have f4 : (k == [112, 97, 116, 116, 101, 114, 110]) = false := beq_eq_false_iff_ne.2 e4
  have f5 : (k == [101, 110, 116, 101, 114]) = false := beq_eq_false_iff_ne.2 e5
  have f6 : (k == [112, 117, 108, 115, 101]) = false := beq_eq_false_iff_ne.2 e6
  have f7 : (k == [103, 97, 112]) = false := beq_eq_false_iff_ne.2 e7
  have f8 : (k == [105, 100, 108, 101]) = false := beq_eq_false_iff_ne.2 e8
  have f9 : (k == [115, 101, 116, 117, 112]) = false := beq_eq_false_iff_ne.2 e9
  have f10 : (k == [114, 117, 110, 116]) = false := beq_eq_false_iff_ne.2 e10
  have f11 : (k == [110, 111, 116]) = false := beq_eq_false_iff_ne.2 e11
  have f12 : (k == [97, 108, 108]) = false := beq_eq_false_iff_ne.2 e12
  have f13 : (k == [97, 110, 121]) = false := beq_eq_false_iff_ne.2 e13
  have hk : kdOf k = .other := by simp only [kdOf, f0, f1, f2, f3, f4, f5, f6, f7, f8, f9, f10, f11, f12, f13, br_false]
  rw [hk]
  exact ⟨hk, f0, f1, f2, f3, f4, f5, f6, f7, f8, f9, f10, f11, f12, f13⟩
/-- one of the kinds, or none of them -/
theorem kd_cases (k : Str) {P : Prop} (h : ∀ d, kdFacts k d → P) : P := h _ (kd_facts k)
end Go.Am

set_option linter.unusedVariables false
set_option linter.unusedSimpArgs false
namespace Go.Am
open Go

/-! # What the two checks of a condition compute, and that they agree -/

def outside (n a b : Int) : Bool := decide (n < a) || decide (n > b)
def badPat (s : Str) (lines : Int) : Bool := (s.length : Int) != lines || s.any fun c => c != 48 && c != 49 && c != 120

mutual
def ckR (lines : Int) : Cond → Int → Int
  | .mk kind a b mi ma pat nl kids, depth =>
    let u := usesOf (kdOf kind)
    let len : Int := kids.length
    br (decide (depth > 4)) 5 <|
    br (!(kdOf kind).known) 13 <|
    br (!u.a && a != 0 || !u.b && b != 0 || !u.mi && mi != 0 || !u.ma && ma != 0 || !u.pat && !pat == [] || !u.kids && decide (len > 0)) 2 <|
    br (u.a && outside a 0 (IntKind.i64.wrap (lines - 1)) || u.b && outside b 0 (IntKind.i64.wrap (lines - 1))) 3 <|
    br (u.b && a == b) 9 <|
    br (u.mi && outside mi 1 255 || u.ma && outside ma 1 255) 3 <|
    br (u.ma && decide (mi > ma)) 11 <|
    br (u.pat && badPat pat lines) 1 <|
    br (kind == [110, 111, 116] && len != 1) 2 <|
    br (u.kids && len == 0) 12 <|
    br (u.kids && decide (len > 8)) 5 <|
    ckRL lines kids (IntKind.i64.wrap (depth + 1))
def ckRL (lines : Int) : List Cond → Int → Int
  | [], _ => 0
  | c :: l, depth => br (ckR lines c depth != 0) (ckR lines c depth) (ckRL lines l depth)
end

def firstOf : List Int → Int
  | [] => 0
  | e :: l => br (e != 0) e (firstOf l)
def within (n a b : Int) : Int := br (decide (n < a) || decide (n > b)) 3 0
def checkPat (lines : Int) (pat : Str) : Int := br (badPat pat lines) 1 0

mutual
def ckP (lines : Int) : Cond → Int → Int
  | .mk kind a b mi ma pat nl kids, depth =>
    let u := usesOf (kdOf kind)
    let len : Int := kids.length
    let e0 := firstOf [br (decide (depth > 4)) 5 0, br (!(kdOf kind).known) 13 0]
    let e1 := firstOf [br (!u.a && a != 0 || !u.b && b != 0 || !u.mi && mi != 0 || !u.ma && ma != 0 || !u.pat && !pat == [] || !u.kids && decide (len > 0)) 2 0,
      br (u.a && (decide (a < 0) || decide (a ≥ lines))) 3 0, br (u.b && (decide (b < 0) || decide (b ≥ lines))) 3 0, br (u.b && a == b) 9 0,
      br (u.mi && within mi 1 255 != 0) 3 0, br (u.ma && within ma 1 255 != 0) 3 0, br (u.ma && decide (mi > ma)) 11 0]
    let e2 := br u.pat (firstOf [e1, checkPat lines pat]) e1
    let e3 := br (kind == [110, 111, 116]) (br (len != 1) 2 0) (firstOf [br (len == 0) 12 0, br (decide (len > 8)) 5 0])
    br (e0 != 0) e0 <| br (e2 != 0 || !u.kids) e2 <| ckPL lines kids (IntKind.i64.wrap (depth + 1)) e3
def ckPL (lines : Int) : List Cond → Int → Int → Int
  | [], _, e => e
  | c :: l, depth, e => ckPL lines l depth (br (e == 0) (ckP lines c depth) e)
end

theorem ckPL_bad (lines depth : Int) : ∀ (l : List Cond) (e : Int), e ≠ 0 → ckPL lines l depth e = e
  | [], e, h => by simp [ckPL]
  | c :: l, e, h => by
    have : (e == 0) = false := by simp [h]
    rw [ckPL, this, br_false, ckPL_bad lines depth l e h]

theorem first_br {p : Bool} {e : Int} {l : List Int} (h : (e != 0) = true) : firstOf (br p e 0 :: l) = br p e (firstOf l) := by
  cases p
  · rfl
  · rw [firstOf, br_true, h, br_true]
theorem first_nil : firstOf [] = 0 := rfl
theorem first_nest {p : Bool} {e x : Int} {l : List Int} (h : (e != 0) = true) : firstOf (br p e x :: l) = br p e (firstOf (x :: l)) := by
  cases p
  · rfl
  · rw [br_true, br_true, firstOf, h, br_true]
theorem first_zero (l : List Int) : firstOf (0 :: l) = firstOf l := rfl
theorem first_first (m : List Int) : ∀ l : List Int, firstOf (firstOf l :: m) = firstOf (l ++ m)
  | [] => rfl
  | e :: l => by
    rw [List.cons_append, firstOf, firstOf, firstOf, ← first_first m l]
    cases h : e != 0
    · rw [br_false, br_false, firstOf]
    · rw [br_true, br_true, h, br_true]
theorem first_one (e : Int) : firstOf [e] = e := by
  rw [firstOf, first_nil]
  cases h : e != 0
  · have : e = 0 := by simpa using h
    rw [this]; rfl
  · rfl
theorem br_push (F : Int → Int) (hF : ∀ e, e ≠ 0 → F e = e) {p : Bool} {e x : Int} (h : (e != 0) = true) : F (br p e x) = br p e (F x) := by
  cases p
  · rfl
  · rw [br_true, br_true]; exact hF _ (by simpa using h)
theorem br_nest {p : Bool} {e : Int} {x y : Int} (h : (e != 0) = true) : br (br p e x != 0) (br p e x) y = br p e (br (x != 0) x y) := by
  cases p
  · rfl
  · rw [br_true, br_true, h, br_true]
theorem br_or {β : Type} (p q : Bool) (x y : β) : br (p || q) x y = br p x (br q x y) := by cases p <;> cases q <;> rfl
theorem br_r {β : Type} {p : Bool} {x y y' : β} (h : p = false → y = y') : br p x y = br p x y' := by
  cases p
  · rw [h rfl]
  · rfl
theorem kdOf_not (k : Str) : (k == [110, 111, 116]) = decide (kdOf k = .not_) := by
  obtain ⟨h0, h1, h2, h3, h4, h5, h6, h7, h8, h9, h10, h11, h12, h13, h14⟩ := kd_facts k
  exact h12

mutual
theorem ck_eq (lines : Int) (hl : 1 ≤ lines) (hl' : lines ≤ 16) : ∀ (c : Cond) (depth : Int), ckP lines c depth = ckR lines c depth
  | .mk kind a b mi ma pat nl kids, depth => by
    have ih := ckL_eq lines hl hl' kids (IntKind.i64.wrap (depth + 1))
    have hw : IntKind.i64.wrap (lines - 1) = lines - 1 := wrap_i64 (by omega) (by omega)
    have ho : ∀ x : Int, outside x 0 (lines - 1) = (decide (x < 0) || decide (x ≥ lines)) := fun x => by
      have : (x > lines - 1) = (x ≥ lines) := by apply propext; omega
      simp only [outside, this]
    rw [ckP, ckR]
    simp only [hw, ho, kdOf_not, ← ih]
    have hF := ckPL_bad lines (IntKind.i64.wrap (depth + 1)) kids
    have hF0 : decide ((kids.length : Int) > 0) = false → 0 = ckPL lines kids (IntKind.i64.wrap (depth + 1)) 0 := fun h => by
      have : kids = [] := by
        cases kids with
        | nil => rfl
        | cons c l => simp at h
      rw [this, ckPL]
    generalize ckPL lines kids (IntKind.i64.wrap (depth + 1)) = F at hF hF0
    generalize (decide (a < 0) || decide (a ≥ lines)) = oa
    generalize (decide (b < 0) || decide (b ≥ lines)) = ob
    have hmi : outside mi 1 255 = (within mi 1 255 != 0) := by rw [within, outside]; cases decide (mi < 1) || decide (mi > 255) <;> rfl
    have hma : outside ma 1 255 = (within ma 1 255 != 0) := by rw [within, outside]; cases decide (ma < 1) || decide (ma > 255) <;> rfl
    rw [hmi, hma]
    generalize hK : kdOf kind = K
    cases K <;> simp (decide := true) only [usesOf, Kd.known, Bool.not_true, Bool.not_false, Bool.true_and, Bool.false_and, Bool.false_or, Bool.or_false, Bool.true_or, Bool.or_true, br_false, br_true, first_nest, first_zero, first_first, List.cons_append, List.nil_append, first_nil, br_nest, br_push F hF, bne_self_eq_false, br_or, checkPat, decide_true, decide_false, reduceCtorEq]
    all_goals repeat' (refine br_r fun _ => ?_)
    all_goals first | rfl | (apply hF0; assumption) | skip
    rename_i hlen
    have hlen : (kids.length : Int) = 1 := by simpa using hlen
    rw [hlen]; rfl
theorem ckL_eq (lines : Int) (hl : 1 ≤ lines) (hl' : lines ≤ 16) : ∀ (l : List Cond) (depth : Int), ckPL lines l depth 0 = ckRL lines l depth
  | [], _ => by simp [ckPL, ckRL]
  | c :: l, depth => by
    have ih := ckL_eq lines hl hl' l depth
    rw [ckPL, ckRL, ck_eq lines hl hl' c depth]
    simp only [BEq.rfl, br_true]
    cases h : ckR lines c depth != 0
    · have : ckR lines c depth = 0 := by simpa using h
      rw [br_false, this, ih]
    · rw [br_true, ckPL_bad]
      simpa using h
end
end Go.Am

set_option linter.all false
namespace Go.Am
open Go
variable [MaxLen]
set_option maxRecDepth 100000
set_option maxHeartbeats 4000000

/-! # Contracts: checks of conditions and programs -/

theorem br_int (k : IntKind) (p : Bool) (x y : Int) : br p (AV.int k x) (AV.int k y) = .int k (br p x y) := by cases p <;> rfl
theorem br_bool (p x y : Bool) : br p (AV.bool x) (AV.bool y) = .bool (br p x y) := by cases p <;> rfl
theorem br_str (p : Bool) (x y : Str) : br p (AV.str x) (AV.str y) = .str (br p x y) := by cases p <;> rfl
theorem br_tt (p x : Bool) : br p true x = (p || x) := by cases p <;> rfl
theorem br_ff (p x : Bool) : br p false x = (!p && x) := by cases p <;> rfl
attribute [go_sem] br_int br_bool br_str

theorem c94 (n a b : Int) : calV U 94 [.int .i64 n, .int .i64 a, .int .i64 b] = some (.bool (outside n a b)) := by
  refine pure_go k94 (by kernel_rfl) rfl ?_
  simp +contextual only [go_sem, ↓reduceIte, r94]
  rfl
theorem c26 (n : Int) : calV U 26 [.int .i64 n] = some (.int .i64 (br (outside n 1 16) 3 0)) := by
  refine pure_go k26 (by kernel_rfl) rfl ?_
  simp +contextual only [go_sem, ↓reduceIte, r26, c94]
theorem c116 (p : Bool) (n : Int) : calV U 116 [.bool p, .int .i64 n] = some (.int .i64 (br p n 0)) := by
  refine pure_go k116 (by kernel_rfl) rfl ?_
  simp +contextual only [go_sem, ↓reduceIte, r116]
theorem c124 (n a b : Int) : calV U 124 [.int .i64 n, .int .i64 a, .int .i64 b] = some (.int .i64 (within n a b)) := by
  refine pure_go k124 (by kernel_rfl) rfl ?_
  simp +contextual only [go_sem, ↓reduceIte, r124, c116]
  rfl
theorem c88 (n : Int) : calV U 88 [.int .i64 n] = some (.int .i64 (within n 1 16)) := by
  refine pure_go k88 (by kernel_rfl) rfl ?_
  simp +contextual only [go_sem, ↓reduceIte, r88, c124]
end Go.Am

set_option linter.all false
namespace Go.Am
open Go
variable [MaxLen]
set_option maxRecDepth 100000
set_option maxHeartbeats 4000000

theorem loop_to {X : Cx} {β : Type} {fin : Fl → β} {ks : List K} [Stat] {b : RC} {σ : Type} (m : σ → Nat) (R : σ → β) (I : σ → Env → St → Prop) (x : σ) {r : β} {e : Env} {s : St}
    (h : ∀ (L : RC) (x : σ) (e : Env) (s : St), I x e s → (∀ (y : σ) (e' : Env) (s' : St), m y < m x → I y e' s' → goL X fin ks L e' s' = R y) → go X fin (.lp L :: ks) b e s = R x)
    (hr : R x = r) (hI : I x e s) : goL X fin ks b e s = r := by
  rw [← hr]; exact loop_rule X fin ks m I R h x hI
theorem ints_len (l : List Int) : (ints l).length = l.length := by simp [ints]
theorem ints_get (l : List Int) (i : Nat) : (ints l)[i]? = (l[i]?).map (.int .i64 ·) := by simp [ints]
theorem nat_lt_dec (a b : Nat) : decide ((a : Int) < (b : Int)) = decide (a < b) := by congr 1; apply propext; omega

theorem g89 (l : List Int) (hlen : l.length < 2 ^ 62) : go U (finP U [.tmp 2]) [] r89 (bindArgs 0 [.fz (ints l)] .nil) (ownSt U) = some (.int .i64 (firstOf l)) := by
  simp +contextual only [go_sem, ↓reduceIte, r89]
  refine loop_to (σ := Nat) (fun i => l.length - i) (fun i => some (AV.int .i64 (firstOf (l.drop i)))) (fun i e s => i ≤ l.length ∧ Env.get e 5 = .fz (ints l) ∧ Env.get e 6 = .int .i64 l.length ∧ Env.get e 7 = .int .i64 i) 0 ?_ rfl ?_
  · rintro L i e s ⟨hi, h5, h6, h7⟩ ih
    by_cases hd : i < l.length
    · have hx : (ints l)[i]? = some (.int .i64 l[i]) := by rw [ints_get, List.getElem?_eq_getElem hd]; rfl
      have hw : IntKind.i64.wrap ((i : Int) + 1) = ((i + 1 : Nat) : Int) := by rw [wrap_i64] <;> omega
      simp +contextual only [go_sem, ↓reduceIte, r89_l0, h5, h6, h7, nat_lt_dec, hd, hx]
      rw [List.drop_eq_getElem_cons hd, firstOf]
      cases hb : l[i] != 0
      · simp only [go_sem, hw]
        refine ih (i + 1) _ _ (by omega) ⟨by omega, ?_, ?_, ?_⟩ <;> simp +contextual only [go_sem, ↓reduceIte, h5, h6, h7, hw]
      · simp only [go_sem]
    · have : i = l.length := by omega
      subst this
      simp +contextual only [go_sem, ↓reduceIte, r89_l0, h5, h6, h7, nat_lt_dec, Nat.lt_irrefl]
      rw [List.drop_length]; rfl
  · refine ⟨Nat.zero_le _, ?_, ?_, ?_⟩ <;> simp +contextual only [go_sem, ↓reduceIte, ints_len] <;> rfl

def encU (u : Uses) : AV := .agg [.bool u.a, .bool u.b, .bool u.mi, .bool u.ma, .bool u.pat, .bool u.kids]
theorem c95 (k : Str) : calV U 95 [.str k] = some (.tup [encU (usesOf (kdOf k)), .bool (kdOf k).known]) := by
  refine pure_go k95 (by kernel_rfl) rfl ?_
  obtain ⟨h0, h1, h2, h3, h4, h5, h6, h7, h8, h9, h10, h11, h12, h13, h14⟩ := kd_facts k
  generalize kdOf k = d at *
  cases d
  all_goals simp only [reduceCtorEq, decide_true, decide_false] at h1 h2 h3 h4 h5 h6 h7 h8 h9 h10 h11 h12 h13 h14
  all_goals simp +contextual only [go_sem, ↓reduceIte, r95, h1, h2, h3, h4, h5, h6, h7, h8, h9, h10, h11, h12, h13, h14]
  all_goals rfl
end Go.Am

set_option linter.all false
namespace Go.Am
open Go
variable [MaxLen]
set_option maxRecDepth 100000
set_option maxHeartbeats 4000000

theorem Cond.ind {P : Cond → Prop} (h : ∀ k a b mi ma p nl kids, (∀ x ∈ kids, P x) → P (.mk k a b mi ma p nl kids)) : ∀ c, P c := by
  intro c
  exact Cond.rec (motive_1 := P) (motive_2 := fun l => ∀ x ∈ l, P x) (fun k a b mi ma p nl kids ih => h k a b mi ma p nl kids ih) (fun x hx => by cases hx)
    (fun c l h1 h2 x hx => by
      rcases List.mem_cons.1 hx with rfl | hx
      · exact h1
      · exact h2 x hx) c
theorem still_encC (c : Cond) : still (encC c) = true := by
  cases c; simp [encC, still, stills, still_encS]
theorem encS_ne {nl : Bool} {l : List AV} (h : l ≠ []) : encS nl l = .fz l := by
  cases l with
  | nil => exact absurd rfl h
  | cons x l => exact encS_cons ..
theorem encL_ne {l : List Cond} {i : Nat} (h : i < l.length) : encL l ≠ [] := by
  intro e; have := encL_len l; rw [e] at this; simp at this; omega
/-- nothing in it that cannot lie in a machine's memory -/
def Cond.fits : Cond → Prop
  | .mk _ _ _ _ _ pat _ kids => pat.length < 2 ^ 30 ∧ kids.length < 2 ^ 30 ∧ ∀ x ∈ kids, x.fits
theorem byte_eq (c : UInt8) (n : Int) (d : UInt8) (h : n = (d.toNat : Int)) : ((c.toNat : Int) == n) = (c == d) := by
  subst h
  by_cases e : c = d
  · subst e
    rw [beq_self_eq_true, beq_self_eq_true]
  · have h1 : (c.toNat : Int) ≠ (d.toNat : Int) := fun h => e (UInt8.toNat_inj.1 (by omega))
    rw [beq_eq_false_iff_ne.2 h1, beq_eq_false_iff_ne.2 e]
theorem byte_ne (c : UInt8) (n : Int) (d : UInt8) (h : n = (d.toNat : Int)) : ((c.toNat : Int) != n) = (c != d) := by
  rw [bne, bne, byte_eq c n d h]
theorem wrap_succ {i n : Nat} (h : i < n) (hn : n < 2 ^ 62) : IntKind.i64.wrap ((i : Int) + 1) = ((i + 1 : Nat) : Int) := by rw [wrap_i64] <;> omega
theorem c96 (pat : Str) (n : Int) (hl : pat.length < 2 ^ 30) : calV U 96 [.str pat, .int .i64 n] = some (.bool (badPat pat n)) := by
  refine pure_go k96 (by kernel_rfl) rfl ?_
  simp +contextual only [go_sem, ↓reduceIte, r96, badPat]
  cases hb : (pat.length : Int) != n
  · simp +contextual only [go_sem, ↓reduceIte, Bool.false_or]
    refine loop_to (σ := Nat) (fun i => pat.length - i) (fun i => some (AV.bool ((pat.drop i).any fun c => c != 48 && c != 49 && c != 120))) (fun i e s => i ≤ pat.length ∧ Env.get e 0 = .str pat ∧ Env.get e 5 = .int .i64 i) 0 ?_ rfl ?_
    · rintro L i e s ⟨hi, h0, h5⟩ ih
      by_cases hd : i < pat.length
      · have hx : pat[i]? = some pat[i] := List.getElem?_eq_getElem hd
        have hw := wrap_succ hd (by omega)
        simp +contextual only [go_sem, ↓reduceIte, r96_l0, h0, h5, nat_lt_dec, hd, hx, byte_ne _ 48 48 rfl, byte_ne _ 49 49 rfl, byte_ne _ 120 120 rfl]
        rw [List.drop_eq_getElem_cons hd, List.any_cons]
        cases hc : pat[i] != 48 && pat[i] != 49 && pat[i] != 120
        · rw [Bool.false_or]
          simp +contextual only [go_sem, ↓reduceIte, hc, hw, br_false]
          refine ih (i + 1) _ _ (by omega) ⟨by omega, ?_, ?_⟩ <;> simp +contextual only [go_sem, ↓reduceIte, h0, h5, hw]
        · simp +contextual only [go_sem, ↓reduceIte, hc, Bool.true_or]
      · have : i = pat.length := by omega
        subst this
        simp +contextual only [go_sem, ↓reduceIte, r96_l0, h0, h5, nat_lt_dec, Nat.lt_irrefl]
        rw [List.drop_length]; rfl
    · refine ⟨Nat.zero_le _, ?_, ?_⟩ <;> simp +contextual only [go_sem, ↓reduceIte] <;> rfl
  · simp +contextual only [go_sem, ↓reduceIte, Bool.true_or]
end Go.Am

set_option linter.all false
namespace Go.Am
open Go
variable [MaxLen]
set_option maxRecDepth 100000
set_option maxHeartbeats 8000000

theorem brI_some (k : IntKind) (p : Bool) (x y : Int) : some (AV.int k (br p x y)) = br p (some (.int k x)) (some (.int k y)) := by cases p <;> rfl
theorem brB_some (p x y : Bool) : some (AV.bool (br p x y)) = br p (some (.bool x)) (some (.bool y)) := by cases p <;> rfl
theorem stills1 (c : Cond) (a b : Int) : stills [.int .i64 a, encC c, .int .i64 b] = true := by simp [stills, still, still_encC]
theorem c27 (lines : Int) : ∀ c : Cond, c.fits → ∀ depth : Int, calV U 27 [.int .i64 lines, encC c, .int .i64 depth] = some (.int .i64 (ckR lines c depth)) := by
  intro c
  induction c using Cond.ind with
  | h kind a b mi ma pat nl kids ih =>
  intro hf depth
  rw [Cond.fits] at hf
  obtain ⟨f1, f2, f3⟩ := hf
  refine pure_go k27 (by kernel_rfl) (stills1 _ _ _) ?_
  rw [encC, ckR]
  simp (config := { maxSteps := 2000000 }) +contextual only [go_sem, ↓reduceIte, r27, c95, c94, c96 pat _ f1, encU, lenL_encS, encL_len, cells_encS, noAgg_encS]
  simp only [brI_some]
  refine br_r fun _ => br_r fun _ => br_r fun _ => br_r fun _ => br_r fun _ => br_r fun _ => br_r fun _ => br_r fun _ => br_r fun _ => br_r fun _ => br_r fun _ => ?_
  refine loop_to (σ := Nat) (fun i => kids.length - i) (fun i => some (AV.int .i64 (ckRL lines (kids.drop i) (IntKind.i64.wrap (depth + 1))))) (fun i e s => i ≤ kids.length ∧ Env.get e 9 = .int .i64 i ∧ Env.get e 0 = .int .i64 lines ∧ Env.get e 2 = .int .i64 depth ∧ Env.get e 4 = .ptr 8 0 ∧
    s.get 8 = some (.cells [.str kind, .int .i64 a, .int .i64 b, .int .i64 mi, .int .i64 ma, .str pat, encS nl (encL kids)] 39 false 0 0)) 0 ?_ rfl ?_
  · rintro L i e s ⟨hi, h9, h0, h2, h4, hs⟩ IH
    by_cases hd : i < kids.length
    · have hx : (encL kids)[i]? = some (encC kids[i]) := by rw [encL_get, List.getElem?_eq_getElem hd]; rfl
      have hw := wrap_succ hd (by omega)
      have hc := ih kids[i] (List.getElem_mem hd) (f3 _ (List.getElem_mem hd)) (IntKind.i64.wrap (depth + 1))
      rw [encS_ne (encL_ne hd)] at hs
      rw [encC_cells] at hx hc
      simp only [Cond.cells] at hx hc
      simp +contextual only [go_sem, ↓reduceIte, r27_l0, h9, h0, h2, h4, hs, nat_lt_dec, hd, encL_len, hx, hc]
      rw [List.drop_eq_getElem_cons hd, ckRL]
      cases hb : ckR lines kids[i] (IntKind.i64.wrap (depth + 1)) != 0
      · simp only [go_sem, ↓reduceIte, hw]
        refine IH (i + 1) _ _ (by omega) ⟨by omega, ?_, ?_, ?_, ?_, ?_⟩ <;> simp +contextual only [go_sem, ↓reduceIte, h9, h0, h2, h4, hs, hw, encS_ne (encL_ne hd)]
      · simp only [go_sem, ↓reduceIte]
    · have : i = kids.length := by omega
      subst this
      simp +contextual only [go_sem, ↓reduceIte, r27_l0, h9, h0, h2, h4, hs, lenL_encS, encL_len, nat_lt_dec, Nat.lt_irrefl]
      rw [List.drop_length, ckRL]
  · refine ⟨Nat.zero_le _, ?_, ?_, ?_, ?_, ?_⟩ <;> simp +contextual only [go_sem, ↓reduceIte] <;> rfl
end Go.Am

set_option linter.all false
namespace Go.Am
open Go
variable [MaxLen]
set_option maxRecDepth 100000
set_option maxHeartbeats 8000000

def Prog.fits (p : Prog) : Prop := p.steps.length < 2 ^ 30 ∧ ∀ s ∈ p.steps, s.cond.fits
def encSteps (l : List Step) : List AV := l.map encStep
theorem encSteps_len (l : List Step) : (encSteps l).length = l.length := by simp [encSteps]
theorem encSteps_get (l : List Step) (i : Nat) : (encSteps l)[i]? = (l[i]?).map encStep := by simp [encSteps]
theorem encSteps_ne {l : List Step} {i : Nat} (h : i < l.length) : encSteps l ≠ [] := by
  intro e; have := encSteps_len l; rw [e] at this; simp at this; omega
theorem encP_eq (p : Prog) : encP p = .agg [.int .i64 p.lines, encS p.nl (encSteps p.steps)] := rfl
theorem still_encP (p : Prog) : still (encP p) = true := by simp [encP, still, stills, still_encS]

def cpRL (lines : Int) : Nat → List Step → Int
  | _, [] => 0
  | i, s :: l => br (ckR lines s.cond 1 != 0) (ckR lines s.cond 1) <|
    br (outside s.times 1 64 || outside s.within 0 255 || ((i : Int) == 0) && s.within != 0) 3 <| cpRL lines (i + 1) l
def checkLines (n : Int) : Int := br (outside n 1 16) 3 0
def cpR (p : Prog) : Int :=
  br (checkLines p.lines != 0) (checkLines p.lines) <| br ((p.steps.length : Int) == 0) 12 <| br (decide ((p.steps.length : Int) > 8)) 5 <| cpRL p.lines 0 p.steps

theorem c34 (p : Prog) (hf : p.fits) : calV U 34 [encP p] = some (.int .i64 (cpR p)) := by
  obtain ⟨lines, nl, steps⟩ := p
  obtain ⟨f1, f2⟩ := hf
  simp only at f1 f2
  refine pure_go k34 (by kernel_rfl) (by simp [stills, still_encP]) ?_
  rw [encP_eq, cpR, checkLines]
  simp (config := { maxSteps := 2000000 }) +contextual only [go_sem, ↓reduceIte, r34, c26, lenL_encS, encSteps_len, cells_encS, noAgg_encS]
  simp only [brI_some]
  refine br_r fun _ => ?_
  refine br_r fun _ => ?_
  refine br_r fun _ => ?_
  refine loop_to (σ := Nat) (fun i => steps.length - i) (fun i => some (AV.int .i64 (cpRL lines i (steps.drop i)))) (fun i e s => i ≤ steps.length ∧ Env.get e 4 = .int .i64 i ∧ Env.get e 1 = .ptr 8 0 ∧ 8 < s.next ∧
    s.get 8 = some (.cells [.int .i64 lines, encS nl (encSteps steps)] 31 false 0 0)) 0 ?_ rfl ?_
  · rintro L i e s ⟨hi, h4, h1, hn, hs⟩ IH
    by_cases hd : i < steps.length
    · have hx : (encSteps steps)[i]? = some (encStep steps[i]) := by rw [encSteps_get, List.getElem?_eq_getElem hd]; rfl
      have hw := wrap_succ hd (by omega)
      have hne : ¬ s.next = 8 := by omega
      have hc := c27 lines steps[i].cond (f2 _ (List.getElem_mem hd)) 1
      rw [encS_ne (encSteps_ne hd)] at hs
      rw [encC_cells] at hc
      simp only [Cond.cells, encStep] at hx hc
      simp +contextual only [go_sem, ↓reduceIte, r34_l0, h4, h1, hs, nat_lt_dec, hd, encSteps_len, hx, hc, hne, noAgg_encS, c94, br_tt]
      rw [List.drop_eq_getElem_cons hd, cpRL]
      simp only [brI_some]
      refine br_r fun _ => ?_
      cases hb : (outside steps[i].times 1 64 || outside steps[i].within 0 255 || (i : Int) == 0 && steps[i].within != 0)
      · simp only [go_sem, ↓reduceIte, hw]
        refine IH (i + 1) _ _ (by omega) ⟨by omega, ?_, ?_, ?_, ?_⟩ <;> simp +contextual only [go_sem, ↓reduceIte, h4, h1, hs, hw, hne, encS_ne (encSteps_ne hd)]
        omega
      · simp only [go_sem, ↓reduceIte]
    · have : i = steps.length := by omega
      subst this
      simp +contextual only [go_sem, ↓reduceIte, r34_l0, h4, h1, hs, lenL_encS, encSteps_len, nat_lt_dec, Nat.lt_irrefl]
      rw [List.drop_length, cpRL]
  · refine ⟨Nat.zero_le _, ?_, ?_, ?_, ?_⟩ <;> simp +contextual only [go_sem, ↓reduceIte] <;> rfl
end Go.Am

set_option linter.all false
namespace Go.Am
open Go
variable [MaxLen]
set_option maxRecDepth 100000
/-- strings.Trim; results .tmp 4 -/
def r212 : RC := (.seq (.ops [⟨some 4, none, none, false, .mov (.v (.str []))⟩]) (.seq (.seq (.ops [⟨some 7, none, none, false, .mov (.t 0)⟩,
  ⟨some 8, none, none, false, .bin .eql 9 true (.t 7) (.v (.str []))⟩,
  ⟨some 9, none, none, false, .mov (.t 8)⟩,
  ⟨some 10, some (9, false), none, false, .mov (.t 1)⟩,
  ⟨some 11, some (9, false), none, false, .bin .eql 9 true (.t 10) (.v (.str []))⟩,
  ⟨some 12, none, none, false, .pick (.t 9) (.v (.bool true)) (.t 11)⟩]) (.cond (.t 12) (.seq (.ops [⟨some 13, none, none, false, .mov (.t 0)⟩,
  ⟨some 4, none, none, false, .mov (.t 13)⟩]) .ret) .skip)) (.seq (.seq (.ops [⟨some 14, none, none, false, .mov (.t 1)⟩,
  ⟨some 15, none, none, false, .lenS (.t 14)⟩,
  ⟨some 16, none, none, false, .bin .eql 3 true (.t 15) (.v (.int .i64 1))⟩,
  ⟨some 17, none, none, false, .mov (.t 16)⟩,
  ⟨some 18, some (17, true), none, false, .mov (.t 1)⟩,
  ⟨some 19, some (17, true), none, false, .ixs (.t 18) (.v (.int .i64 0))⟩,
  ⟨some 20, some (17, true), none, false, .bin .lss 5 true (.t 19) (.v (.int .u8 128))⟩,
  ⟨some 21, none, none, false, .pick (.t 17) (.t 20) (.v (.bool false))⟩]) (.cond (.t 21) (.seq (.drw 8 [⟨some 22, none, none, false, .mov (.t 0)⟩,
  ⟨some 23, none, none, false, .mov (.t 1)⟩,
  ⟨some 24, none, none, false, .ixs (.t 23) (.v (.int .i64 0))⟩,
  ⟨some 25, none, none, false, .call 238 [(.t 22), (.t 24)]⟩,
  ⟨some 26, none, none, false, .mov (.t 1)⟩,
  ⟨some 27, none, none, false, .ixs (.t 26) (.v (.int .i64 0))⟩,
  ⟨some 28, none, none, false, .call 237 [(.t 25), (.t 27)]⟩,
  ⟨some 4, none, none, false, .mov (.t 28)⟩]) .ret) .skip)) (.seq (.seq (.ops [⟨some 30, none, none, false, .mov (.t 1)⟩,
  ⟨some 31, none, none, false, .call 239 [(.t 30)]⟩,
  ⟨some 29, none, none, false, .mov (.t 31)⟩,
  ⟨some 32, none, none, false, .ext (.t 29) 0⟩,
  ⟨some 33, none, none, false, .ext (.t 29) 1⟩,
  ⟨some 5, none, none, false, .al [(.bool false), (.bool false), (.bool false), (.bool false), (.bool false), (.bool false), (.bool false), (.bool false), (.bool false), (.bool false), (.bool false), (.bool false), (.bool false), (.bool false), (.bool false), (.bool false), (.bool false), (.bool false), (.bool false), (.bool false), (.bool false), (.bool false), (.bool false), (.bool false), (.bool false), (.bool false), (.bool false), (.bool false), (.bool false), (.bool false), (.bool false), (.bool false), (.bool false), (.bool false), (.bool false), (.bool false), (.bool false), (.bool false), (.bool false), (.bool false), (.bool false), (.bool false), (.bool false), (.bool false), (.bool false), (.bool false), (.bool false), (.bool false), (.bool false), (.bool false), (.bool false), (.bool false), (.bool false), (.bool false), (.bool false), (.bool false), (.bool false), (.bool false), (.bool false), (.bool false), (.bool false), (.bool false), (.bool false), (.bool false), (.bool false), (.bool false), (.bool false), (.bool false), (.bool false), (.bool false), (.bool false), (.bool false), (.bool false), (.bool false), (.bool false), (.bool false), (.bool false), (.bool false), (.bool false), (.bool false), (.bool false), (.bool false), (.bool false), (.bool false), (.bool false), (.bool false), (.bool false), (.bool false), (.bool false), (.bool false), (.bool false), (.bool false), (.bool false), (.bool false), (.bool false), (.bool false), (.bool false), (.bool false), (.bool false), (.bool false), (.bool false), (.bool false), (.bool false), (.bool false), (.bool false), (.bool false), (.bool false), (.bool false), (.bool false), (.bool false), (.bool false), (.bool false), (.bool false), (.bool false), (.bool false), (.bool false), (.bool false), (.bool false), (.bool false), (.bool false), (.bool false), (.bool false), (.bool false), (.bool false), (.bool false), (.bool false), (.bool false), (.bool false), (.bool false), (.bool false), (.bool false), (.bool false), (.bool false), (.bool false), (.bool false), (.bool false), (.bool false), (.bool false), (.bool false), (.bool false), (.bool false), (.bool false), (.bool false), (.bool false), (.bool false), (.bool false), (.bool false), (.bool false), (.bool false), (.bool false), (.bool false), (.bool false), (.bool false), (.bool false), (.bool false), (.bool false), (.bool false), (.bool false), (.bool false), (.bool false), (.bool false), (.bool false), (.bool false), (.bool false), (.bool false), (.bool false), (.bool false), (.bool false), (.bool false), (.bool false), (.bool false), (.bool false), (.bool false), (.bool false), (.bool false), (.bool false), (.bool false), (.bool false), (.bool false), (.bool false), (.bool false), (.bool false), (.bool false), (.bool false), (.bool false), (.bool false), (.bool false), (.bool false), (.bool false), (.bool false), (.bool false), (.bool false), (.bool false), (.bool false), (.bool false), (.bool false), (.bool false), (.bool false), (.bool false), (.bool false), (.bool false), (.bool false), (.bool false), (.bool false), (.bool false), (.bool false), (.bool false), (.bool false), (.bool false), (.bool false), (.bool false), (.bool false), (.bool false), (.bool false), (.bool false), (.bool false), (.bool false), (.bool false), (.bool false), (.bool false), (.bool false), (.bool false), (.bool false), (.bool false), (.bool false), (.bool false), (.bool false), (.bool false), (.bool false), (.bool false), (.bool false), (.bool false), (.bool false), (.bool false), (.bool false), (.bool false), (.bool false), (.bool false), (.bool false), (.bool false), (.bool false), (.bool false), (.bool false), (.bool false), (.bool false), (.bool false), (.bool false), (.bool false), (.bool false), (.bool false), (.bool false), (.bool false), (.bool false), (.bool false), (.bool false), (.bool false)] 305⟩,
  ⟨none, none, none, false, .st 256 (.t 5) (.t 32)⟩,
  ⟨some 6, none, none, false, .mov (.t 33)⟩]) (.seq (.ops [⟨some 34, none, none, false, .mov (.t 6)⟩]) (.cond (.t 34) (.seq (.ops [⟨some 35, none, none, false, .mov (.t 0)⟩,
  ⟨some 36, none, none, false, .call 241 [(.t 35), (.t 5)]⟩,
  ⟨some 37, none, none, false, .call 240 [(.t 36), (.t 5)]⟩,
  ⟨some 4, none, none, false, .mov (.t 37)⟩]) .ret) .skip))) (.seq (.ops [⟨some 38, none, none, false, .mov (.t 0)⟩,
  ⟨some 39, none, none, false, .mov (.t 1)⟩,
  ⟨some 40, none, none, false, .call 243 [(.t 38), (.t 39)]⟩,
  ⟨some 41, none, none, false, .mov (.t 1)⟩,
  ⟨some 42, none, none, false, .call 242 [(.t 40), (.t 41)]⟩,
  ⟨some 4, none, none, false, .mov (.t 42)⟩]) .ret)))))
theorem k212 : fnRC 212 = some ([.tmp 4], r212) := by kernel_rfl

def r240_l0 : RC := (.seq (.seq (.ops [⟨some 5, none, none, false, .mov (.t 0)⟩,
  ⟨some 6, none, none, false, .lenS (.t 5)⟩,
  ⟨some 7, none, none, false, .bin .gtr 3 true (.t 6) (.v (.int .i64 0))⟩]) (.cond (.t 7) .skip (.exit 0))) (.block 1 (.seq (.seq (.ops [⟨some 8, none, none, false, .mov (.t 1)⟩,
  ⟨some 9, none, none, false, .mov (.t 0)⟩,
  ⟨some 10, none, none, false, .ixs (.t 9) (.v (.int .i64 0))⟩,
  ⟨some 11, none, none, false, .call 263 [(.t 8), (.t 10)]⟩,
  ⟨some 12, none, none, false, .un .not (.t 11)⟩]) (.cond (.t 12) (.exit 0) .skip)) (.ops [⟨some 13, none, none, false, .mov (.t 0)⟩,
  ⟨some 14, none, none, false, .sls (.t 13) (some (.v (.int .i64 1))) none⟩,
  ⟨some 0, none, none, false, .mov (.t 14)⟩]))))
/-- strings.trimLeftASCII; results .tmp 4 -/
def r240 : RC := (.seq (.ops [⟨some 4, none, none, false, .mov (.v (.str []))⟩]) (.seq (.block 0 (.loop r240_l0)) (.seq (.ops [⟨some 15, none, none, false, .mov (.t 0)⟩,
  ⟨some 4, none, none, false, .mov (.t 15)⟩]) .ret)))
theorem k240 : fnRC 240 = some ([.tmp 4], r240) := by kernel_rfl

def r241_l0 : RC := (.seq (.seq (.ops [⟨some 5, none, none, false, .mov (.t 0)⟩,
  ⟨some 6, none, none, false, .lenS (.t 5)⟩,
  ⟨some 7, none, none, false, .bin .gtr 3 true (.t 6) (.v (.int .i64 0))⟩]) (.cond (.t 7) .skip (.exit 0))) (.block 1 (.seq (.seq (.ops [⟨some 8, none, none, false, .mov (.t 1)⟩,
  ⟨some 9, none, none, false, .mov (.t 0)⟩,
  ⟨some 10, none, none, false, .mov (.t 0)⟩,
  ⟨some 11, none, none, false, .lenS (.t 10)⟩,
  ⟨some 12, none, none, false, .bin .sub 3 true (.t 11) (.v (.int .i64 1))⟩,
  ⟨some 13, none, none, false, .ixs (.t 9) (.t 12)⟩,
  ⟨some 14, none, none, false, .call 263 [(.t 8), (.t 13)]⟩,
  ⟨some 15, none, none, false, .un .not (.t 14)⟩]) (.cond (.t 15) (.exit 0) .skip)) (.ops [⟨some 16, none, none, false, .mov (.t 0)⟩,
  ⟨some 17, none, none, false, .mov (.t 0)⟩,
  ⟨some 18, none, none, false, .lenS (.t 17)⟩,
  ⟨some 19, none, none, false, .bin .sub 3 true (.t 18) (.v (.int .i64 1))⟩,
  ⟨some 20, none, none, false, .sls (.t 16) none (some (.t 19))⟩,
  ⟨some 0, none, none, false, .mov (.t 20)⟩]))))
/-- strings.trimRightASCII; results .tmp 4 -/
def r241 : RC := (.seq (.ops [⟨some 4, none, none, false, .mov (.v (.str []))⟩]) (.seq (.block 0 (.loop r241_l0)) (.seq (.ops [⟨some 21, none, none, false, .mov (.t 0)⟩,
  ⟨some 4, none, none, false, .mov (.t 21)⟩]) .ret)))
theorem k241 : fnRC 241 = some ([.tmp 4], r241) := by kernel_rfl

/-- (*strings.asciiSet).contains; results .tmp 4 -/
def r263 : RC := (.seq (.ops [⟨some 4, none, none, false, .mov (.v (.bool false))⟩]) (.seq (.ops [⟨some 5, none, none, false, .mov (.t 0)⟩,
  ⟨some 6, none, none, false, .mov (.t 1)⟩,
  ⟨some 7, none, none, false, .raw (.nilCheck (.tmp 5))⟩,
  ⟨some 8, none, none, false, .ixp 256 1 (.t 7) (.t 6)⟩,
  ⟨some 9, none, none, false, .ld1 (.t 8)⟩,
  ⟨some 4, none, none, false, .mov (.t 9)⟩]) .ret))
theorem k263 : fnRC 263 = some ([.tmp 4], r263) := by kernel_rfl

end Go.Am

set_option linter.all false
namespace Go.Am
open Go
variable [MaxLen]
set_option maxRecDepth 100000
set_option maxHeartbeats 8000000

/-! # The program's table of kinds, and its check of a condition -/

def kSize : Kd → AV
  | .high => .fn (.func 194) [] []
  | .low => .fn (.func 194) [] []
  | .rise => .fn (.func 194) [] []
  | .fall => .fn (.func 194) [] []
  | .pattern => .fn (.func 194) [] []
  | .enter => .fn (.func 194) [] []
  | .pulse => .fn (.func 192) [] []
  | .gap => .fn (.func 192) [] []
  | .idle => .fn (.func 193) [] []
  | .setup => .fn (.func 193) [] []
  | .runt => .fn (.func 210) [] []
  | _ => .nilfn
def kStart : Kd → AV
  | .high => .fn (.func 195) [] []
  | .low => .fn (.func 195) [] []
  | .rise => .fn (.func 195) [] []
  | .fall => .fn (.func 195) [] []
  | .pattern => .fn (.func 195) [] []
  | .enter => .fn (.func 195) [] []
  | .pulse => .fn (.func 195) [] []
  | .gap => .fn (.func 195) [] []
  | .idle => .fn (.func 195) [] []
  | .setup => .fn (.func 208) [] []
  | .runt => .fn (.func 195) [] []
  | _ => .nilfn
def kStep : Kd → AV
  | .high => .fn (.func 235) [] [.fp [.fn (.func 197) [] []] 0]
  | .low => .fn (.func 235) [] [.fp [.fn (.func 199) [] []] 0]
  | .rise => .fn (.func 235) [] [.fp [.fn (.func 200) [] []] 0]
  | .fall => .fn (.func 235) [] [.fp [.fn (.func 202) [] []] 0]
  | .pattern => .fn (.func 235) [] [.fp [.fn (.func 203) [] []] 0]
  | .enter => .fn (.func 235) [] [.fp [.fn (.func 205) [] []] 0]
  | .pulse => .fn (.func 236) [] [.fp [.bool true] 0]
  | .gap => .fn (.func 236) [] [.fp [.bool false] 0]
  | .idle => .fn (.func 207) [] []
  | .setup => .fn (.func 209) [] []
  | .runt => .fn (.func 211) [] []
  | _ => .nilfn
def kindV (d : Kd) : AV := .agg [.bool (usesOf d).a, .bool (usesOf d).b, .bool (usesOf d).mi, .bool (usesOf d).ma, .bool (usesOf d).pat, .bool (usesOf d).kids, kSize d, kStart d, kStep d]
def kindKs : List AV := [.str [104, 105, 103, 104], .str [108, 111, 119], .str [114, 105, 115, 101], .str [102, 97, 108, 108], .str [112, 97, 116, 116, 101, 114, 110], .str [101, 110, 116, 101, 114], .str [112, 117, 108, 115, 101], .str [103, 97, 112], .str [105, 100, 108, 101], .str [115, 101, 116, 117, 112], .str [114, 117, 110, 116], .str [110, 111, 116], .str [97, 108, 108], .str [97, 110, 121]]
def kindVs : List AV := [kindV .high, kindV .low, kindV .rise, kindV .fall, kindV .pattern, kindV .enter, kindV .pulse, kindV .gap, kindV .idle, kindV .setup, kindV .runt, kindV .not_, kindV .all_, kindV .any_]
theorem c156 : calV U 156 [] = some (.fm kindKs kindVs) := v_of_q (by kernel_rfl) rfl (callQ_run U (n := 100000) (by kernel_rfl))
theorem lookup_kinds (k : Str) (ok : Bool) (s : St) : lookupA U 238 (.fm kindKs kindVs) (.str k) ok s = some (if ok then .tup [kindV (kdOf k), .bool (kdOf k).known] else kindV (kdOf k)) := by
  have hu : U.und 238 = some (.map 9 236) := by kernel_rfl
  have h9 : U.und 9 = some .string := by kernel_rfl
  have hz : zero U 236 = some (kindV .other) := by kernel_rfl
  obtain ⟨h0, h1, h2, h3, h4, h5, h6, h7, h8, h9', h10, h11, h12, h13, h14⟩ := kd_facts k
  unfold lookupA
  rw [hu]
  simp only [keyOk, h9, if_true, kindKs, kindVs, List.zip_cons_cons, List.zip_nil_left]
  generalize kdOf k = d at *
  cases d <;> simp only [reduceCtorEq, decide_true, decide_false] at h1 h2 h3 h4 h5 h6 h7 h8 h9' h10 h11 h12 h13 h14 <;>
    simp only [findA, keyEq, h1, h2, h3, h4, h5, h6, h7, h8, h9', h10, h11, h12, h13, h14, hz] <;> rfl
def lookK (X : Cx) (t : TypeId) (ok : Bool) (m k : Option AV) (s : St) : Option (AV × St) := match m, k with
  | some m, some k => pureO (lookupA X t m k ok s) s
  | _, _ => none
theorem opA_lookup (X : Cx) (ex : Ex) (e : Env) (s : St) (t : TypeId) (m k : Operand) (ok : Bool) : opA X ex e (.lookup t m k ok) s = lookK X t ok (eval X e m) (eval X e k) s := by
  unfold lookK
  simp only [opA]
  rfl
theorem lookK_some (X : Cx) (t : TypeId) (ok : Bool) (m k : AV) (s : St) : lookK X t ok (some m) (some k) s = pureO (lookupA X t m k ok s) s := (fun h => h) rfl
theorem lookup_kinds1 (k : Str) (s : St) : lookupA U 238 (.fm kindKs kindVs) (.str k) true s = some (.tup [kindV (kdOf k), .bool (kdOf k).known]) := lookup_kinds k true s
theorem lookup_kinds0 (k : Str) (s : St) : lookupA U 238 (.fm kindKs kindVs) (.str k) false s = some (kindV (kdOf k)) := lookup_kinds k false s
attribute [go_sem] opA_lookup lookK_some

/-! The set of the three bytes of a pattern -/
def setA : List AV := (List.range 256).map fun n => .bool (Nat.beq n 48 || Nat.beq n 49 || Nat.beq n 120)
theorem setA_len : setA.length = 256 := by simp [setA]
theorem setA_noAgg : setA.all noAgg = true := by simp [setA, noAgg]
theorem setA_get (c : UInt8) : setA[c.toNat]? = some (.bool (c == 48 || c == 49 || c == 120)) := by
  have hc : c.toNat < 256 := c.toNat_lt
  have e : ∀ d : UInt8, Nat.beq c.toNat d.toNat = (c == d) := fun d => by
    rw [Bool.eq_iff_iff, Nat.beq_eq, beq_iff_eq]
    exact UInt8.toNat_inj
  have e1 := e 48
  have e2 := e 49
  have e3 := e 120
  simp only [setA, List.getElem?_map, List.getElem?_range hc, Option.map_some]
  rw [← e1, ← e2, ← e3]
  rfl
theorem c239 : calV U 239 [.str [48, 49, 120]] = some (.tup [.agg setA, .bool true]) := v_of_q (by kernel_rfl) rfl (callQ_run U (n := 100000) (by kernel_rfl))
end Go.Am

set_option linter.all false
namespace Go.Am
open Go
variable [MaxLen]
set_option maxRecDepth 100000
set_option maxHeartbeats 8000000

theorem sls_hi (b : Str) (k : IntKind) (n : Int) : slRS (.str b) none (some (.int k n)) = if 0 ≤ n ∧ n ≤ b.length then some (.str (b.take n.toNat)) else none := by
  simp only [slRS, boundA]
  by_cases h : 0 ≤ n ∧ n ≤ b.length
  · simp [h]
  · simp [h]
theorem sls_lo (b : Str) (k : IntKind) (n : Int) : slRS (.str b) (some (.int k n)) none = if 0 ≤ n ∧ n ≤ b.length then some (.str (b.drop n.toNat)) else none := by
  simp only [slRS, boundA]
  by_cases h : 0 ≤ n ∧ n ≤ b.length
  · simp [h]
  · simp [h]
attribute [go_sem] sls_hi sls_lo

theorem c263 (c : UInt8) : calV U 263 [.fp setA 0, .int .u8 c.toNat] = some (.bool (c == 48 || c == 49 || c == 120)) := by
  have hc : c.toNat < 256 := c.toNat_lt
  have hx := setA_get c
  have h0 : (0 : Int) ≤ (c.toNat : Int) := by omega
  refine pure_go k263 (by kernel_rfl) rfl ?_
  simp +contextual only [go_sem, ↓reduceIte, r263, hx, hc, Nat.mul_one, i_toNat]
def inSet (c : UInt8) : Bool := c == 48 || c == 49 || c == 120
def trimRt (s : Str) : Str := (s.reverse.dropWhile inSet).reverse
theorem trimRt_last (l : Str) (c : UInt8) : trimRt (l ++ [c]) = bif inSet c then trimRt l else l ++ [c] := by
  unfold trimRt
  rw [List.reverse_append, List.reverse_singleton, List.singleton_append, List.dropWhile_cons]
  cases inSet c <;> simp
theorem trim_all (s : Str) : ((trimRt s).dropWhile inSet == []) = s.all inSet := by
  have h1 : ∀ l : Str, (l.dropWhile inSet = []) ↔ l.all inSet = true := fun l => by
    induction l with
    | nil => simp
    | cons c l ih =>
      rw [List.dropWhile_cons, List.all_cons]
      cases h : inSet c <;> simp [ih]
  rw [Bool.eq_iff_iff, beq_iff_eq, h1]
  unfold trimRt
  rw [List.all_reverse]
  constructor
  · intro h
    have h2 : s.reverse.dropWhile inSet = [] := by
      cases hd : s.reverse.dropWhile inSet with
      | nil => rfl
      | cons c l =>
        exfalso
        rw [hd] at h
        have := List.head?_dropWhile_not (p := inSet) (l := s.reverse)
        rw [hd] at this
        simp only [List.head?_cons] at this
        simp only [List.all_cons, Bool.and_eq_true] at h
        simp [h.1] at this
    rw [h1, List.all_reverse] at h2
    exact h2
  · intro h
    have : s.reverse.dropWhile inSet = [] := by rw [h1, List.all_reverse]; exact h
    rw [this]; rfl
theorem c240 (s : Str) (hl : s.length < 2 ^ 30) : calV U 240 [.str s, .fp setA 0] = some (.str (s.dropWhile inSet)) := by
  refine pure_go k240 (by kernel_rfl) rfl ?_
  simp +contextual only [go_sem, ↓reduceIte, r240]
  refine loop_to (σ := Str) (fun x => x.length) (fun x => some (AV.str (x.dropWhile inSet))) (fun x e s => Env.get e 0 = .str x ∧ Env.get e 1 = .fp setA 0) s ?_ rfl ?_
  · rintro L x e s ⟨h0, h1⟩ ih
    cases x with
    | nil =>
      simp +contextual only [go_sem, ↓reduceIte, r240_l0, h0, h1, gt_iff_lt, Int.natCast_zero, Int.lt_irrefl]
      rfl
    | cons c l =>
      have hp : (0 : Int) < ((l.length + 1 : Nat) : Int) := by omega
      have hle : ((0 : Int) ≤ 1 ∧ (1 : Int) ≤ ((l.length + 1 : Nat) : Int)) := by omega
      simp +contextual only [go_sem, ↓reduceIte, r240_l0, h0, h1, gt_iff_lt, hp, c263, hle]
      rw [List.dropWhile_cons]
      cases hc : inSet c
      · have hc' : (c == 48 || c == 49 || c == 120) = false := hc
        simp +contextual only [go_sem, ↓reduceIte, hc', Bool.not_false]
        rfl
      · have hc' : (c == 48 || c == 49 || c == 120) = true := hc
        simp +contextual only [go_sem, ↓reduceIte, hc', Bool.not_true]
        refine ih l _ _ (by simp) ⟨?_, ?_⟩ <;> simp +contextual only [go_sem, ↓reduceIte, h0, h1] <;> rfl
  · refine ⟨?_, ?_⟩ <;> simp +contextual only [go_sem, ↓reduceIte]
end Go.Am

set_option linter.all false
namespace Go.Am
open Go
variable [MaxLen]
set_option maxRecDepth 100000
set_option maxHeartbeats 8000000

theorem cz_of {f : FuncId} {us : List AV} {v : AV} (h : calV U f us = some v) (hp : isPure f = true) (hst : stills us = true) (hf : flat v = true) (s : St) : calZ U f (some us) s = some (v, s) := by
  have h := calV_eq h (ownSt U)
  obtain ⟨p1, p2⟩ := isPure_of hp
  unfold cal callF at h
  rw [p2] at h
  simp only [p1, if_true, callP, frzArgs, hst] at h
  split at h
  · rename_i w hq
    cases h
    refine calZ_some U s ?_
    unfold callQ at hq ⊢
    split at hq
    · rename_i v0 s' hB
      simp only [if_true] at hq
      have := flat_frz s' _ _ _ hq hf
      subst this

      simp [hf]
    · cases hq
  · cases h
theorem c241 (s : Str) (hl : s.length < 2 ^ 30) : calV U 241 [.str s, .fp setA 0] = some (.str (trimRt s)) := by
  refine pure_go k241 (by kernel_rfl) rfl ?_
  simp +contextual only [go_sem, ↓reduceIte, r241]
  refine loop_to (σ := Str) (fun x => x.length) (fun x => some (AV.str (trimRt x))) (fun x e s => x.length < 2 ^ 30 ∧ Env.get e 0 = .str x ∧ Env.get e 1 = .fp setA 0) s ?_ rfl ?_
  · rintro L x e s ⟨hx, h0, h1⟩ ih
    rcases List.eq_nil_or_concat x with rfl | ⟨l, c, rfl⟩
    · simp +contextual only [go_sem, ↓reduceIte, r241_l0, h0, h1, gt_iff_lt, Int.natCast_zero, Int.lt_irrefl]
      rfl
    · rw [List.concat_eq_append] at *
      have hlen : (l ++ [c]).length = l.length + 1 := by simp
      have hp : (0 : Int) < ((l.length + 1 : Nat) : Int) := by omega
      have hw : IntKind.i64.wrap (((l.length + 1 : Nat) : Int) - 1) = (l.length : Int) := by rw [wrap_i64] <;> omega
      have hi : (l ++ [c])[l.length]? = some c := by simp
      have hle : ((0 : Int) ≤ (l.length : Int) ∧ (l.length : Int) ≤ ((l.length + 1 : Nat) : Int)) := by omega
      have htk : (l ++ [c]).take l.length = l := by simp
      simp +contextual only [go_sem, ↓reduceIte, r241_l0, h0, h1, gt_iff_lt, hlen, hp, hw, hi, c263, hle, htk]
      rw [trimRt_last]
      cases hc : inSet c
      · have hc' : (c == 48 || c == 49 || c == 120) = false := hc
        simp +contextual only [go_sem, ↓reduceIte, hc', Bool.not_false]
      · have hc' : (c == 48 || c == 49 || c == 120) = true := hc
        simp +contextual only [go_sem, ↓reduceIte, hc', Bool.not_true]
        refine ih l _ _ (by simp) ⟨by omega, ?_, ?_⟩ <;> simp +contextual only [go_sem, ↓reduceIte, h0, h1]
  · refine ⟨hl, ?_, ?_⟩ <;> simp +contextual only [go_sem, ↓reduceIte]
theorem lay_full : ∀ (vs c : List AV), vs.length = c.length → lay 0 vs c = some vs
  | [], [], _ => rfl
  | v :: vs, x :: c, h => by
    simp only [lay]
    rw [lay_full vs c (by simpa using h)]
theorem trimRt_len (s : Str) : (trimRt s).length ≤ s.length := by
  unfold trimRt
  rw [List.length_reverse]
  refine Nat.le_trans (List.Sublist.length_le (List.dropWhile_sublist _)) ?_
  rw [List.length_reverse]; exact Nat.le_refl _
theorem frz_setA (s : St) (d : Nat) : mapO (frz U s (d + 1)) setA = some setA := by
  have : ∀ l : List AV, (∀ x ∈ l, ∃ b, x = .bool b) → mapO (frz U s (d + 1)) l = some l := by
    intro l
    induction l with
    | nil => intro _; rfl
    | cons x l ih =>
      intro h
      obtain ⟨b, rfl⟩ := h x (List.mem_cons_self ..)
      rw [mapO, ih fun y hy => h y (List.mem_cons_of_mem _ hy)]
      rfl
  refine this _ fun x hx => ?_
  simp only [setA, List.mem_map] at hx
  obtain ⟨n, _, rfl⟩ := hx
  exact ⟨_, rfl⟩
theorem z241 {args : List AV} {s : St} (h : stills args = false) : callK U (calV U 241 args) 241 args s = calZ U 241 (mapO (frz U s 40) args) s := z_of (by kernel_rfl) s h
theorem z240 {args : List AV} {s : St} (h : stills args = false) : callK U (calV U 240 args) 240 args s = calZ U 240 (mapO (frz U s 40) args) s := z_of (by kernel_rfl) s h
theorem cz241 (x : Str) (hl : x.length < 2 ^ 30) (s : St) : calZ U 241 (some [.str x, .fp setA 0]) s = some (.str (trimRt x), s) := cz_of (c241 x hl) (by kernel_rfl) rfl rfl s
theorem cz240 (x : Str) (hl : x.length < 2 ^ 30) (s : St) : calZ U 240 (some [.str x, .fp setA 0]) s = some (.str (x.dropWhile inSet), s) := cz_of (c240 x hl) (by kernel_rfl) rfl rfl s
theorem c212 (s : Str) (hl : s.length < 2 ^ 30) : calV U 212 [.str s, .str [48, 49, 120]] = some (.str ((trimRt s).dropWhile inSet)) := by
  refine pure_go k212 (by kernel_rfl) rfl ?_
  have e0 : (([48, 49, 120] : Str) == []) = false := rfl
  have e4 : (((3 : Nat) : Int) == 1) = false := rfl
  have hl2 : (trimRt s).length < 2 ^ 30 := by have := trimRt_len s; omega
  have hly : ∀ z : List AV, z.length = 256 → lay 0 setA z = some setA := fun z hz => lay_full _ _ (by rw [setA_len, hz])
  simp (config := { maxSteps := 1000000 }) +contextual only [go_sem, ↓reduceIte, r212, e0, e4, br_ff, Bool.or_false, Bool.false_and, br_false, c239, setA_len, setA_noAgg, hly, z241, z240, frz_setA, cz241 s hl, cz240 _ hl2]
  cases s with
  | nil => rfl
  | cons c s => rfl
end Go.Am

set_option linter.all false
namespace Go.Am
open Go
variable [MaxLen]
set_option maxRecDepth 100000
set_option maxHeartbeats 8000000

theorem any_not_all (s : Str) : (s.any fun c => c != 48 && c != 49 && c != 120) = !s.all inSet := by
  induction s with
  | nil => rfl
  | cons c s ih =>
    rw [List.any_cons, List.all_cons, ih, inSet]
    have e : (c != 48 && c != 49 && c != 120) = !(c == 48 || c == 49 || c == 120) := by
      simp [bne, Bool.and_assoc]
    rw [e]
    cases (c == 48 || c == 49 || c == 120) <;> rfl
theorem c158 (lines : Int) (pat : Str) (hl : pat.length < 2 ^ 30) : calV U 158 [.int .i64 lines, .str pat] = some (.int .i64 (checkPat lines pat)) := by
  refine pure_go k158 (by kernel_rfl) rfl ?_
  simp +contextual only [go_sem, ↓reduceIte, r158, c212 pat hl, c116, trim_all, br_tt]
  rw [checkPat, badPat, any_not_all]
theorem c157 (d : Kd) (k : Str) (a b mi ma : Int) (pat : Str) (nl : Bool) (kids : List Cond) :
    calV U 157 [kindV d, encC (.mk k a b mi ma pat nl kids)] = some (.bool (!(usesOf d).a && a != 0 || !(usesOf d).b && b != 0 || !(usesOf d).mi && mi != 0 || !(usesOf d).ma && ma != 0 || !(usesOf d).pat && !pat == [] || !(usesOf d).kids && decide ((kids.length : Int) > 0))) := by
  have hs : stills [kSize d, kStart d, kStep d] = true := by cases d <;> rfl
  have hn : noAgg (kSize d) = true ∧ noAgg (kStart d) = true ∧ noAgg (kStep d) = true := by cases d <;> exact ⟨rfl, rfl, rfl⟩
  obtain ⟨n1, n2, n3⟩ := hn
  simp only [stills, Bool.and_true, Bool.and_eq_true] at hs
  obtain ⟨s1, s2, s3⟩ := hs
  refine pure_go k157 (by kernel_rfl) (by simp [stills, still, kindV, encC, still_encS, s1, s2, s3]) ?_
  rw [kindV, encC]
  generalize kSize d = A1 at *
  generalize kStart d = A2 at *
  generalize kStep d = A3 at *
  simp (config := { maxSteps := 1000000 }) +contextual only [go_sem, ↓reduceIte, r157, lenL_encS, encL_len, n1, n2, n3, noAgg_encS, br_tt]
theorem cz89 (l : List Int) (hl : l.length < 2 ^ 62) (s : St) : calZ U 89 (some [.fz (ints l)]) s = some (.int .i64 (firstOf l), s) :=
  cz_of (pure_go k89 (by kernel_rfl) (by simp [stills, still]) (g89 l hl)) (by kernel_rfl) (by simp [stills, still]) rfl s
theorem cz89_2 (a b : Int) (s : St) : calZ U 89 (some [.fz [.int .i64 a, .int .i64 b]]) s = some (.int .i64 (firstOf [a, b]), s) := cz89 [a, b] (by simp) s
theorem cz89_3 (a b c : Int) (s : St) : calZ U 89 (some [.fz [.int .i64 a, .int .i64 b, .int .i64 c]]) s = some (.int .i64 (firstOf [a, b, c]), s) := cz89 [a, b, c] (by simp) s
theorem cz89_4 (a b c d : Int) (s : St) : calZ U 89 (some [.fz [.int .i64 a, .int .i64 b, .int .i64 c, .int .i64 d]]) s = some (.int .i64 (firstOf [a, b, c, d]), s) := cz89 [a, b, c, d] (by simp) s
theorem cz89_7 (a b c d e f g : Int) (s : St) : calZ U 89 (some [.fz [.int .i64 a, .int .i64 b, .int .i64 c, .int .i64 d, .int .i64 e, .int .i64 f, .int .i64 g]]) s = some (.int .i64 (firstOf [a, b, c, d, e, f, g]), s) := cz89 [a, b, c, d, e, f, g] (by simp) s
theorem z89 {args : List AV} {s : St} (h : stills args = false) : callK U (calV U 89 args) 89 args s = calZ U 89 (mapO (frz U s 40) args) s := z_of (by kernel_rfl) s h
end Go.Am

set_option linter.all false
namespace Go.Am
open Go
variable [MaxLen]
set_option maxRecDepth 100000
set_option maxHeartbeats 8000000

theorem l90 (lines depth : Int) (nl : Bool) (kids : List Cond) (f2 : kids.length < 2 ^ 30) (hc : ∀ x ∈ kids, calV U 90 [.int .i64 lines, encC x, .int .i64 (IntKind.i64.wrap (depth + 1))] = some (.int .i64 (ckP lines x (IntKind.i64.wrap (depth + 1)))))
    (err : Int) {e : Env} {s : St} (h0 : Env.get e 0 = .int .i64 lines) (h2 : Env.get e 2 = .int .i64 depth) (h10 : Env.get e 10 = .int .i64 err) (h141 : Env.get e 141 = encS nl (encL kids)) (h142 : Env.get e 142 = .int .i64 kids.length) (h143 : Env.get e 143 = .int .i64 0) {ks : List K}
    (hk : ∀ e' s' x, Env.get e' 10 = .int .i64 x → goX U (finP U [.tmp 6]) ks 0 e' s' = some (.int .i64 x)) :
    goL U (finP U [.tmp 6]) ks r90_l0 e s = some (.int .i64 (ckPL lines kids (IntKind.i64.wrap (depth + 1)) err)) := by
  refine loop_to (σ := Nat × Int) (fun x => kids.length - x.1) (fun x => some (AV.int .i64 (ckPL lines (kids.drop x.1) (IntKind.i64.wrap (depth + 1)) x.2))) (fun x e s => x.1 ≤ kids.length ∧ Env.get e 0 = .int .i64 lines ∧ Env.get e 2 = .int .i64 depth ∧ Env.get e 10 = .int .i64 x.2 ∧ Env.get e 141 = encS nl (encL kids) ∧ Env.get e 142 = .int .i64 kids.length ∧ Env.get e 143 = .int .i64 x.1) (0, err) ?_ rfl ⟨Nat.zero_le _, h0, h2, h10, h141, h142, h143⟩
  clear h0 h2 h10 h141 h142 h143 err e s
  rintro L ⟨i, err⟩ e s ⟨hi, h0, h2, h10, h141, h142, h143⟩ IH
  simp only at hi h0 h2 h10 h141 h142 h143 IH ⊢
  by_cases hd : i < kids.length
  · have hx : (encL kids)[i]? = some (encC kids[i]) := by rw [encL_get, List.getElem?_eq_getElem hd]; rfl
    have hw := wrap_succ hd (by omega)
    have hci := hc kids[i] (List.getElem_mem hd)
    rw [encC_cells] at hx hci
    simp only [Cond.cells] at hx hci
    rw [encS_ne (encL_ne hd)] at h141
    simp +contextual only [go_sem, ↓reduceIte, r90_l0, h0, h2, h10, h141, h142, h143, nat_lt_dec, hd, hx, hci, noAgg_encS]
    rw [List.drop_eq_getElem_cons hd, ckPL]
    cases hb : err == 0
    · simp only [go_sem, ↓reduceIte, hw]
      refine IH (i + 1, _) _ _ (by simp only; omega) ⟨by simp only; omega, ?_, ?_, ?_, ?_, ?_, ?_⟩ <;> simp +contextual only [go_sem, ↓reduceIte, h0, h2, h10, h141, h142, h143, hw, encS_ne (encL_ne hd)]
    · simp only [go_sem, ↓reduceIte, hw]
      refine IH (i + 1, _) _ _ (by simp only; omega) ⟨by simp only; omega, ?_, ?_, ?_, ?_, ?_, ?_⟩ <;> simp +contextual only [go_sem, ↓reduceIte, h0, h2, h10, h141, h142, h143, hw, encS_ne (encL_ne hd)]
  · have : i = kids.length := by omega
    subst this
    simp +contextual only [go_sem, ↓reduceIte, r90_l0, h142, h143, nat_lt_dec, Nat.lt_irrefl]
    rw [List.drop_length, ckPL]
    exact hk _ _ _ (by simp +contextual only [go_sem, ↓reduceIte, h10])
theorem c90 (lines : Int) : ∀ c : Cond, c.fits → ∀ depth : Int, calV U 90 [.int .i64 lines, encC c, .int .i64 depth] = some (.int .i64 (ckP lines c depth)) := by
  intro c
  induction c using Cond.ind with
  | h kind a b mi ma pat nl kids ih =>
  intro hf depth
  rw [Cond.fits] at hf
  obtain ⟨f1, f2, f3⟩ := hf
  refine pure_go k90 (by kernel_rfl) (stills1 _ _ _) ?_
  have h157 := c157 (kdOf kind) kind a b mi ma pat nl kids
  have hs : stills [kSize (kdOf kind), kStart (kdOf kind), kStep (kdOf kind)] = true := by cases kdOf kind <;> rfl
  have hn : noAgg (kSize (kdOf kind)) = true ∧ noAgg (kStart (kdOf kind)) = true ∧ noAgg (kStep (kdOf kind)) = true := by cases kdOf kind <;> exact ⟨rfl, rfl, rfl⟩
  obtain ⟨n1, n2, n3⟩ := hn
  have hk1 := lookup_kinds1 kind
  rw [kindV] at h157 hk1
  rw [encC] at h157 ⊢
  rw [ckP]
  generalize kSize (kdOf kind) = A1 at *
  generalize kStart (kdOf kind) = A2 at *
  generalize kStep (kdOf kind) = A3 at *
  generalize hu : usesOf (kdOf kind) = u at *
  generalize hk : (kdOf kind).known = kn at *
  simp (config := { maxSteps := 4000000 }) +contextual only [go_sem, ↓reduceIte, r90, c156, hk1, h157, c116, c124, c158 _ _ f1, z89, cz89_2, cz89_7, lenL_encS, encL_len, n1, n2, n3, noAgg_encS, cells_encS, br_tt]
  obtain ⟨ua, ub, umi, uma, up, uk⟩ := u
  simp only
  cases up
  · simp only [br_true, br_false, brI_some]
    refine br_r fun _ => br_r fun _ => ?_
    cases hnot : kind == [110, 111, 116]
    all_goals
      simp only [go_sem, ↓reduceIte, br_true, br_false]
      refine l90 lines depth nl kids f2 (fun x hx => ih x hx (f3 x hx) _) _ ?_ ?_ ?_ ?_ ?_ ?_ ?_
      rotate_right 1
      · intro e' s' x h
        simp +contextual only [go_sem, ↓reduceIte, h]
      all_goals simp +contextual only [go_sem, ↓reduceIte, lenL_encS, encL_len]
      all_goals try rfl
  · simp only [br_true, br_false, brI_some]
    refine br_r fun _ => br_r fun _ => ?_
    cases hnot : kind == [110, 111, 116]
    all_goals
      simp only [go_sem, ↓reduceIte, br_true, br_false]
      refine l90 lines depth nl kids f2 (fun x hx => ih x hx (f3 x hx) _) _ ?_ ?_ ?_ ?_ ?_ ?_ ?_
      rotate_right 1
      · intro e' s' x h
        simp +contextual only [go_sem, ↓reduceIte, h]
      all_goals simp +contextual only [go_sem, ↓reduceIte, lenL_encS, encL_len]
      all_goals try rfl
end Go.Am

set_option linter.all false
namespace Go.Am
open Go
variable [MaxLen]
set_option maxRecDepth 100000
set_option maxHeartbeats 8000000

def cpPL (lines : Int) : Nat → List Step → Int
  | _, [] => 0
  | i, s :: l => br (firstOf [ckP lines s.cond 1, within s.times 1 64, within s.within 0 255, br ((i : Int) == 0 && s.within != 0) 3 0] != 0) (firstOf [ckP lines s.cond 1, within s.times 1 64, within s.within 0 255, br ((i : Int) == 0 && s.within != 0) 3 0]) <| cpPL lines (i + 1) l
def cpP (p : Prog) : Int :=
  br (firstOf [within p.lines 1 16, br ((p.steps.length : Int) == 0) 12 0, br (decide ((p.steps.length : Int) > 8)) 5 0] != 0) (firstOf [within p.lines 1 16, br ((p.steps.length : Int) == 0) 12 0, br (decide ((p.steps.length : Int) > 8)) 5 0]) <| cpPL p.lines 0 p.steps
theorem get8 {s : St} (h : 8 < s.next) : (∀ k, (s.next + k = 8) = False) ∧ (s.next = 8) = False := ⟨fun k => by simp; omega, by simp; omega⟩

theorem c64 (p : Prog) (hf : p.fits) : calV U 64 [encP p] = some (.int .i64 (cpP p)) := by
  obtain ⟨lines, nl, steps⟩ := p
  obtain ⟨f1, f2⟩ := hf
  simp only at f1 f2
  refine pure_go k64 (by kernel_rfl) (by simp [stills, still_encP]) ?_
  rw [encP_eq, cpP]
  simp (config := { maxSteps := 2000000 }) +contextual only [go_sem, ↓reduceIte, r64, c88, c116, z89, cz89_3, lenL_encS, encSteps_len, cells_encS, noAgg_encS]
  simp only [brI_some]
  refine br_r fun _ => ?_
  refine loop_to (σ := Nat) (fun i => steps.length - i) (fun i => some (AV.int .i64 (cpPL lines i (steps.drop i)))) (fun i e s => i ≤ steps.length ∧ Env.get e 28 = .int .i64 i ∧ Env.get e 1 = .ptr 8 0 ∧ Env.get e 26 = encS nl (encSteps steps) ∧ Env.get e 27 = .int .i64 steps.length ∧ 8 < s.next ∧ Fr s ∧
    s.get 8 = some (.cells [.int .i64 lines, encS nl (encSteps steps)] 25 false 0 0)) 0 ?_ rfl ?_
  · rintro L i e s ⟨hi, h28, h1, h26, h27, hn, hfr, hs⟩ IH
    by_cases hd : i < steps.length
    · have hx : (encSteps steps)[i]? = some (encStep steps[i]) := by rw [encSteps_get, List.getElem?_eq_getElem hd]; rfl
      have hw := wrap_succ hd (by omega)
      obtain ⟨g8, g8'⟩ := get8 hn
      have hc := c90 lines steps[i].cond (f2 _ (List.getElem_mem hd)) 1
      rw [encS_ne (encSteps_ne hd)] at hs h26
      rw [encC_cells] at hc
      simp only [Cond.cells, encStep] at hx hc
      have hfk := hfr.at
      simp +contextual only [go_sem, ↓reduceIte, r64_l0, h28, h1, h26, h27, hs, nat_lt_dec, hd, encSteps_len, hx, hc, g8, g8', noAgg_encS, c124, c116, z89, cz89_4, hfk, Nat.add_assoc, Nat.left_eq_add]
      rw [List.drop_eq_getElem_cons hd, cpPL]
      simp only [brI_some]
      refine br_r fun _ => ?_
      simp only [hw]
      refine IH (i + 1) _ _ (by omega) ⟨by omega, ?_, ?_, ?_, ?_, ?_, ?_, ?_⟩
      case refine_6 =>
        repeat first | exact hfr | apply Fr.new | apply Fr.put | apply Fr.upto
        all_goals simp +contextual only [go_sem, ↓reduceIte]
        all_goals omega
      all_goals simp +contextual only [go_sem, ↓reduceIte, h28, h1, h26, h27, hs, hw, g8, g8', encS_ne (encSteps_ne hd)]
      all_goals omega
    · have : i = steps.length := by omega
      subst this
      simp +contextual only [go_sem, ↓reduceIte, r64_l0, h28, h27, nat_lt_dec, Nat.lt_irrefl]
      rw [List.drop_length, cpPL]
  · refine ⟨Nat.zero_le _, ?_, ?_, ?_, ?_, ?_, ?_, ?_⟩
    case refine_6 =>
      repeat first | exact Fr.own | apply Fr.new | apply Fr.put | apply Fr.upto
      all_goals simp +contextual only [go_sem, ↓reduceIte]
    all_goals simp +contextual only [go_sem, ↓reduceIte]
    all_goals rfl
end Go.Am

set_option linter.all false
namespace Go.Am
open Go
variable [MaxLen]
set_option maxRecDepth 100000

/-! # Rows that grow by append -/
section
variable (X : Cx)
def srcG (len : Nat) (x : Option (List AV)) : Option (Nat × List AV) := match x with
  | some r => some (len, r)
  | none => none
def srcK (len k o : Nat) (x : Option (List AV)) : Option (Nat × List AV) := match x with
  | some c => srcG len (grab k o c)
  | none => none
theorem srcG_some (len : Nat) (r : List AV) : srcG len (some r) = some (len, r) := (fun h => h) rfl
theorem srcK_some (len k o : Nat) (c : List AV) : srcK len k o (some c) = srcG len (grab k o c) := (fun h => h) rfl
theorem source_sl (n b o len : Nat) (cap : Option Nat) (z : Nat) (s : St) : sourceA n (.sl b o len cap z) s = srcK len (len * n) o (cellsOf (s.get b)) := by
  simp only [sourceA, ← cells_get, srcK, srcG]
  rfl
theorem source_nils (n : Nat) (s : St) : sourceA n .nils s = some (0, []) := (fun h => h) rfl
theorem source_str (n : Nat) (l : List UInt8) (s : St) : sourceA n (.str l) s = some (l.length, l.map fun c => .int .u8 c.toNat) := (fun h => h) rfl

def appS (t : TypeId) (n m : Nat) (new : List AV) (b o len : Nat) (esz : Nat) (s : St) (x : Option Blk) : Option (AV × St) := match x with
  | some (.cells c e0 false flo fhi) => match grab (len * n) o c with
    | some old => if esz = n ∧ fhi ≤ o + len * n ∧ e0 = t ∧ new.all noAgg = true then
        some (.sl s.next 0 (len + m) none n, (s.put b .gone).new (.cells (old ++ new) t false (flo - o) (fhi - o)))
      else none
    | none => none
  | _ => none
def appD (t : TypeId) (n m : Nat) (new : List AV) (d : AV) (s : St) : Option (AV × St) := match d with
  | .nils => some (.sl s.next 0 m none n, s.new (.cells new t false 0 0))
  | .sl b o len cap esz => match s.cells b with
    | some c => match grab (len * n) o c with
      | some old =>
        match cap with
        | some k => if len + m ≤ k then
            if esz = n then match writeCells s b (o + len * n) new with
              | some s' => some (.sl b o (len + m) (some k) n, s')
              | none => none
            else none
          else some (.sl s.next 0 (len + m) none n, s.new (.cells (old ++ new) t false 0 0))
        | none => match s.get b with
          | some (.cells _ e0 false flo fhi) =>
            if esz = n ∧ fhi ≤ o + len * n ∧ e0 = t ∧ new.all noAgg = true then
              some (.sl s.next 0 (len + m) none n, (s.put b .gone).new (.cells (old ++ new) t false (flo - o) (fhi - o)))
            else none
          | _ => none
      | none => none
    | none => none
  | _ => none
def app0 (d : AV) (s : St) : Option (AV × St) := match d with
  | .nils => some (d, s)
  | .sl .. => some (d, s)
  | .fz _ => some (d, s)
  | _ => none
def appK (t : TypeId) (n bytes : Nat) (d : AV) (x : Option (Nat × List AV)) (s : St) : Option (AV × St) := match x with
  | some (m, new) =>
    if new.length ≠ m * n ∨ (lenA d + m) * bytes > 2 ^ 40 ∨ lenA d + m > 2 ^ 40 then none
    else if m = 0 then app0 d s else appD t n m new d s
  | none => none
theorem app_eq (t : TypeId) (n bytes : Nat) (d x : AV) (s : St) : appR t n bytes d x s = appK t n bytes d (sourceA n x s) s := by
  unfold appR appK appD app0
  rfl
theorem appK_some {t : TypeId} {n bytes : Nat} {d : AV} {m : Nat} {new : List AV} {s : St} (h1 : new.length = m * n) (h2 : (lenA d + m) * bytes ≤ 2 ^ 40) (h3 : lenA d + m ≤ 2 ^ 40) (h4 : m ≠ 0) :
    appK t n bytes d (some (m, new)) s = appD t n m new d s := by
  simp only [appK]
  rw [if_neg (by omega), if_neg h4]
theorem appK_zero {t : TypeId} {n bytes : Nat} {d : AV} {s : St} (h2 : lenA d * bytes ≤ 2 ^ 40) (h3 : lenA d ≤ 2 ^ 40) : appK t n bytes d (some (0, [])) s = app0 d s := by
  simp only [appK]
  rw [if_neg (by simp; omega)]
  simp
theorem appD_nils (t : TypeId) (n m : Nat) (new : List AV) (s : St) : appD t n m new .nils s = some (.sl s.next 0 m none n, s.new (.cells new t false 0 0)) := (fun h => h) rfl
theorem appD_sl (t : TypeId) (n m : Nat) (new : List AV) (b o len esz : Nat) (s : St) : appD t n m new (.sl b o len none esz) s = appS t n m new b o len esz s (s.get b) := by
  simp only [appD, appS, St.cells]
  cases s.get b with
  | none => rfl
  | some x =>
    cases x <;> simp only
    rename_i c e0 ro lo hi
    cases ro <;> simp only
    cases grab (len * n) o c <;> rfl
theorem appS_cells {t : TypeId} {n m : Nat} {new : List AV} {b len : Nat} {s : St} {cs : List AV} {lo hi : Nat} (hl : cs.length = len * n) (hh : hi ≤ len * n) (hna : new.all noAgg = true) :
    appS t n m new b 0 len n s (some (.cells cs t false lo hi)) = some (.sl s.next 0 (len + m) none n, (s.put b .gone).new (.cells (cs ++ new) t false lo hi)) := by
  simp only [appS]
  rw [← hl, grab_all]
  simp only [true_and]
  rw [if_pos ⟨by omega, hna⟩]
  simp
theorem lenA_nils : lenA .nils = 0 := (fun h => h) rfl
theorem lenA_sl (b o n : Nat) (c : Option Nat) (z : Nat) : lenA (.sl b o n c z) = n := (fun h => h) rfl
theorem lenA_fz (l : List AV) : lenA (.fz l) = l.length := (fun h => h) rfl

/-- a row made by appends: its cells cs, i elements of n cells; its block lies from B on -/
def RowI (s : St) (B : Nat) (t : TypeId) (n i : Nat) (cs : List AV) (v : AV) : Prop :=
  (i = 0 ∧ v = .nils ∧ cs = []) ∨ (0 < i ∧ cs.length = i * n ∧ ∃ b, B ≤ b ∧ b < s.next ∧ v = .sl b 0 i none n ∧ s.get b = some (.cells cs t false 0 0))
theorem RowI.nil (s : St) (B : Nat) (t : TypeId) (n : Nat) : RowI s B t n 0 [] .nils := .inl ⟨rfl, rfl, rfl⟩
theorem RowI.noAgg {s : St} {B : Nat} {t : TypeId} {n i : Nat} {cs : List AV} {v : AV} (h : RowI s B t n i cs v) : noAgg v = true := by
  rcases h with ⟨_, rfl, _⟩ | ⟨_, _, b, _, _, rfl, _⟩ <;> rfl
theorem RowI.cells {s : St} {B : Nat} {t : TypeId} {n i : Nat} {cs : List AV} {v : AV} (h : RowI s B t n i cs v) : v.cells = [v] := by
  rcases h with ⟨_, rfl, _⟩ | ⟨_, _, b, _, _, rfl, _⟩ <;> rfl
theorem RowI.len {s : St} {B : Nat} {t : TypeId} {n i : Nat} {cs : List AV} {v : AV} (h : RowI s B t n i cs v) : lenRL v = some (.int .i64 i) := by
  rcases h with ⟨rfl, rfl, _⟩ | ⟨_, _, b, _, _, rfl, _⟩ <;> rfl

theorem RowI.lenA {s : St} {B : Nat} {t : TypeId} {n i : Nat} {cs : List AV} {v : AV} (h : RowI s B t n i cs v) : Go.Am.lenA v = i := by
  rcases h with ⟨rfl, rfl, _⟩ | ⟨_, _, b, _, _, rfl, _⟩ <;> rfl
theorem RowI.mono {s s' : St} {B : Nat} {t : TypeId} {n i : Nat} {cs : List AV} {v : AV} (h : RowI s B t n i cs v) (hn : s.next ≤ s'.next) (hg : ∀ j, B ≤ j → j < s.next → s'.get j = s.get j) : RowI s' B t n i cs v := by
  rcases h with ⟨h0, h1, h2⟩ | ⟨h0, h1, b, h2, h3, h4, h5⟩
  · exact .inl ⟨h0, h1, h2⟩
  · exact .inr ⟨h0, h1, b, h2, by omega, h4, by rw [hg b h2 h3]; exact h5⟩
/-- one append more -/
theorem RowI.app {s : St} {B : Nat} {t : TypeId} {n i : Nat} {cs : List AV} {v : AV} (h : RowI s B t n i cs v) (hB : B ≤ s.next) {m : Nat} {new : List AV} (hm : m ≠ 0) (hl : new.length = m * n) (hna : new.all Go.Am.noAgg = true) :
    ∃ s1, appD t n m new v s = some (.sl s.next 0 (i + m) none n, s1) ∧ s1.next = s.next + 1 ∧ RowI s1 B t n (i + m) (cs ++ new) (.sl s.next 0 (i + m) none n) ∧ (∀ j, j < B → s1.get j = s.get j) ∧ (Fr s → Fr s1) := by
  rcases h with ⟨rfl, rfl, rfl⟩ | ⟨h0, h1, b, h2, h3, rfl, h5⟩
  · refine ⟨s.new (.cells new t false 0 0), by rw [appD_nils, Nat.zero_add], rfl, .inr ⟨by omega, by rw [Nat.zero_add, List.nil_append]; exact hl, s.next, hB, by rw [next_new]; omega, rfl, by rw [get_new, if_pos rfl]; rfl⟩, fun j hj => by rw [get_new, if_neg (by omega)], fun hf => hf.new _⟩
  · refine ⟨(s.put b .gone).new (.cells (cs ++ new) t false 0 0), by rw [appD_sl, h5, appS_cells h1 (by omega) hna], rfl, .inr ⟨by omega, by rw [List.length_append, h1, hl, Nat.add_mul], s.next, hB, by rw [next_new, next_put]; omega, rfl, ?_⟩, fun j hj => ?_, fun hf => (hf.put h3 _).new _⟩
    · rw [get_new, next_put, if_pos rfl]
    · rw [get_new, next_put, if_neg (by omega), get_put, if_neg (by omega)]
/-- elements of n cells each, written out -/
theorem chunks_enc {A : Type} (enc : A → AV) (n : Nat) (hc : ∀ a, ∃ c, enc a = .agg c ∧ c.length = n) : ∀ l : List A, chunksA true n l.length (l.flatMap fun a => (enc a).cells) = l.map enc
  | [] => rfl
  | a :: l => by
    obtain ⟨c, h1, h2⟩ := hc a
    have ih := chunks_enc enc n hc l
    rw [List.length_cons, chunks_agg, List.flatMap_cons, h1, cells_agg, List.map_cons, h1]
    rw [show (c ++ l.flatMap fun a => (enc a).cells).take n = c from by rw [← h2, List.take_left], show (c ++ l.flatMap fun a => (enc a).cells).drop n = l.flatMap fun a => (enc a).cells from by rw [← h2, List.drop_left], ih]
theorem mapO_self {f : AV → Option AV} : ∀ {l : List AV}, (∀ x ∈ l, f x = some x) → mapO f l = some l
  | [], _ => rfl
  | x :: l, h => by
    rw [mapO, h x (List.mem_cons_self ..), mapO_self fun y hy => h y (List.mem_cons_of_mem _ hy)]
theorem mapO_map {A : Type} {f : AV → Option AV} {g h : A → AV} (H : ∀ a, f (g a) = some (h a)) : ∀ l : List A, mapO f (l.map g) = some (l.map h)
  | [] => rfl
  | a :: l => by rw [List.map_cons, mapO, H a, mapO_map H l, List.map_cons]
theorem flatEnc_len {A : Type} (enc : A → AV) (n : Nat) (hc : ∀ a, ∃ c, enc a = .agg c ∧ c.length = n) : ∀ l : List A, (l.flatMap fun a => (enc a).cells).length = l.length * n
  | [] => by simp
  | a :: l => by
    obtain ⟨c, h1, h2⟩ := hc a
    rw [List.flatMap_cons, List.length_append, flatEnc_len enc n hc l, h1, cells_agg, h2, List.length_cons, Nat.add_mul]; omega
theorem RowI.frz_agg {s : St} {B : Nat} {t : TypeId} {n : Nat} {A : Type} {enc : A → AV} {l : List A} {v : AV} (h : RowI s B t n l.length (l.flatMap fun a => (enc a).cells) v) (hag : isAggT X t = some true) (hsz : size X t = some n) (hn : n ≠ 0)
    (hc : ∀ a, ∃ c, enc a = .agg c ∧ c.length = n) {d : Nat} (hf : ∀ a, frz X s d (enc a) = some (enc a)) : frz X s (d + 1) v = some (encS true (l.map enc)) := by
  rcases h with ⟨h0, rfl, _⟩ | ⟨h0, h1, b, _, _, rfl, hg⟩
  · have : l = [] := List.length_eq_zero_iff.1 h0
    subst this; rfl
  · rw [frz_sl, hg, frzS_cells, ← h1, grab_all, hag, hsz]
    cases n with
    | zero => exact absurd rfl hn
    | succ n =>
      rw [frzT_agg, chunks_enc enc (n + 1) hc, mapO_self (fun x hx => ?_), fzK_some]
      · cases l with
        | nil => simp at h0
        | cons a l => rfl
      · obtain ⟨a, _, rfl⟩ := List.mem_map.1 hx
        exact hf a
theorem RowI.frz_one {s : St} {B : Nat} {t : TypeId} {l : List AV} {v : AV} (h : RowI s B t 1 l.length l v) (hag : isAggT X t = some false) (hsz : size X t = some 1) (hna : l.all Go.Am.noAgg = true)
    {d : Nat} {r : List AV} (hf : mapO (frz X s d) l = some r) : frz X s (d + 1) v = some (encS true r) := by
  rcases h with ⟨h0, rfl, _⟩ | ⟨h0, h1, b, _, _, rfl, hg⟩
  · have : l = [] := List.length_eq_zero_iff.1 h0
    subst this
    simp only [mapO] at hf; cases hf; rfl
  · rw [frz_sl, hg, frzS_cells, Nat.mul_one, grab_all, hag, hsz, frzT_one, if_pos hna, chunks_all, hf, fzK_some]
    cases r with
    | nil =>
      exfalso
      cases l with
      | nil => simp at h0
      | cons a l =>
        simp only [mapO] at hf
        split at hf <;> cases hf
    | cons a r => rfl
end
attribute [go_sem] srcG_some srcK_some source_sl source_nils source_str app_eq appD_nils appD_sl lenA_nils lenA_sl lenA_fz
end Go.Am

set_option linter.all false
namespace Go.Am
open Go
variable [MaxLen]
set_option maxRecDepth 100000
set_option maxHeartbeats 8000000

mutual
def Cond.norm : Cond → Cond
  | .mk k a b mi ma p _ kids => .mk k a b mi ma p true (normL kids)
def normL : List Cond → List Cond
  | [] => []
  | c :: l => c.norm :: normL l
end
theorem normL_map : ∀ l, normL l = l.map Cond.norm
  | [] => by simp [normL]
  | c :: l => by simp [normL, normL_map l]
theorem encC_agg (c : Cond) : ∃ l, encC c = .agg l ∧ l.length = 7 := ⟨_, encC_cells c, rfl⟩
theorem frz_encC (s : St) (d : Nat) (c : Cond) : frz U s (d + 2) (encC c) = some (encC c) := by
  rw [encC_cells]
  simp only [Cond.cells, frz_agg, mapO_cons, mapO_nil, frz_str, frz_int, frz_encS, resK_some, aggK_some]
theorem encL_enc (l : List Cond) : encL l = l.map encC := encL_map l

theorem c24 : ∀ c : Cond, c.fits → calV U 24 [encC c] = some (encC c.norm) := by
  intro c
  induction c using Cond.ind with
  | h kind a b mi ma pat nl kids ih =>
  intro hf
  rw [Cond.fits] at hf
  obtain ⟨f1, f2, f3⟩ := hf
  refine pure_go k24 (by kernel_rfl) (by simp [stills, still_encC]) ?_
  rw [encC, Cond.norm]
  simp (config := { maxSteps := 2000000 }) +contextual only [go_sem, ↓reduceIte, r24, lenL_encS, encL_len, cells_encS, noAgg_encS]
  refine loop_to (σ := Nat) (fun i => kids.length - i) (fun i => some (encC (.mk kind a b mi ma pat true (normL kids)))) (fun i e s => i ≤ kids.length ∧ Env.get e 1 = .ptr 8 0 ∧ Env.get e 2 = .ptr 9 0 ∧ Env.get e 3 = .ptr 10 0 ∧ Env.get e 4 = .int .i64 i ∧ 10 < s.next ∧ Fr s ∧
    s.get 8 = some (.cells [.str kind, .int .i64 a, .int .i64 b, .int .i64 mi, .int .i64 ma, .str pat, encS nl (encL kids)] 39 false 0 0) ∧ s.get 9 = some (.cells [.str [], .int .i64 0, .int .i64 0, .int .i64 0, .int .i64 0, .str [], .nils] 48 false 0 0) ∧
    ∃ v, s.get 10 = some (.cells [.str kind, .int .i64 a, .int .i64 b, .int .i64 mi, .int .i64 ma, .str pat, v] 48 false 0 0) ∧ RowI s 11 48 7 i ((kids.take i).flatMap fun c => (encC c.norm).cells) v) 0 ?_ rfl ?_
  · rintro L i e s ⟨hi, h1, h2, h3, h4, hn, hfr, hs8, hs9, v, hs10, hv⟩ IH
    have ne : ∀ a k, a ≤ 10 → (s.next + k = a) = False := fun a k ha => by simp; omega
    have ne' : ∀ a, a ≤ 10 → (s.next = a) = False := fun a ha => by simp; omega
    have hfk := hfr.at
    by_cases hd : i < kids.length
    · have hx : (encL kids)[i]? = some (encC kids[i]) := by rw [encL_get, List.getElem?_eq_getElem hd]; rfl
      have hw := wrap_succ hd (by omega)
      have hc := ih kids[i] (List.getElem_mem hd) (f3 _ (List.getElem_mem hd))
      rw [encC_cells] at hc
      rw [encC_cells] at hx hc
      simp only [Cond.cells] at hx hc
      rw [encS_ne (encL_ne hd)] at hs8
      have hb1 : (i + 1) * 88 ≤ 1099511627776 := by omega
      have hb2 : i + 1 ≤ 1099511627776 := by omega
      have htk : (kids.take (i + 1)).flatMap (fun c => (encC c.norm).cells) = (kids.take i).flatMap (fun c => (encC c.norm).cells) ++ kids[i].norm.cells := by
        rw [List.take_succ_eq_append_getElem hd, List.flatMap_append, List.flatMap_singleton, encC_cells]; rfl
      simp only [Cond.cells] at htk
      have hla := hv.lenA
      have hna := hv.noAgg
      simp +contextual only [go_sem, ↓reduceIte, r24_l0, h1, h2, h3, h4, hs8, hs9, hs10, nat_lt_dec, hd, encL_len, hx, hc, ne, ne', noAgg_encS, hfk, appK_some, Nat.reducePow, Nat.one_mul, hla, hna, hb1, hb2]
      have hv0 : RowI ((s.upto (s.next + 12)).put (s.next + 8) (.cells kids[i].norm.cells 48 false 0 0)) 11 48 7 i ((kids.take i).flatMap fun c => (encC c.norm).cells) v := hv.mono (by rw [next_put, upto_next]; omega) fun j _ hj => by rw [get_put, upto_get, if_neg (by omega)]
      obtain ⟨s1, e1, e2, e3, e4, e5⟩ := hv0.app (by rw [next_put, upto_next]; omega) (m := 1) (new := kids[i].norm.cells) (by omega) (by rfl) (by simp only [Cond.cells, go_sem, noAgg_encS])
      simp only [Cond.cells] at e1 e3 e4 e5
      have k8 := e4 8 (by omega)
      have k9 := e4 9 (by omega)
      have k10 := e4 10 (by omega)
      simp only [get_put, upto_get, ne, ↓reduceIte, hs8, hs9, hs10, Nat.reduceLeDiff, next_put, upto_next] at k8 k9 k10 e2
      rw [e1]
      simp +contextual only [go_sem, ↓reduceIte, h3, k10, noAgg_encS, hw, h4]
      refine IH (i + 1) _ _ (by omega) ⟨by omega, ?_, ?_, ?_, ?_, ?_, ?_, ?_, ?_, .sl (s.next + 12) 0 (i + 1) none 7, ?_, ?_⟩
      case refine_10 =>
        rw [htk]
        exact e3.mono (by rw [next_put]; omega) fun j hj _ => by rw [get_put, if_neg (by omega)]
      case refine_9 => rw [get_put, if_pos rfl]
      case refine_6 =>
        refine (e5 ?_).put (by omega) _
        exact (hfr.upto (by omega)).put (by rw [upto_next]; omega) _
      all_goals simp +contextual only [go_sem, ↓reduceIte, h1, h2, h3, k8, k9, e2, encS_ne (encL_ne hd), Nat.reduceEqDiff]
      all_goals omega
    · have : i = kids.length := by omega
      subst this
      rw [List.take_length] at hv
      have hv1 : ∀ x, RowI (s.put 9 x) 11 48 7 (kids.map Cond.norm).length ((kids.map Cond.norm).flatMap fun c => (encC c).cells) v := fun x => by
        rw [List.length_map, List.flatMap_map]
        exact hv.mono (by rw [next_put]; omega) fun j hj _ => by rw [get_put, if_neg (by omega)]
      have hfz : ∀ x d, frz U (s.put 9 x) (d + 3) v = some (encS true (encL (normL kids))) := fun x d => by
        rw [(hv1 x).frz_agg U ag_48 sz_48 (by omega) encC_agg (d := d + 2) (fun a => frz_encC _ _ _), encL_map, normL_map]
      have hna := hv.noAgg
      simp +contextual only [go_sem, ↓reduceIte, r24_l0, h1, h2, h3, h4, hs8, hs9, hs10, nat_lt_dec, Nat.lt_irrefl, lenL_encS, encL_len, hna, hfz]
      rw [encC]
  · refine ⟨Nat.zero_le _, ?_, ?_, ?_, ?_, ?_, ?_, ?_, ?_, .nils, ?_, RowI.nil _ _ _ _⟩
    case refine_6 =>
      repeat first | exact Fr.own | apply Fr.new | apply Fr.put | apply Fr.upto
      all_goals simp +contextual only [go_sem, ↓reduceIte]
    all_goals simp +contextual only [go_sem, ↓reduceIte]
    all_goals rfl
end Go.Am

set_option linter.all false
namespace Go.Am
open Go
variable [MaxLen]
set_option maxRecDepth 100000
set_option maxHeartbeats 8000000

def Step.norm (s : Step) : Step := { s with cond := s.cond.norm }
def Prog.norm (p : Prog) : Prog := { p with nl := true, steps := p.steps.map Step.norm }
def Step.cells9 (s : Step) : List AV := [.str s.cond.kind, .int .i64 s.cond.a, .int .i64 s.cond.b, .int .i64 s.cond.mi, .int .i64 s.cond.ma, .str s.cond.pat, encS s.cond.nl (encL s.cond.kids), .int .i64 s.times, .int .i64 s.within]
theorem encStep_agg (s : Step) : ∃ l, encStep s = .agg l ∧ l.length = 9 := ⟨_, rfl, rfl⟩
theorem frz_encStep (s : St) (d : Nat) (c : Step) : frz U s (d + 2) (encStep c) = some (encStep c) := by
  unfold encStep
  simp only [frz_agg, mapO_cons, mapO_nil, frz_str, frz_int, frz_encS, resK_some, aggK_some]

theorem c33 (p : Prog) (hf : p.fits) : calV U 33 [encP p] = some (encP p.norm) := by
  obtain ⟨lines, nl, steps⟩ := p
  obtain ⟨f1, f2⟩ := hf
  simp only at f1 f2
  refine pure_go k33 (by kernel_rfl) (by simp [stills, still_encP]) ?_
  rw [encP_eq, Prog.norm, encP_eq]
  simp (config := { maxSteps := 2000000 }) +contextual only [go_sem, ↓reduceIte, r33, lenL_encS, encSteps_len, cells_encS, noAgg_encS]
  refine loop_to (σ := Nat) (fun i => steps.length - i) (fun i => some (.agg [.int .i64 lines, encS true (encSteps (steps.map Step.norm))])) (fun i e s => i ≤ steps.length ∧ Env.get e 1 = .ptr 8 0 ∧ Env.get e 2 = .ptr 9 0 ∧ Env.get e 3 = .ptr 10 0 ∧ Env.get e 4 = .int .i64 i ∧ 10 < s.next ∧ Fr s ∧
    s.get 8 = some (.cells [.int .i64 lines, encS nl (encSteps steps)] 31 false 0 0) ∧ s.get 9 = some (.cells [.int .i64 0, .nils] 25 false 0 0) ∧
    ∃ v, s.get 10 = some (.cells [.int .i64 lines, v] 25 false 0 0) ∧ RowI s 11 144 9 i ((steps.take i).flatMap fun c => (encStep c.norm).cells) v) 0 ?_ rfl ?_
  · rintro L i e s ⟨hi, h1, h2, h3, h4, hn, hfr, hs8, hs9, v, hs10, hv⟩ IH
    have ne : ∀ a k, a ≤ 10 → (s.next + k = a) = False := fun a k ha => by simp; omega
    have ne' : ∀ a, a ≤ 10 → (s.next = a) = False := fun a ha => by simp; omega
    have hfk := hfr.at
    by_cases hd : i < steps.length
    · have hx : (encSteps steps)[i]? = some (encStep steps[i]) := by rw [encSteps_get, List.getElem?_eq_getElem hd]; rfl
      have hw := wrap_succ hd (by omega)
      have hc := c24 steps[i].cond (f2 _ (List.getElem_mem hd))
      rw [encC_cells, encC_cells] at hc
      simp only [Cond.cells, encStep] at hx hc
      rw [encS_ne (encSteps_ne hd)] at hs8
      have hb1 : (i + 1) * 104 ≤ 1099511627776 := by omega
      have hb2 : i + 1 ≤ 1099511627776 := by omega
      have htk : (steps.take (i + 1)).flatMap (fun c => (encStep c.norm).cells) = (steps.take i).flatMap (fun c => (encStep c.norm).cells) ++ steps[i].norm.cells9 := by
        rw [List.take_succ_eq_append_getElem hd, List.flatMap_append, List.flatMap_singleton]; rfl
      have hla := hv.lenA
      have hna := hv.noAgg
      simp +contextual only [go_sem, ↓reduceIte, r33_l0, h1, h2, h3, h4, hs8, hs9, hs10, nat_lt_dec, hd, encSteps_len, hx, hc, ne, ne', noAgg_encS, hfk, appK_some, Nat.reducePow, Nat.one_mul, hla, hna, hb1, hb2]
      have hv0 : RowI ((s.upto (s.next + 26)).put (s.next + 22) (.cells steps[i].norm.cells9 144 false 0 0)) 11 144 9 i ((steps.take i).flatMap fun c => (encStep c.norm).cells) v := hv.mono (by rw [next_put, upto_next]; omega) fun j _ hj => by rw [get_put, upto_get, if_neg (by omega)]
      obtain ⟨s1, e1, e2, e3, e4, e5⟩ := hv0.app (by rw [next_put, upto_next]; omega) (m := 1) (new := steps[i].norm.cells9) (by omega) (by rfl) (by simp only [Step.cells9, go_sem, noAgg_encS])
      simp only [Step.cells9, Step.norm] at e1 e3 e4 e5
      have k8 := e4 8 (by omega)
      have k9 := e4 9 (by omega)
      have k10 := e4 10 (by omega)
      simp only [get_put, upto_get, ne, ↓reduceIte, hs8, hs9, hs10, Nat.reduceLeDiff, next_put, upto_next] at k8 k9 k10 e2
      rw [e1]
      simp +contextual only [go_sem, ↓reduceIte, h3, k10, noAgg_encS, hw, h4]
      refine IH (i + 1) _ _ (by omega) ⟨by omega, ?_, ?_, ?_, ?_, ?_, ?_, ?_, ?_, .sl (s.next + 26) 0 (i + 1) none 9, ?_, ?_⟩
      case refine_10 =>
        rw [htk]
        exact e3.mono (by rw [next_put]; omega) fun j hj _ => by rw [get_put, if_neg (by omega)]
      case refine_9 => rw [get_put, if_pos rfl]
      case refine_6 =>
        refine (e5 ?_).put (by omega) _
        exact (hfr.upto (by omega)).put (by rw [upto_next]; omega) _
      all_goals simp +contextual only [go_sem, ↓reduceIte, h1, h2, h3, k8, k9, e2, encS_ne (encSteps_ne hd), Nat.reduceEqDiff]
      all_goals omega
    · have : i = steps.length := by omega
      subst this
      rw [List.take_length] at hv
      have hv1 : ∀ x, RowI (s.put 9 x) 11 144 9 (steps.map Step.norm).length ((steps.map Step.norm).flatMap fun c => (encStep c).cells) v := fun x => by
        rw [List.length_map, List.flatMap_map]
        exact hv.mono (by rw [next_put]; omega) fun j hj _ => by rw [get_put, if_neg (by omega)]
      have hfz : ∀ x d, frz U (s.put 9 x) (d + 3) v = some (encS true (encSteps (steps.map Step.norm))) := fun x d => by
        rw [(hv1 x).frz_agg U ag_144 sz_144 (by omega) encStep_agg (d := d + 2) (fun a => frz_encStep _ _ _)]; rfl
      have hna := hv.noAgg
      simp +contextual only [go_sem, ↓reduceIte, r33_l0, h1, h2, h3, h4, hs8, hs9, hs10, nat_lt_dec, Nat.lt_irrefl, lenL_encS, encSteps_len, hna, hfz]
  · refine ⟨Nat.zero_le _, ?_, ?_, ?_, ?_, ?_, ?_, ?_, ?_, .nils, ?_, RowI.nil _ _ _ _⟩
    case refine_6 =>
      repeat first | exact Fr.own | apply Fr.new | apply Fr.put | apply Fr.upto
      all_goals simp +contextual only [go_sem, ↓reduceIte]
    all_goals simp +contextual only [go_sem, ↓reduceIte]
    all_goals rfl
end Go.Am

set_option linter.all false
namespace Go.Am
open Go
variable [MaxLen]
set_option maxRecDepth 100000
set_option maxHeartbeats 8000000

mutual
def sc : Cond → Int → Bool
  | .mk k _ _ _ _ p _ kids, d => br (decide (d > 6) || decide ((k.length : Int) > 20) || decide ((p.length : Int) > 40) || decide ((kids.length : Int) > 10)) false (scL kids (IntKind.i64.wrap (d + 1)))
def scL : List Cond → Int → Bool
  | [], _ => true
  | c :: l, d => br (!(sc c d)) false (scL l d)
end
mutual
def leaves : Cond → Nat
  | .mk _ _ _ _ _ _ _ kids => leavesL kids + 1
def leavesL : List Cond → Nat
  | [] => 0
  | c :: l => leaves c + leavesL l
end
theorem brB_some' (p x y : Bool) : some (AV.bool (br p x y)) = br p (some (.bool x)) (some (.bool y)) := by cases p <;> rfl

theorem c86 : ∀ c : Cond, ∀ depth : Int, calV U 86 [encC c, .int .i64 depth] = some (.bool (sc c depth)) := by
  intro c
  induction c using Cond.ind with
  | h kind a b mi ma pat nl kids ih =>
  intro depth
  refine pure_go k86 (by kernel_rfl) (by simp [stills, still_encC, still]) ?_
  rw [encC, sc]
  simp (config := { maxSteps := 2000000 }) +contextual only [go_sem, ↓reduceIte, r86, lenL_encS, encL_len, cells_encS, noAgg_encS, br_tt]
  simp only [brB_some']
  refine br_r fun hsh => ?_
  have hlen : kids.length ≤ 10 := by
    simp only [Bool.or_eq_false_iff, decide_eq_false_iff_not] at hsh
    omega
  refine loop_to (σ := Nat) (fun i => kids.length - i) (fun i => some (AV.bool (scL (kids.drop i) (IntKind.i64.wrap (depth + 1))))) (fun i e s => i ≤ kids.length ∧ Env.get e 5 = .int .i64 i ∧ Env.get e 1 = .int .i64 depth ∧ Env.get e 2 = .ptr 8 0 ∧
    s.get 8 = some (.cells [.str kind, .int .i64 a, .int .i64 b, .int .i64 mi, .int .i64 ma, .str pat, encS nl (encL kids)] 39 false 0 0)) 0 ?_ rfl ?_
  · rintro L i e s ⟨hi, h5, h1, h2, hs⟩ IH
    by_cases hd : i < kids.length
    · have hx : (encL kids)[i]? = some (encC kids[i]) := by rw [encL_get, List.getElem?_eq_getElem hd]; rfl
      have hw := wrap_succ hd (by omega)
      have hc := ih kids[i] (List.getElem_mem hd) (IntKind.i64.wrap (depth + 1))
      rw [encS_ne (encL_ne hd)] at hs
      rw [encC_cells] at hx hc
      simp only [Cond.cells] at hx hc
      simp +contextual only [go_sem, ↓reduceIte, r86_l0, h5, h1, h2, hs, nat_lt_dec, hd, encL_len, hx, hc]
      rw [List.drop_eq_getElem_cons hd, scL]
      cases hb : sc kids[i] (IntKind.i64.wrap (depth + 1))
      · simp only [go_sem, ↓reduceIte]
      · simp only [go_sem, ↓reduceIte, hw]
        refine IH (i + 1) _ _ (by omega) ⟨by omega, ?_, ?_, ?_, ?_⟩ <;> simp +contextual only [go_sem, ↓reduceIte, h5, h1, h2, hs, hw, encS_ne (encL_ne hd)]
    · have : i = kids.length := by omega
      subst this
      simp +contextual only [go_sem, ↓reduceIte, r86_l0, h5, h1, h2, hs, lenL_encS, encL_len, nat_lt_dec, Nat.lt_irrefl]
      rw [List.drop_length, scL]
  · refine ⟨Nat.zero_le _, ?_, ?_, ?_, ?_⟩ <;> simp +contextual only [go_sem, ↓reduceIte] <;> rfl

theorem leaves_pos (c : Cond) : 1 ≤ leaves c := by cases c; simp [leaves]
theorem leavesL_len : ∀ l, l.length ≤ leavesL l
  | [] => Nat.zero_le _
  | c :: l => by have := leavesL_len l; have := leaves_pos c; simp only [leavesL, List.length_cons]; omega
theorem leavesL_mem : ∀ {l : List Cond} {c : Cond}, c ∈ l → leaves c ≤ leavesL l
  | c' :: l, c, h => by
    rw [leavesL]
    rcases List.mem_cons.1 h with rfl | h
    · omega
    · have := leavesL_mem h; omega
theorem leavesL_app (l m : List Cond) : leavesL (l ++ m) = leavesL l + leavesL m := by
  induction l with
  | nil => simp [leavesL]
  | cons c l ih => simp only [List.cons_append, leavesL, ih]; omega
theorem c87 : ∀ c : Cond, leaves c < 2 ^ 62 → calV U 87 [encC c] = some (.int .i64 (leaves c)) := by
  intro c
  induction c using Cond.ind with
  | h kind a b mi ma pat nl kids ih =>
  intro hb
  rw [leaves] at hb ⊢
  have hlen := leavesL_len kids
  refine pure_go k87 (by kernel_rfl) (by simp [stills, still_encC, still]) ?_
  rw [encC]
  simp (config := { maxSteps := 2000000 }) +contextual only [go_sem, ↓reduceIte, r87, lenL_encS, encL_len, cells_encS, noAgg_encS, br_tt]
  refine loop_to (σ := Nat) (fun i => kids.length - i) (fun i => some (AV.int .i64 ((leavesL kids + 1 : Nat) : Int))) (fun i e s => i ≤ kids.length ∧ Env.get e 4 = .int .i64 i ∧ Env.get e 3 = .int .i64 ((leavesL (kids.take i) + 1 : Nat) : Int) ∧ Env.get e 1 = .ptr 8 0 ∧
    s.get 8 = some (.cells [.str kind, .int .i64 a, .int .i64 b, .int .i64 mi, .int .i64 ma, .str pat, encS nl (encL kids)] 39 false 0 0)) 0 ?_ rfl ?_
  · rintro L i e s ⟨hi, h4, h3, h1, hs⟩ IH
    by_cases hd : i < kids.length
    · have hx : (encL kids)[i]? = some (encC kids[i]) := by rw [encL_get, List.getElem?_eq_getElem hd]; rfl
      have hw := wrap_succ hd (by omega)
      have hc := ih kids[i] (List.getElem_mem hd) (by have := leavesL_mem (List.getElem_mem hd); omega)
      have htk : leavesL (kids.take (i + 1)) = leavesL (kids.take i) + leaves kids[i] := by
        rw [List.take_succ_eq_append_getElem hd, leavesL_app]; simp [leavesL]
      have hle : leavesL (kids.take (i + 1)) ≤ leavesL kids := by
        have := leavesL_app (kids.take (i + 1)) (kids.drop (i + 1))
        rw [List.take_append_drop] at this; omega
      have hw2 : IntKind.i64.wrap (((leavesL (kids.take i) + 1 : Nat) : Int) + (leaves kids[i] : Int)) = ((leavesL (kids.take (i + 1)) + 1 : Nat) : Int) := by rw [wrap_i64] <;> omega
      rw [encS_ne (encL_ne hd)] at hs
      rw [encC_cells] at hx hc
      simp only [Cond.cells] at hx hc
      simp +contextual only [go_sem, ↓reduceIte, r87_l0, h4, h3, h1, hs, nat_lt_dec, hd, encL_len, hx, hc, hw, hw2]
      refine IH (i + 1) _ _ (by omega) ⟨by omega, ?_, ?_, ?_, ?_⟩ <;> simp +contextual only [go_sem, ↓reduceIte, h4, h3, h1, hs, hw, hw2, encS_ne (encL_ne hd)]
    · have : i = kids.length := by omega
      subst this
      rw [List.take_length] at h3
      simp +contextual only [go_sem, ↓reduceIte, r87_l0, h4, h3, h1, hs, lenL_encS, encL_len, nat_lt_dec, Nat.lt_irrefl]
  · refine ⟨Nat.zero_le _, ?_, ?_, ?_, ?_⟩ <;> simp +contextual only [go_sem, ↓reduceIte] <;> rfl
end Go.Am

set_option linter.all false
namespace Go.Am
open Go
variable [MaxLen]
set_option maxRecDepth 100000
set_option maxHeartbeats 8000000

theorem scL_mem {d : Int} : ∀ {l : List Cond}, scL l d = true → ∀ c ∈ l, sc c d = true
  | c :: l, h, x, hx => by
    rw [scL] at h
    cases hc : sc c d
    · rw [hc] at h; cases h
    · rw [hc] at h
      rcases List.mem_cons.1 hx with rfl | hx
      · exact hc
      · exact scL_mem h x hx
theorem sc_spec {k : Str} {a b mi ma : Int} {p : Str} {nl : Bool} {kids : List Cond} {d : Int} (h : sc (.mk k a b mi ma p nl kids) d = true) (hd : 1 ≤ d) : d ≤ 6 ∧ k.length ≤ 20 ∧ p.length ≤ 40 ∧ kids.length ≤ 10 ∧ ∀ c ∈ kids, sc c (d + 1) = true := by
  rw [sc] at h
  cases hb : (decide (d > 6) || decide ((k.length : Int) > 20) || decide ((p.length : Int) > 40) || decide ((kids.length : Int) > 10))
  · rw [hb, br_false] at h
    simp only [Bool.or_eq_false_iff, decide_eq_false_iff_not] at hb
    obtain ⟨⟨⟨h1, h2⟩, h3⟩, h4⟩ := hb
    have hw : IntKind.i64.wrap (d + 1) = d + 1 := wrap_i64 (by omega) (by omega)
    rw [hw] at h
    exact ⟨by omega, by omega, by omega, by omega, scL_mem h⟩
  · rw [hb] at h; cases h
theorem sc_fits : ∀ (c : Cond) (d : Int), 1 ≤ d → sc c d = true → c.fits ∧ leaves c ≤ 11 ^ (7 - d.toNat) := by
  intro c
  induction c using Cond.ind with
  | h kind a b mi ma pat nl kids ih =>
  intro d hd h
  obtain ⟨h1, h2, h3, h4, h5⟩ := sc_spec h hd
  have hk : ∀ x ∈ kids, x.fits ∧ leaves x ≤ 11 ^ (6 - d.toNat) := fun x hx => by
    have := ih x hx (d + 1) (by omega) (h5 x hx)
    rwa [show 7 - (d + 1).toNat = 6 - d.toNat from by omega] at this
  refine ⟨?_, ?_⟩
  · rw [Cond.fits]
    exact ⟨by omega, by omega, fun x hx => (hk x hx).1⟩
  · rw [leaves]
    have : ∀ l : List Cond, (∀ x ∈ l, x ∈ kids) → leavesL l ≤ l.length * 11 ^ (6 - d.toNat) := by
      intro l
      induction l with
      | nil => intro _; simp [leavesL]
      | cons c l ihl =>
        intro hl
        have := ihl fun x hx => hl x (List.mem_cons_of_mem _ hx)
        have := (hk c (hl c (List.mem_cons_self ..))).2
        rw [leavesL, List.length_cons, Nat.add_mul]; omega
    have h6 := this kids fun _ h => h
    have h7 : kids.length * 11 ^ (6 - d.toNat) ≤ 10 * 11 ^ (6 - d.toNat) := Nat.mul_le_mul_right _ h4
    have h8 : 11 ^ (7 - d.toNat) = 11 * 11 ^ (6 - d.toNat) := by
      rw [show 7 - d.toNat = (6 - d.toNat) + 1 from by omega, Nat.pow_succ, Nat.mul_comm]
    have h9 : 1 ≤ 11 ^ (6 - d.toNat) := Nat.one_le_pow _ _ (by omega)
    omega
theorem sc_leaves {c : Cond} (h : sc c 1 = true) : leaves c < 2 ^ 62 := by
  have := (sc_fits c 1 (by omega) h).2
  have e : 11 ^ (7 - (1 : Int).toNat) = 1771561 := rfl
  rw [e] at this
  omega

def shortC (c : Cond) (n : Int) : Bool := sc c 1 && decide ((leaves c : Int) ≤ n)
theorem c21 (c : Cond) (n : Int) : calV U 21 [encC c, .int .i64 n] = some (.bool (shortC c n)) := by
  refine pure_go k21 (by kernel_rfl) (by simp [stills, still_encC, still]) ?_
  have h86 := c86 c 1
  have h87 : sc c 1 = true → calV U 87 [encC c] = some (.int .i64 (leaves c)) := fun h => c87 c (sc_leaves h)
  rw [encC_cells] at h86 h87 ⊢
  simp only [Cond.cells] at h86 h87 ⊢
  simp (config := { maxSteps := 2000000 }) +contextual only [go_sem, ↓reduceIte, r21, h86, h87, noAgg_encS]
  rfl
def shortL (n : Int) : List Step → Bool
  | [] => true
  | s :: l => br (!(shortC s.cond n)) false (shortL n l)
def short (p : Prog) (n : Int) : Bool := br (decide ((p.steps.length : Int) > 10)) false (shortL n p.steps)
theorem c31 (p : Prog) (n : Int) : calV U 31 [encP p, .int .i64 n] = some (.bool (short p n)) := by
  obtain ⟨lines, nl, steps⟩ := p
  refine pure_go k31 (by kernel_rfl) (by simp [stills, still_encP, still]) ?_
  rw [encP_eq, short]
  simp (config := { maxSteps := 2000000 }) +contextual only [go_sem, ↓reduceIte, r31, lenL_encS, encSteps_len, cells_encS, noAgg_encS]
  simp only [brB_some']
  refine br_r fun hsh => ?_
  have hlen : steps.length ≤ 10 := by
    simp only [decide_eq_false_iff_not] at hsh
    omega
  refine loop_to (σ := Nat) (fun i => steps.length - i) (fun i => some (AV.bool (shortL n (steps.drop i)))) (fun i e s => i ≤ steps.length ∧ Env.get e 5 = .int .i64 i ∧ Env.get e 1 = .int .i64 n ∧ Env.get e 2 = .ptr 8 0 ∧
    s.get 8 = some (.cells [.int .i64 lines, encS nl (encSteps steps)] 31 false 0 0)) 0 ?_ rfl ?_
  · rintro L i e s ⟨hi, h5, h1, h2, hs⟩ IH
    by_cases hd : i < steps.length
    · have hx : (encSteps steps)[i]? = some (encStep steps[i]) := by rw [encSteps_get, List.getElem?_eq_getElem hd]; rfl
      have hw := wrap_succ hd (by omega)
      have hc := c21 steps[i].cond n
      rw [encS_ne (encSteps_ne hd)] at hs
      rw [encC_cells] at hc
      simp only [Cond.cells, encStep] at hx hc
      simp +contextual only [go_sem, ↓reduceIte, r31_l0, h5, h1, h2, hs, nat_lt_dec, hd, encSteps_len, hx, hc]
      rw [List.drop_eq_getElem_cons hd, shortL]
      cases hb : shortC steps[i].cond n
      · simp only [go_sem, ↓reduceIte]
      · simp only [go_sem, ↓reduceIte, hw]
        refine IH (i + 1) _ _ (by omega) ⟨by omega, ?_, ?_, ?_, ?_⟩ <;> simp +contextual only [go_sem, ↓reduceIte, h5, h1, h2, hs, hw, encS_ne (encSteps_ne hd)]
    · have : i = steps.length := by omega
      subst this
      simp +contextual only [go_sem, ↓reduceIte, r31_l0, h5, h1, h2, hs, lenL_encS, encSteps_len, nat_lt_dec, Nat.lt_irrefl]
      rw [List.drop_length, shortL]
  · refine ⟨Nat.zero_le _, ?_, ?_, ?_, ?_⟩ <;> simp +contextual only [go_sem, ↓reduceIte] <;> rfl
theorem short_spec {p : Prog} {n : Int} (h : short p n = true) : p.steps.length ≤ 10 ∧ ∀ s ∈ p.steps, sc s.cond 1 = true ∧ (leaves s.cond : Int) ≤ n := by
  unfold short at h
  cases hb : decide ((p.steps.length : Int) > 10)
  · rw [hb, br_false] at h
    refine ⟨by simp only [decide_eq_false_iff_not] at hb; omega, ?_⟩
    have : ∀ l : List Step, shortL n l = true → ∀ s ∈ l, sc s.cond 1 = true ∧ (leaves s.cond : Int) ≤ n := by
      intro l
      induction l with
      | nil => intro _ s hs; cases hs
      | cons x l ih =>
        intro h s hs
        rw [shortL] at h
        cases hx : shortC x.cond n
        · rw [hx] at h; cases h
        · rw [hx] at h
          rcases List.mem_cons.1 hs with rfl | hs
          · simpa [shortC] using hx
          · exact ih h s hs
    exact this _ h
  · rw [hb] at h; cases h
theorem short_fits {p : Prog} {n : Int} (h : short p n = true) : p.fits := by
  obtain ⟨h1, h2⟩ := short_spec h
  exact ⟨by omega, fun s hs => (sc_fits _ 1 (by omega) (h2 s hs).1).1⟩
end Go.Am

set_option linter.all false
namespace Go.Am
open Go
variable [MaxLen]
set_option maxRecDepth 100000
/-- (strobe/trigger.Cond).compound; results .tmp 2 -/
def r213 : RC := (.seq (.ops [⟨some 1, none, none, false, .box 48 (.t 0)⟩,
  ⟨some 2, none, none, false, .mov (.v (.bool false))⟩]) (.seq (.ops [⟨some 3, none, none, false, .fa 0 (.t 1)⟩,
  ⟨some 4, none, none, false, .ld1 (.t 3)⟩,
  ⟨some 5, none, none, false, .bin .eql 9 true (.t 4) (.v (.str [110, 111, 116]))⟩,
  ⟨some 6, none, none, false, .mov (.t 5)⟩,
  ⟨some 7, some (6, false), none, false, .fa 0 (.t 1)⟩,
  ⟨some 8, some (6, false), none, false, .ld1 (.t 7)⟩,
  ⟨some 9, some (6, false), none, false, .bin .eql 9 true (.t 8) (.v (.str [97, 108, 108]))⟩,
  ⟨some 10, none, none, false, .pick (.t 6) (.v (.bool true)) (.t 9)⟩,
  ⟨some 11, none, none, false, .mov (.t 10)⟩,
  ⟨some 12, some (11, false), none, false, .fa 0 (.t 1)⟩,
  ⟨some 13, some (11, false), none, false, .ld1 (.t 12)⟩,
  ⟨some 14, some (11, false), none, false, .bin .eql 9 true (.t 13) (.v (.str [97, 110, 121]))⟩,
  ⟨some 15, none, none, false, .pick (.t 11) (.v (.bool true)) (.t 14)⟩,
  ⟨some 2, none, none, false, .mov (.t 15)⟩]) .ret))
theorem k213 : fnRC 213 = some ([.tmp 2], r213) := by kernel_rfl

/-- strobe/trigger.limited; results .tmp 4 -/
def r170 : RC := (.seq (.ops [⟨some 4, none, none, false, .mov (.v (.int .i64 0))⟩]) (.seq (.ops [⟨some 5, none, none, false, .mov (.t 0)⟩,
  ⟨some 6, none, none, false, .mov (.t 1)⟩,
  ⟨some 7, none, none, false, .bin .mul 3 false (.t 5) (.t 6)⟩,
  ⟨some 8, none, none, false, .raw (.call { callee := .builtin .min, args := #[(.tmp 7), (.const (.int .i64 65537))], argTypes := #[3, 3] })⟩,
  ⟨some 4, none, none, false, .mov (.t 8)⟩]) .ret))
theorem k170 : fnRC 170 = some ([.tmp 4], r170) := by kernel_rfl

def r171_l0 : RC := (.seq (.ops [⟨some 20, none, none, false, .bin .lss 3 false (.t 19) (.t 18)⟩]) (.seq (.cond (.t 20) .skip (.exit 0)) (.seq (.block 1 (.seq (.ops [⟨some 21, none, none, false, .ixa 7 (.t 17) (.t 19)⟩,
  ⟨some 22, none, none, false, .ldn 7 (.t 21)⟩,
  ⟨some 5, none, none, false, .al [(.str []), (.int .i64 0), (.int .i64 0), (.int .i64 0), (.int .i64 0), (.str []), .nils] 48⟩,
  ⟨none, none, none, false, .st 7 (.t 5) (.t 22)⟩]) (.ops [⟨some 23, none, none, false, .mov (.t 3)⟩,
  ⟨some 24, none, none, false, .ldn 7 (.t 5)⟩,
  ⟨some 25, none, none, false, .call 171 [(.t 24)]⟩,
  ⟨some 26, none, none, false, .call 170 [(.t 23), (.t 25)]⟩,
  ⟨some 3, none, none, false, .mov (.t 26)⟩]))) (.ops [⟨some 27, none, none, false, .bin .add 3 true (.t 19) (.v (.int .i64 1))⟩,
  ⟨some 19, none, none, false, .mov (.t 27)⟩]))))
/-- (strobe/trigger.Cond).size; results .tmp 2 -/
def r171 : RC := (.seq (.ops [⟨some 1, none, none, false, .box 48 (.t 0)⟩,
  ⟨some 2, none, none, false, .mov (.v (.int .i64 0))⟩]) (.seq (.seq (.ops [⟨some 6, none, none, false, .ldn 7 (.t 1)⟩,
  ⟨some 7, none, none, false, .call 213 [(.t 6)]⟩,
  ⟨some 8, none, none, false, .un .not (.t 7)⟩]) (.cond (.t 8) (.seq (.drw 8 [⟨some 9, none, none, false, .call 156 []⟩,
  ⟨some 10, none, none, false, .fa 0 (.t 1)⟩,
  ⟨some 11, none, none, false, .ld1 (.t 10)⟩,
  ⟨some 12, none, none, false, .raw (.lookup 238 (.tmp 9) (.tmp 11) false)⟩,
  ⟨some 13, none, none, false, .fd1 6 (.t 12)⟩,
  ⟨some 14, none, none, false, .ldn 7 (.t 1)⟩,
  ⟨some 15, none, none, true, .callv (.t 13) [(.t 14)]⟩,
  ⟨some 2, none, none, false, .mov (.t 15)⟩]) .ret) .skip)) (.seq (.ops [⟨some 3, none, none, false, .mov (.v (.int .i64 1))⟩]) (.seq (.seq (.ops [⟨some 16, none, none, false, .fa 6 (.t 1)⟩,
  ⟨some 17, none, none, false, .ld1 (.t 16)⟩,
  ⟨some 18, none, none, false, .lenL (.t 17)⟩,
  ⟨some 19, none, none, false, .mov (.v (.int .i64 0))⟩]) (.block 0 (.loop r171_l0))) (.seq (.ops [⟨some 28, none, none, false, .mov (.t 3)⟩,
  ⟨some 2, none, none, false, .mov (.t 28)⟩]) .ret)))))
theorem k171 : fnRC 171 = some ([.tmp 2], r171) := by kernel_rfl

/-- strobe/trigger.kinds$1; results .tmp 2 -/
def r192 : RC := (.seq (.ops [⟨some 1, none, none, false, .box 48 (.t 0)⟩,
  ⟨some 2, none, none, false, .mov (.v (.int .i64 0))⟩]) (.seq (.ops [⟨some 3, none, none, false, .fa 4 (.t 1)⟩,
  ⟨some 4, none, none, false, .ld1 (.t 3)⟩,
  ⟨some 5, none, none, false, .bin .add 3 true (.t 4) (.v (.int .i64 3))⟩,
  ⟨some 2, none, none, false, .mov (.t 5)⟩]) .ret))
theorem k192 : fnRC 192 = some ([.tmp 2], r192) := by kernel_rfl

/-- strobe/trigger.kinds$2; results .tmp 2 -/
def r193 : RC := (.seq (.ops [⟨some 1, none, none, false, .box 48 (.t 0)⟩,
  ⟨some 2, none, none, false, .mov (.v (.int .i64 0))⟩]) (.seq (.ops [⟨some 3, none, none, false, .fa 3 (.t 1)⟩,
  ⟨some 4, none, none, false, .ld1 (.t 3)⟩,
  ⟨some 5, none, none, false, .bin .add 3 true (.t 4) (.v (.int .i64 2))⟩,
  ⟨some 2, none, none, false, .mov (.t 5)⟩]) .ret))
theorem k193 : fnRC 193 = some ([.tmp 2], r193) := by kernel_rfl

/-- strobe/trigger.one; results .tmp 2 -/
def r194 : RC := (.seq (.ops [⟨some 1, none, none, false, .box 48 (.t 0)⟩,
  ⟨some 2, none, none, false, .mov (.v (.int .i64 0))⟩]) (.seq (.ops [⟨some 2, none, none, false, .mov (.v (.int .i64 1))⟩]) .ret))
theorem k194 : fnRC 194 = some ([.tmp 2], r194) := by kernel_rfl

/-- strobe/trigger.zero; results .tmp 2 -/
def r195 : RC := (.seq (.ops [⟨some 1, none, none, false, .box 48 (.t 0)⟩,
  ⟨some 2, none, none, false, .mov (.v (.int .i64 0))⟩]) (.seq (.ops [⟨some 2, none, none, false, .mov (.v (.int .i64 0))⟩]) .ret))
theorem k195 : fnRC 195 = some ([.tmp 2], r195) := by kernel_rfl

/-- strobe/trigger.kinds$9; results .tmp 2 -/
def r208 : RC := (.seq (.ops [⟨some 1, none, none, false, .box 48 (.t 0)⟩,
  ⟨some 2, none, none, false, .mov (.v (.int .i64 0))⟩]) (.seq (.ops [⟨some 3, none, none, false, .fa 3 (.t 1)⟩,
  ⟨some 4, none, none, false, .ld1 (.t 3)⟩,
  ⟨some 2, none, none, false, .mov (.t 4)⟩]) .ret))
theorem k208 : fnRC 208 = some ([.tmp 2], r208) := by kernel_rfl

/-- strobe/trigger.kinds$10; results .tmp 2 -/
def r210 : RC := (.seq (.ops [⟨some 1, none, none, false, .box 48 (.t 0)⟩,
  ⟨some 2, none, none, false, .mov (.v (.int .i64 0))⟩]) (.seq (.ops [⟨some 2, none, none, false, .mov (.v (.int .i64 4))⟩]) .ret))
theorem k210 : fnRC 210 = some ([.tmp 2], r210) := by kernel_rfl

def r102_l0 : RC := (.seq (.ops [⟨some 15, none, none, false, .bin .lss 3 false (.t 14) (.t 13)⟩]) (.seq (.cond (.t 15) .skip (.exit 0)) (.seq (.block 1 (.seq (.ops [⟨some 16, none, none, false, .ixa 9 (.t 12) (.t 14)⟩,
  ⟨some 17, none, none, false, .ldn 9 (.t 16)⟩,
  ⟨some 6, none, none, false, .al [(.str []), (.int .i64 0), (.int .i64 0), (.int .i64 0), (.int .i64 0), (.str []), .nils, (.int .i64 0), (.int .i64 0)] 144⟩,
  ⟨none, none, none, false, .st 9 (.t 6) (.t 17)⟩]) (.seq (.ops [⟨some 18, none, none, false, .mov (.t 3)⟩,
  ⟨some 19, none, none, false, .fa 0 (.t 6)⟩,
  ⟨some 20, none, none, false, .ldn 7 (.t 19)⟩,
  ⟨some 21, none, none, false, .call 171 [(.t 20)]⟩,
  ⟨some 22, none, none, false, .call 170 [(.t 18), (.t 21)]⟩,
  ⟨some 3, none, none, false, .mov (.t 22)⟩]) (.ops [⟨some 23, none, none, false, .mov (.t 4)⟩,
  ⟨some 24, none, none, false, .fa 7 (.t 6)⟩,
  ⟨some 25, none, none, false, .ld1 (.t 24)⟩,
  ⟨some 26, none, none, false, .fa 8 (.t 6)⟩,
  ⟨some 27, none, none, false, .ld1 (.t 26)⟩,
  ⟨some 28, none, none, false, .bin .add 3 true (.t 27) (.v (.int .i64 1))⟩,
  ⟨some 29, none, none, false, .bin .mul 3 false (.t 25) (.t 28)⟩,
  ⟨some 30, none, none, false, .bin .add 3 false (.t 23) (.t 29)⟩,
  ⟨some 4, none, none, false, .mov (.t 30)⟩])))) (.ops [⟨some 31, none, none, false, .bin .add 3 true (.t 14) (.v (.int .i64 1))⟩,
  ⟨some 14, none, none, false, .mov (.t 31)⟩]))))
/-- (strobe/trigger.Program).size; results .tmp 2 -/
def r102 : RC := (.seq (.ops [⟨some 1, none, none, false, .box 25 (.t 0)⟩,
  ⟨some 2, none, none, false, .mov (.v (.int .i64 0))⟩]) (.seq (.ops [⟨some 7, none, none, false, .fa 0 (.t 1)⟩,
  ⟨some 8, none, none, false, .ld1 (.t 7)⟩,
  ⟨some 9, none, none, false, .bin .shl 3 true (.v (.int .i64 1)) (.t 8)⟩,
  ⟨some 10, none, none, false, .bin .add 3 true (.t 9) (.v (.int .i64 1))⟩,
  ⟨some 3, none, none, false, .mov (.t 10)⟩,
  ⟨some 4, none, none, false, .mov (.v (.int .i64 0))⟩]) (.seq (.seq (.ops [⟨some 11, none, none, false, .fa 1 (.t 1)⟩,
  ⟨some 12, none, none, false, .ld1 (.t 11)⟩,
  ⟨some 13, none, none, false, .lenL (.t 12)⟩,
  ⟨some 14, none, none, false, .mov (.v (.int .i64 0))⟩]) (.block 0 (.loop r102_l0))) (.seq (.ops [⟨some 32, none, none, false, .mov (.t 3)⟩,
  ⟨some 33, none, none, false, .mov (.t 4)⟩,
  ⟨some 34, none, none, false, .call 170 [(.t 32), (.t 33)]⟩,
  ⟨some 2, none, none, false, .mov (.t 34)⟩]) .ret))))
theorem k102 : fnRC 102 = some ([.tmp 2], r102) := by kernel_rfl

/-- strobe/trigger.Size; results .tmp 2,.tmp 3 -/
def r65 : RC := (.seq (.ops [⟨some 1, none, none, false, .box 25 (.t 0)⟩,
  ⟨some 2, none, none, false, .mov (.v (.int .i64 0))⟩,
  ⟨some 3, none, none, false, .mov (.v (.int .i64 0))⟩]) (.seq (.seq (.ops [⟨some 5, none, none, false, .ldn 2 (.t 1)⟩,
  ⟨some 6, none, none, false, .call 64 [(.t 5)]⟩,
  ⟨some 4, none, none, false, .mov (.t 6)⟩]) (.seq (.ops [⟨some 7, none, none, false, .mov (.t 4)⟩,
  ⟨some 8, none, none, false, .bin .neq 26 true (.t 7) (.v (.int .i64 0))⟩]) (.cond (.t 8) (.seq (.ops [⟨some 9, none, none, false, .mov (.t 4)⟩,
  ⟨some 2, none, none, false, .mov (.v (.int .i64 0))⟩,
  ⟨some 3, none, none, false, .mov (.t 9)⟩]) .ret) .skip))) (.seq (.ops [⟨some 10, none, none, false, .ldn 2 (.t 1)⟩,
  ⟨some 11, none, none, false, .call 102 [(.t 10)]⟩,
  ⟨some 2, none, none, false, .mov (.t 11)⟩,
  ⟨some 3, none, none, false, .mov (.v (.int .i64 0))⟩]) .ret)))
theorem k65 : fnRC 65 = some ([.tmp 2, .tmp 3], r65) := by kernel_rfl

/-- strobe/stroberef04.product; results .tmp 4 -/
def r100 : RC := (.seq (.ops [⟨some 4, none, none, false, .mov (.v (.int .i64 0))⟩]) (.seq (.ops [⟨some 5, none, none, false, .mov (.t 0)⟩,
  ⟨some 6, none, none, false, .mov (.t 1)⟩,
  ⟨some 7, none, none, false, .bin .mul 3 false (.t 5) (.t 6)⟩,
  ⟨some 8, none, none, false, .raw (.call { callee := .builtin .min, args := #[(.tmp 7), (.const (.int .i64 65537))], argTypes := #[3, 3] })⟩,
  ⟨some 4, none, none, false, .mov (.t 8)⟩]) .ret))
theorem k100 : fnRC 100 = some ([.tmp 4], r100) := by kernel_rfl

def r101_l0 : RC := (.seq (.seq (.ops [⟨some 21, none, none, false, .mov (.t 4)⟩,
  ⟨some 22, none, none, false, .fa 6 (.t 1)⟩,
  ⟨some 23, none, none, false, .ld1 (.t 22)⟩,
  ⟨some 24, none, none, false, .lenL (.t 23)⟩,
  ⟨some 25, none, none, false, .bin .lss 3 false (.t 21) (.t 24)⟩]) (.cond (.t 25) .skip (.exit 1))) (.seq (.block 2 (.ops [⟨some 28, none, none, false, .mov (.t 3)⟩,
  ⟨some 29, none, none, false, .fa 6 (.t 1)⟩,
  ⟨some 30, none, none, false, .ld1 (.t 29)⟩,
  ⟨some 31, none, none, false, .mov (.t 4)⟩,
  ⟨some 32, none, none, false, .ixa 7 (.t 30) (.t 31)⟩,
  ⟨some 33, none, none, false, .ldn 7 (.t 32)⟩,
  ⟨some 34, none, none, false, .call 101 [(.t 33)]⟩,
  ⟨some 35, none, none, false, .call 100 [(.t 28), (.t 34)]⟩,
  ⟨some 3, none, none, false, .mov (.t 35)⟩])) (.ops [⟨some 26, none, none, false, .mov (.t 4)⟩,
  ⟨some 27, none, none, false, .bin .add 3 true (.t 26) (.v (.int .i64 1))⟩,
  ⟨some 4, none, none, false, .mov (.t 27)⟩])))
/-- strobe/stroberef04.condSize; results .tmp 2 -/
def r101 : RC := (.seq (.ops [⟨some 1, none, none, false, .box 39 (.t 0)⟩,
  ⟨some 2, none, none, false, .mov (.v (.int .i64 0))⟩]) (.seq (.seq (.ops [⟨some 5, none, none, false, .fa 0 (.t 1)⟩,
  ⟨some 6, none, none, false, .ld1 (.t 5)⟩]) (.block 0 (.seq (.seq (.ops [⟨some 8, none, none, false, .bin .eql 9 true (.t 6) (.v (.str [112, 117, 108, 115, 101]))⟩,
  ⟨some 7, none, none, false, .mov (.t 8)⟩]) (.cond (.t 7) .skip (.ops [⟨some 9, none, none, false, .bin .eql 9 true (.t 6) (.v (.str [103, 97, 112]))⟩,
  ⟨some 7, none, none, false, .mov (.t 9)⟩]))) (.cond (.t 7) (.seq (.ops [⟨some 10, none, none, false, .fa 4 (.t 1)⟩,
  ⟨some 11, none, none, false, .ld1 (.t 10)⟩,
  ⟨some 12, none, none, false, .bin .add 3 true (.t 11) (.v (.int .i64 3))⟩,
  ⟨some 2, none, none, false, .mov (.t 12)⟩]) .ret) (.seq (.seq (.ops [⟨some 14, none, none, false, .bin .eql 9 true (.t 6) (.v (.str [105, 100, 108, 101]))⟩,
  ⟨some 13, none, none, false, .mov (.t 14)⟩]) (.cond (.t 13) .skip (.ops [⟨some 15, none, none, false, .bin .eql 9 true (.t 6) (.v (.str [115, 101, 116, 117, 112]))⟩,
  ⟨some 13, none, none, false, .mov (.t 15)⟩]))) (.cond (.t 13) (.seq (.ops [⟨some 16, none, none, false, .fa 3 (.t 1)⟩,
  ⟨some 17, none, none, false, .ld1 (.t 16)⟩,
  ⟨some 18, none, none, false, .bin .add 3 true (.t 17) (.v (.int .i64 2))⟩,
  ⟨some 2, none, none, false, .mov (.t 18)⟩]) .ret) (.seq (.ops [⟨some 20, none, none, false, .bin .eql 9 true (.t 6) (.v (.str [114, 117, 110, 116]))⟩,
  ⟨some 19, none, none, false, .mov (.t 20)⟩]) (.cond (.t 19) (.seq (.ops [⟨some 2, none, none, false, .mov (.v (.int .i64 4))⟩]) .ret) .skip)))))))) (.seq (.ops [⟨some 3, none, none, false, .mov (.v (.int .i64 1))⟩]) (.seq (.seq (.ops [⟨some 4, none, none, false, .mov (.v (.int .i64 0))⟩]) (.block 1 (.loop r101_l0))) (.seq (.ops [⟨some 36, none, none, false, .mov (.t 3)⟩,
  ⟨some 2, none, none, false, .mov (.t 36)⟩]) .ret)))))
theorem k101 : fnRC 101 = some ([.tmp 2], r101) := by kernel_rfl

def r38_l0 : RC := (.seq (.seq (.ops [⟨some 10, none, none, false, .mov (.t 5)⟩,
  ⟨some 11, none, none, false, .fa 1 (.t 1)⟩,
  ⟨some 12, none, none, false, .ld1 (.t 11)⟩,
  ⟨some 13, none, none, false, .lenL (.t 12)⟩,
  ⟨some 14, none, none, false, .bin .lss 3 false (.t 10) (.t 13)⟩]) (.cond (.t 14) .skip (.exit 0))) (.seq (.block 1 (.seq (.ops [⟨some 17, none, none, false, .mov (.t 3)⟩,
  ⟨some 18, none, none, false, .fa 1 (.t 1)⟩,
  ⟨some 19, none, none, false, .ld1 (.t 18)⟩,
  ⟨some 20, none, none, false, .mov (.t 5)⟩,
  ⟨some 21, none, none, false, .ixa 9 (.t 19) (.t 20)⟩,
  ⟨some 22, none, none, false, .fa 0 (.t 21)⟩,
  ⟨some 23, none, none, false, .ldn 7 (.t 22)⟩,
  ⟨some 24, none, none, false, .call 101 [(.t 23)]⟩,
  ⟨some 25, none, none, false, .call 100 [(.t 17), (.t 24)]⟩,
  ⟨some 3, none, none, false, .mov (.t 25)⟩]) (.drw 17 [⟨some 26, none, none, false, .mov (.t 4)⟩,
  ⟨some 27, none, none, false, .fa 1 (.t 1)⟩,
  ⟨some 28, none, none, false, .ld1 (.t 27)⟩,
  ⟨some 29, none, none, false, .mov (.t 5)⟩,
  ⟨some 30, none, none, false, .ixa 9 (.t 28) (.t 29)⟩,
  ⟨some 31, none, none, false, .fa 7 (.t 30)⟩,
  ⟨some 32, none, none, false, .ld1 (.t 31)⟩,
  ⟨some 33, none, none, false, .fa 1 (.t 1)⟩,
  ⟨some 34, none, none, false, .ld1 (.t 33)⟩,
  ⟨some 35, none, none, false, .mov (.t 5)⟩,
  ⟨some 36, none, none, false, .ixa 9 (.t 34) (.t 35)⟩,
  ⟨some 37, none, none, false, .fa 8 (.t 36)⟩,
  ⟨some 38, none, none, false, .ld1 (.t 37)⟩,
  ⟨some 39, none, none, false, .bin .add 3 true (.t 38) (.v (.int .i64 1))⟩,
  ⟨some 40, none, none, false, .bin .mul 3 false (.t 32) (.t 39)⟩,
  ⟨some 41, none, none, false, .bin .add 3 false (.t 26) (.t 40)⟩,
  ⟨some 4, none, none, false, .mov (.t 41)⟩]))) (.ops [⟨some 15, none, none, false, .mov (.t 5)⟩,
  ⟨some 16, none, none, false, .bin .add 3 true (.t 15) (.v (.int .i64 1))⟩,
  ⟨some 5, none, none, false, .mov (.t 16)⟩])))
/-- strobe/stroberef04.Size; results .tmp 2 -/
def r38 : RC := (.seq (.ops [⟨some 1, none, none, false, .box 31 (.t 0)⟩,
  ⟨some 2, none, none, false, .mov (.v (.int .i64 0))⟩]) (.seq (.ops [⟨some 6, none, none, false, .fa 0 (.t 1)⟩,
  ⟨some 7, none, none, false, .ld1 (.t 6)⟩,
  ⟨some 8, none, none, false, .bin .shl 3 true (.v (.int .i64 1)) (.t 7)⟩,
  ⟨some 9, none, none, false, .bin .add 3 true (.t 8) (.v (.int .i64 1))⟩,
  ⟨some 3, none, none, false, .mov (.t 9)⟩]) (.seq (.ops [⟨some 4, none, none, false, .mov (.v (.int .i64 0))⟩]) (.seq (.seq (.ops [⟨some 5, none, none, false, .mov (.v (.int .i64 0))⟩]) (.block 0 (.loop r38_l0))) (.seq (.ops [⟨some 42, none, none, false, .mov (.t 3)⟩,
  ⟨some 43, none, none, false, .mov (.t 4)⟩,
  ⟨some 44, none, none, false, .raw (.call { callee := .builtin .min, args := #[(.tmp 43), (.const (.int .i64 65537))], argTypes := #[3, 3] })⟩,
  ⟨some 45, none, none, false, .call 100 [(.t 42), (.t 44)]⟩,
  ⟨some 2, none, none, false, .mov (.t 45)⟩]) .ret)))))
theorem k38 : fnRC 38 = some ([.tmp 2], r38) := by kernel_rfl

end Go.Am

set_option linter.all false
namespace Go.Am
open Go
variable [MaxLen]
set_option maxRecDepth 100000
set_option maxHeartbeats 8000000

theorem calv_fn (X : Cx) (g : FuncId) (x y args : List AV) (s : St) : calv X (.fn (.func g) x y) args s = callK X (calV X g (x ++ args ++ y)) g (x ++ args ++ y) s := by
  rw [← callK_eq]; rfl
attribute [go_sem] calv_fn List.nil_append List.append_nil List.cons_append
def lim (a b : Int) : Int := min (IntKind.i64.wrap (a * b)) 65537
theorem c100 (a b : Int) : calV U 100 [.int .i64 a, .int .i64 b] = some (.int .i64 (lim a b)) := by
  refine pure_go k100 (by kernel_rfl) rfl ?_
  simp +contextual only [go_sem, ↓reduceIte, r100]
  rfl
theorem c170 (a b : Int) : calV U 170 [.int .i64 a, .int .i64 b] = some (.int .i64 (lim a b)) := by
  refine pure_go k170 (by kernel_rfl) rfl ?_
  simp +contextual only [go_sem, ↓reduceIte, r170]
  rfl
def isComp (k : Str) : Bool := k == [110, 111, 116] || (k == [97, 108, 108] || k == [97, 110, 121])
theorem c213 (c : Cond) : calV U 213 [encC c] = some (.bool (isComp c.kind)) := by
  refine pure_go k213 (by kernel_rfl) (by simp [stills, still_encC]) ?_
  rw [encC_cells]
  simp +contextual only [go_sem, ↓reduceIte, r213, Cond.cells, noAgg_encS, br_tt]
  rw [isComp]
  cases c.kind == [110, 111, 116] <;> rfl
theorem c192 (c : Cond) : calV U 192 [encC c] = some (.int .i64 (IntKind.i64.wrap (c.ma + 3))) := by
  refine pure_go k192 (by kernel_rfl) (by simp [stills, still_encC]) ?_
  rw [encC_cells]
  simp +contextual only [go_sem, ↓reduceIte, r192, Cond.cells, noAgg_encS]
theorem c193 (c : Cond) : calV U 193 [encC c] = some (.int .i64 (IntKind.i64.wrap (c.mi + 2))) := by
  refine pure_go k193 (by kernel_rfl) (by simp [stills, still_encC]) ?_
  rw [encC_cells]
  simp +contextual only [go_sem, ↓reduceIte, r193, Cond.cells, noAgg_encS]
theorem c194 (c : Cond) : calV U 194 [encC c] = some (.int .i64 1) := by
  refine pure_go k194 (by kernel_rfl) (by simp [stills, still_encC]) ?_
  rw [encC_cells]
  simp +contextual only [go_sem, ↓reduceIte, r194, Cond.cells, noAgg_encS]
theorem c195 (c : Cond) : calV U 195 [encC c] = some (.int .i64 0) := by
  refine pure_go k195 (by kernel_rfl) (by simp [stills, still_encC]) ?_
  rw [encC_cells]
  simp +contextual only [go_sem, ↓reduceIte, r195, Cond.cells, noAgg_encS]
theorem c208 (c : Cond) : calV U 208 [encC c] = some (.int .i64 c.mi) := by
  refine pure_go k208 (by kernel_rfl) (by simp [stills, still_encC]) ?_
  rw [encC_cells]
  simp +contextual only [go_sem, ↓reduceIte, r208, Cond.cells, noAgg_encS]
theorem c210 (c : Cond) : calV U 210 [encC c] = some (.int .i64 4) := by
  refine pure_go k210 (by kernel_rfl) (by simp [stills, still_encC]) ?_
  rw [encC_cells]
  simp +contextual only [go_sem, ↓reduceIte, r210, Cond.cells, noAgg_encS]
def leafSize (d : Kd) (c : Cond) : Int := match d with
  | .pulse | .gap => IntKind.i64.wrap (c.ma + 3)
  | .idle | .setup => IntKind.i64.wrap (c.mi + 2)
  | .runt => 4
  | _ => 1
def Kd.leaf : Kd → Bool
  | .not_ | .all_ | .any_ | .other => false
  | _ => true
theorem size_call (d : Kd) (h : d.leaf = true) (c : Cond) (s : St) : calv U (kSize d) [encC c] s = some (.int .i64 (leafSize d c), s) := by
  cases d <;> first | cases h | skip
  all_goals simp only [kSize, calv_fn, List.nil_append, List.append_nil, c192, c193, c194, c210, callK_some, leafSize]
theorem isComp_kd (k : Str) (h : (kdOf k).known = true) : isComp k = !(kdOf k).leaf := by
  obtain ⟨h0, h1, h2, h3, h4, h5, h6, h7, h8, h9, h10, h11, h12, h13, h14⟩ := kd_facts k
  rw [isComp, h12, h13, h14]
  generalize kdOf k = d at *
  cases d <;> first | rfl | cases h
mutual
def Cond.allKnown : Cond → Bool
  | .mk k _ _ _ _ _ _ kids => (kdOf k).known && ((kdOf k).leaf || knownL kids)
def knownL : List Cond → Bool
  | [] => true
  | c :: l => c.allKnown && knownL l
end
theorem knownL_mem : ∀ {l : List Cond}, knownL l = true → ∀ c ∈ l, c.allKnown = true
  | c :: l, h, x, hx => by
    rw [knownL, Bool.and_eq_true] at h
    rcases List.mem_cons.1 hx with rfl | hx
    · exact h.1
    · exact knownL_mem h.2 x hx
mutual
def szP : Cond → Int
  | .mk k a b mi ma p nl kids => bif (kdOf k).leaf then leafSize (kdOf k) (.mk k a b mi ma p nl kids) else szPL kids 1
def szPL : List Cond → Int → Int
  | [], x => x
  | c :: l, x => szPL l (lim x (szP c))
end
theorem c171 : ∀ c : Cond, c.fits → c.allKnown = true → calV U 171 [encC c] = some (.int .i64 (szP c)) := by
  intro c
  induction c using Cond.ind with
  | h kind a b mi ma pat nl kids ih =>
  intro hf hk
  rw [Cond.fits] at hf
  obtain ⟨f1, f2, f3⟩ := hf
  rw [Cond.allKnown, Bool.and_eq_true] at hk
  obtain ⟨hk1, hk2⟩ := hk
  refine pure_go k171 (by kernel_rfl) (by simp [stills, still_encC]) ?_
  have h213 := c213 (.mk kind a b mi ma pat nl kids)
  have hcall : (kdOf kind).leaf = true → ∀ s, calv U (kSize (kdOf kind)) [encC (.mk kind a b mi ma pat nl kids)] s = some (.int .i64 (leafSize (kdOf kind) (.mk kind a b mi ma pat nl kids)), s) := fun h s => size_call _ h _ s
  have hlk := lookup_kinds0 kind
  rw [show (Cond.mk kind a b mi ma pat nl kids).kind = kind from rfl, isComp_kd kind hk1] at h213
  rw [szP]
  rw [encC] at h213 hcall ⊢
  rw [kindV] at hlk
  generalize leafSize (kdOf kind) (.mk kind a b mi ma pat nl kids) = ls at *
  cases hlf : (kdOf kind).leaf
  · rw [hlf] at h213 hk2
    simp (config := { maxSteps := 2000000 }) +contextual only [go_sem, ↓reduceIte, r171, h213, lenL_encS, encL_len, noAgg_encS]
    rw [Bool.false_or] at hk2
    refine loop_to (σ := Nat × Int) (fun x => kids.length - x.1) (fun x => some (AV.int .i64 (szPL (kids.drop x.1) x.2))) (fun x e s => x.1 ≤ kids.length ∧ Env.get e 3 = .int .i64 x.2 ∧ Env.get e 17 = encS nl (encL kids) ∧ Env.get e 18 = .int .i64 kids.length ∧ Env.get e 19 = .int .i64 x.1) (0, 1) ?_ rfl ?_
    · rintro L ⟨i, acc⟩ e s ⟨hi, h3, h17, h18, h19⟩ IH
      simp only at hi h3 h17 h18 h19 IH ⊢
      by_cases hd : i < kids.length
      · have hx : (encL kids)[i]? = some (encC kids[i]) := by rw [encL_get, List.getElem?_eq_getElem hd]; rfl
        have hw := wrap_succ hd (by omega)
        have hc := ih kids[i] (List.getElem_mem hd) (f3 _ (List.getElem_mem hd)) (knownL_mem hk2 _ (List.getElem_mem hd))
        rw [encC_cells] at hx hc
        simp only [Cond.cells] at hx hc
        rw [encS_ne (encL_ne hd)] at h17
        simp +contextual only [go_sem, ↓reduceIte, r171_l0, h3, h17, h18, h19, nat_lt_dec, hd, hx, hc, c170, noAgg_encS, hw]
        rw [List.drop_eq_getElem_cons hd, szPL]
        refine IH (i + 1, lim acc (szP kids[i])) _ _ (by simp only; omega) ⟨by simp only; omega, ?_, ?_, ?_, ?_⟩ <;> simp +contextual only [go_sem, ↓reduceIte, h3, h17, h18, h19, hw, encS_ne (encL_ne hd)]
      · have : i = kids.length := by omega
        subst this
        simp +contextual only [go_sem, ↓reduceIte, r171_l0, h3, h17, h18, h19, nat_lt_dec, Nat.lt_irrefl]
        rw [List.drop_length, szPL]
    · refine ⟨Nat.zero_le _, ?_, ?_, ?_, ?_⟩ <;> simp +contextual only [go_sem, ↓reduceIte] <;> rfl
  · rw [hlf] at h213
    have hcall := hcall hlf
    simp (config := { maxSteps := 2000000 }) +contextual only [go_sem, ↓reduceIte, r171, h213, c156, hlk, noAgg_encS, hcall]
end Go.Am

set_option linter.all false
namespace Go.Am
open Go
variable [MaxLen]
set_option maxRecDepth 100000
set_option maxHeartbeats 8000000

theorem bin_shl1 (X : Cx) (t : TypeId) (c : Bool) (j : IntKind) {n : Int} (h : 0 ≤ n ∧ n ≤ 16) : binA X .shl t c (.int .i64 1) (.int j n) = some (.int .i64 (2 ^ n.toNat)) := by
  obtain ⟨h0, h1⟩ := h
  have hn : ¬ n < 0 := by omega
  simp only [binA, shiftA, hn, if_false]
  have hm : min n.toNat IntKind.i64.bits = n.toNat := by
    have : IntKind.i64.bits = 64 := rfl
    rw [this]; omega
  rw [hm, Int.one_mul]
  have hp : (2 : Int) ^ n.toNat ≤ 2 ^ 16 := by
    have h2 : (2 : Nat) ^ n.toNat ≤ 2 ^ 16 := Nat.pow_le_pow_right (by omega) (by omega)
    exact_mod_cast h2
  have hp0 : (0 : Int) ≤ 2 ^ n.toNat := Int.pow_nonneg (by omega)
  rw [wrap_i64 (by omega) (by omega)]
def stepsP : List Step → Int → Int → Int × Int
  | [], n, x => (n, x)
  | s :: l, n, x => stepsP l (lim n (szP s.cond)) (IntKind.i64.wrap (x + IntKind.i64.wrap (s.times * IntKind.i64.wrap (s.within + 1))))
def sizeP (p : Prog) : Int := lim (stepsP p.steps (IntKind.i64.wrap (2 ^ p.lines.toNat + 1)) 0).1 (stepsP p.steps (IntKind.i64.wrap (2 ^ p.lines.toNat + 1)) 0).2
theorem c102 (p : Prog) (hf : p.fits) (hl : 0 ≤ p.lines ∧ p.lines ≤ 16) (hk : ∀ s ∈ p.steps, s.cond.allKnown = true) : calV U 102 [encP p] = some (.int .i64 (sizeP p)) := by
  obtain ⟨lines, nl, steps⟩ := p
  obtain ⟨f1, f2⟩ := hf
  simp only at f1 f2 hl hk
  refine pure_go k102 (by kernel_rfl) (by simp [stills, still_encP]) ?_
  rw [encP_eq, sizeP]
  simp (config := { maxSteps := 2000000 }) +contextual only [go_sem, ↓reduceIte, r102, lenL_encS, encSteps_len, cells_encS, noAgg_encS, bin_shl1 U _ _ _ hl]
  refine loop_to (σ := Nat × Int × Int) (fun x => steps.length - x.1) (fun x => some (AV.int .i64 (lim (stepsP (steps.drop x.1) x.2.1 x.2.2).1 (stepsP (steps.drop x.1) x.2.1 x.2.2).2))) (fun x e s => x.1 ≤ steps.length ∧ Env.get e 3 = .int .i64 x.2.1 ∧ Env.get e 4 = .int .i64 x.2.2 ∧ Env.get e 12 = encS nl (encSteps steps) ∧ Env.get e 13 = .int .i64 steps.length ∧ Env.get e 14 = .int .i64 x.1) (0, IntKind.i64.wrap (2 ^ lines.toNat + 1), 0) ?_ rfl ?_
  · rintro L ⟨i, n, x⟩ e s ⟨hi, h3, h4, h12, h13, h14⟩ IH
    simp only at hi h3 h4 h12 h13 h14 IH ⊢
    by_cases hd : i < steps.length
    · have hx : (encSteps steps)[i]? = some (encStep steps[i]) := by rw [encSteps_get, List.getElem?_eq_getElem hd]; rfl
      have hw := wrap_succ hd (by omega)
      have hc := c171 steps[i].cond (f2 _ (List.getElem_mem hd)) (hk _ (List.getElem_mem hd))
      rw [encC_cells] at hc
      simp only [Cond.cells, encStep] at hx hc
      rw [encS_ne (encSteps_ne hd)] at h12
      simp +contextual only [go_sem, ↓reduceIte, r102_l0, h3, h4, h12, h13, h14, nat_lt_dec, hd, hx, hc, c170, noAgg_encS, hw]
      rw [List.drop_eq_getElem_cons hd, stepsP]
      refine IH (i + 1, lim n (szP steps[i].cond), IntKind.i64.wrap (x + IntKind.i64.wrap (steps[i].times * IntKind.i64.wrap (steps[i].within + 1)))) _ _ (by simp only; omega) ⟨by simp only; omega, ?_, ?_, ?_, ?_, ?_⟩ <;> simp +contextual only [go_sem, ↓reduceIte, h3, h4, h12, h13, h14, hw, encS_ne (encSteps_ne hd)]
    · have : i = steps.length := by omega
      subst this
      simp +contextual only [go_sem, ↓reduceIte, r102_l0, h3, h4, h12, h13, h14, nat_lt_dec, Nat.lt_irrefl, c170]
      rw [List.drop_length, stepsP]
  · refine ⟨Nat.zero_le _, ?_, ?_, ?_, ?_, ?_⟩ <;> simp +contextual only [go_sem, ↓reduceIte] <;> rfl

/-! what a program that is in order is -/
theorem ckR_known (lines : Int) : ∀ (c : Cond) (d : Int), ckR lines c d = 0 → c.allKnown = true ∧ ((kdOf c.kind).leaf = true → c.kids = []) := by
  intro c
  induction c using Cond.ind with
  | h kind a b mi ma pat nl kids ih =>
  intro d h
  rw [ckR] at h
  have ne : ∀ {p : Bool} {e x : Int}, (e ≠ 0) → br p e x = 0 → p = false ∧ x = 0 := fun {p e x} he h => by
    cases p
    · exact ⟨rfl, h⟩
    · exact absurd h he
  obtain ⟨_, h⟩ := ne (by omega) h
  obtain ⟨hk, h⟩ := ne (by omega) h
  obtain ⟨hu, h⟩ := ne (by omega) h
  obtain ⟨_, h⟩ := ne (by omega) h
  obtain ⟨_, h⟩ := ne (by omega) h
  obtain ⟨_, h⟩ := ne (by omega) h
  obtain ⟨_, h⟩ := ne (by omega) h
  obtain ⟨_, h⟩ := ne (by omega) h
  obtain ⟨_, h⟩ := ne (by omega) h
  obtain ⟨_, h⟩ := ne (by omega) h
  obtain ⟨_, h⟩ := ne (by omega) h
  have hk : (kdOf kind).known = true := by simpa using hk
  have hkids : (kdOf kind).leaf = true → kids = [] := fun hl => by
    have hun : (usesOf (kdOf kind)).kids = false := by
      cases hd : kdOf kind <;> rw [hd] at hl <;> first | rfl | cases hl
    simp only [Bool.or_eq_false_iff, Bool.and_eq_false_iff, hun] at hu
    have := hu.2
    simp only [Bool.not_false, Bool.true_eq_false, decide_eq_false_iff_not, false_or] at this
    cases kids with
    | nil => rfl
    | cons c l => simp at this
  refine ⟨?_, hkids⟩
  rw [Cond.allKnown, hk, Bool.true_and]
  cases hl : (kdOf kind).leaf
  · rw [Bool.false_or]
    have : ∀ l : List Cond, (∀ x ∈ l, x ∈ kids) → ckRL lines l (IntKind.i64.wrap (d + 1)) = 0 → knownL l = true := by
      intro l
      induction l with
      | nil => intro _ _; rfl
      | cons c l ihl =>
        intro hl h
        rw [ckRL] at h
        cases hb : ckR lines c (IntKind.i64.wrap (d + 1)) != 0
        · rw [hb, br_false] at h
          rw [knownL, ihl (fun x hx => hl x (List.mem_cons_of_mem _ hx)) h, (ih c (hl c (List.mem_cons_self ..)) _ (by simpa using hb)).1]
          rfl
        · rw [hb, br_true] at h
          rw [h] at hb; cases hb
    exact this kids (fun _ h => h) h
  · rfl
end Go.Am

set_option linter.all false
namespace Go.Am
open Go
variable [MaxLen]
set_option maxRecDepth 100000
set_option maxHeartbeats 8000000

theorem outside_within (n a b : Int) : br (outside n a b) 3 0 = within n a b := rfl
theorem within_ne (n a b : Int) : (within n a b != 0) = outside n a b := by
  rw [within, ← outside]; cases outside n a b <;> rfl
theorem within_br (n a b : Int) : within n a b = br (outside n a b) 3 0 := rfl
theorem cpL_eq (lines : Int) (hl : 1 ≤ lines) (hl' : lines ≤ 16) : ∀ (l : List Step) (i : Nat), cpPL lines i l = cpRL lines i l
  | [], _ => rfl
  | s :: l, i => by
    rw [cpPL, cpRL, ck_eq lines hl hl', cpL_eq lines hl hl' l (i + 1)]
    simp only [within_br]
    generalize ckR lines s.cond 1 = c
    generalize outside s.times 1 64 = a
    generalize outside s.within 0 255 = b
    generalize ((i : Int) == 0 && s.within != 0) = d
    cases hc : c != 0
    · have : c = 0 := by simpa using hc
      subst this
      cases a <;> cases b <;> cases d <;> rfl
    · simp only [firstOf, hc, br_true]
theorem cp_eq (p : Prog) : cpP p = cpR p := by
  rw [cpP, cpR, checkLines, within_br]
  cases h : outside p.lines 1 16
  · have hl : 1 ≤ p.lines ∧ p.lines ≤ 16 := by
      simp only [outside, Bool.or_eq_false_iff, decide_eq_false_iff_not] at h; omega
    rw [cpL_eq p.lines hl.1 hl.2]
    cases h1 : ((p.steps.length : Int) == 0) <;> cases h2 : decide ((p.steps.length : Int) > 8) <;> rfl
  · rfl

/-- a program that is in order -/
structure Prog.ok (p : Prog) : Prop where
  lines : 1 ≤ p.lines ∧ p.lines ≤ 16
  ne : p.steps ≠ []
  few : p.steps.length ≤ 8
  cond : ∀ s ∈ p.steps, ckR p.lines s.cond 1 = 0
  tm : ∀ s ∈ p.steps, 1 ≤ s.times ∧ s.times ≤ 64
  wi : ∀ s ∈ p.steps, 0 ≤ s.within ∧ s.within ≤ 255
  first : ∀ s, p.steps[0]? = some s → s.within = 0
theorem outside_false {n a b : Int} (h : outside n a b = false) : a ≤ n ∧ n ≤ b := by
  simp only [outside, Bool.or_eq_false_iff, decide_eq_false_iff_not] at h; omega
theorem br_zero {p : Bool} {e x : Int} (he : e ≠ 0) (h : br p e x = 0) : p = false ∧ x = 0 := by
  cases p
  · exact ⟨rfl, h⟩
  · exact absurd h he
theorem br_err {e x : Int} (h : br (e != 0) e x = 0) : e = 0 ∧ x = 0 := by
  cases he : e != 0
  · rw [he, br_false] at h; exact ⟨by simpa using he, h⟩
  · rw [he, br_true] at h; rw [h] at he; cases he
theorem cpRL_zero {lines : Int} : ∀ {l : List Step} {i : Nat}, cpRL lines i l = 0 → ∀ s ∈ l, ckR lines s.cond 1 = 0 ∧ (1 ≤ s.times ∧ s.times ≤ 64) ∧ (0 ≤ s.within ∧ s.within ≤ 255)
  | x :: l, i, h, s, hs => by
    rw [cpRL] at h
    obtain ⟨h1, h⟩ := br_err h
    obtain ⟨h2, h⟩ := br_zero (by omega) h
    rcases List.mem_cons.1 hs with rfl | hs
    · simp only [Bool.or_eq_false_iff] at h2
      exact ⟨h1, outside_false h2.1.1, outside_false h2.1.2⟩
    · exact cpRL_zero h s hs
theorem ok_of {p : Prog} (h : cpR p = 0) : p.ok := by
  rw [cpR] at h
  obtain ⟨h1, h⟩ := br_err h
  obtain ⟨h2, h⟩ := br_zero (by omega) h
  obtain ⟨h3, h⟩ := br_zero (by omega) h
  have h4 := cpRL_zero h
  refine ⟨?_, ?_, ?_, fun s hs => (h4 s hs).1, fun s hs => (h4 s hs).2.1, fun s hs => (h4 s hs).2.2, ?_⟩
  · rw [checkLines] at h1; exact outside_false (br_zero (x := 0) (by omega : (3 : Int) ≠ 0) h1).1
  · intro e; rw [e] at h2; cases h2
  · simp only [decide_eq_false_iff_not] at h3; omega
  · intro s hs
    cases hp : p.steps with
    | nil => rw [hp] at hs; cases hs
    | cons x l =>
      rw [hp] at hs h
      cases hs
      rw [cpRL] at h
      obtain ⟨_, h⟩ := br_err h
      obtain ⟨h2, _⟩ := br_zero (by omega) h
      simp only [Bool.or_eq_false_iff] at h2
      simpa using h2.2
theorem Prog.ok.known {p : Prog} (h : p.ok) : ∀ s ∈ p.steps, s.cond.allKnown = true := fun s hs => (ckR_known _ _ _ (h.cond s hs)).1

theorem c65_ok (p : Prog) (hf : p.fits) (h : cpR p = 0) : calV U 65 [encP p] = some (.tup [.int .i64 (sizeP p), .int .i64 0]) := by
  have h64 := c64 p hf
  rw [cp_eq, h] at h64
  have hok := ok_of h
  have h102 := c102 p hf ⟨by have := hok.lines; omega, hok.lines.2⟩ hok.known
  refine pure_go k65 (by kernel_rfl) (by simp [stills, still_encP]) ?_
  rw [encP_eq] at h64 h102 ⊢
  simp (config := { maxSteps := 2000000 }) +contextual only [go_sem, ↓reduceIte, r65, h64, h102, noAgg_encS]
theorem c65_bad (p : Prog) (hf : p.fits) (h : cpR p ≠ 0) : calV U 65 [encP p] = some (.tup [.int .i64 0, .int .i64 (cpR p)]) := by
  have h64 := c64 p hf
  rw [cp_eq] at h64
  have hb : (cpR p != 0) = true := by simpa using h
  refine pure_go k65 (by kernel_rfl) (by simp [stills, still_encP]) ?_
  rw [encP_eq] at h64 ⊢
  simp (config := { maxSteps := 2000000 }) +contextual only [go_sem, ↓reduceIte, r65, h64, hb, noAgg_encS]

mutual
def szR : Cond → Int
  | .mk k a b mi ma p nl kids => bif (kdOf k == .pulse || kdOf k == .gap) || (kdOf k == .idle || kdOf k == .setup) || kdOf k == .runt then leafSize (kdOf k) (.mk k a b mi ma p nl kids) else szRL kids 1
def szRL : List Cond → Int → Int
  | [], x => x
  | c :: l, x => szRL l (lim x (szR c))
end
theorem c101 : ∀ c : Cond, c.fits → calV U 101 [encC c] = some (.int .i64 (szR c)) := by
  intro c
  induction c using Cond.ind with
  | h kind a b mi ma pat nl kids ih =>
  intro hf
  rw [Cond.fits] at hf
  obtain ⟨f1, f2, f3⟩ := hf
  refine pure_go k101 (by kernel_rfl) (by simp [stills, still_encC]) ?_
  have hloop : ∀ e s, Env.get e 3 = .int .i64 1 → Env.get e 4 = .int .i64 0 → Env.get e 1 = .ptr 8 0 → s.get 8 = some (.cells [.str kind, .int .i64 a, .int .i64 b, .int .i64 mi, .int .i64 ma, .str pat, encS nl (encL kids)] 39 false 0 0) → ∀ ks, (∀ e' s' x, Env.get e' 3 = .int .i64 x → goX U (finP U [.tmp 2]) ks 1 e' s' = some (.int .i64 x)) →
      goL U (finP U [.tmp 2]) ks r101_l0 e s = some (.int .i64 (szRL kids 1)) := by
    intro e s h3 h4 h1 hs ks hk
    refine loop_to (σ := Nat × Int) (fun x => kids.length - x.1) (fun x => some (AV.int .i64 (szRL (kids.drop x.1) x.2))) (fun x e s => x.1 ≤ kids.length ∧ Env.get e 3 = .int .i64 x.2 ∧ Env.get e 4 = .int .i64 x.1 ∧ Env.get e 1 = .ptr 8 0 ∧ s.get 8 = some (.cells [.str kind, .int .i64 a, .int .i64 b, .int .i64 mi, .int .i64 ma, .str pat, encS nl (encL kids)] 39 false 0 0)) (0, 1) ?_ rfl ⟨Nat.zero_le _, h3, h4, h1, hs⟩
    clear h3 h4 h1 hs e s
    rintro L ⟨i, acc⟩ e s ⟨hi, h3, h4, h1, hs⟩ IH
    simp only at hi h3 h4 h1 hs IH ⊢
    by_cases hd : i < kids.length
    · have hx : (encL kids)[i]? = some (encC kids[i]) := by rw [encL_get, List.getElem?_eq_getElem hd]; rfl
      have hw := wrap_succ hd (by omega)
      have hc := ih kids[i] (List.getElem_mem hd) (f3 _ (List.getElem_mem hd))
      rw [encC_cells] at hx hc
      simp only [Cond.cells] at hx hc
      rw [encS_ne (encL_ne hd)] at hs
      simp +contextual only [go_sem, ↓reduceIte, r101_l0, h3, h4, h1, hs, nat_lt_dec, hd, encL_len, hx, hc, c100, noAgg_encS, hw]
      rw [List.drop_eq_getElem_cons hd, szRL]
      refine IH (i + 1, lim acc (szR kids[i])) _ _ (by simp only; omega) ⟨by simp only; omega, ?_, ?_, ?_, ?_⟩ <;> simp +contextual only [go_sem, ↓reduceIte, h3, h4, h1, hs, hw, encS_ne (encL_ne hd)]
    · have : i = kids.length := by omega
      subst this
      simp +contextual only [go_sem, ↓reduceIte, r101_l0, h3, h4, h1, hs, lenL_encS, encL_len, nat_lt_dec, Nat.lt_irrefl]
      rw [List.drop_length, szRL]
      exact hk _ _ _ (by simp +contextual only [go_sem, ↓reduceIte, h3])
  rw [encC, szR]
  obtain ⟨h0, h1, h2, h3, h4, h5, h6, h7, h8, h9, h10, h11, h12, h13, h14⟩ := kd_facts kind
  generalize kdOf kind = d at *
  cases d
  all_goals simp only [reduceCtorEq, decide_true, decide_false] at h1 h2 h3 h4 h5 h6 h7 h8 h9 h10 h11 h12 h13 h14
  all_goals simp (config := { maxSteps := 2000000 }) +contextual only [go_sem, ↓reduceIte, r101, lenL_encS, encL_len, cells_encS, noAgg_encS, h7, h8, h9, h10, h11]
  all_goals first
    | rfl
    | (refine hloop _ _ ?_ ?_ ?_ ?_ _ ?_
       rotate_right 1
       · intro e' s' x h
         simp +contextual only [go_sem, ↓reduceIte, h]
       all_goals simp +contextual only [go_sem, ↓reduceIte])
end Go.Am

set_option linter.all false
namespace Go.Am
open Go
variable [MaxLen]
set_option maxRecDepth 100000
set_option maxHeartbeats 8000000

def stepsR : List Step → Int → Int → Int × Int
  | [], n, x => (n, x)
  | s :: l, n, x => stepsR l (lim n (szR s.cond)) (IntKind.i64.wrap (x + IntKind.i64.wrap (s.times * IntKind.i64.wrap (s.within + 1))))
def sizeR (p : Prog) : Int := lim (stepsR p.steps (IntKind.i64.wrap (2 ^ p.lines.toNat + 1)) 0).1 (min (stepsR p.steps (IntKind.i64.wrap (2 ^ p.lines.toNat + 1)) 0).2 65537)
theorem c38 (p : Prog) (hf : p.fits) (hl : 0 ≤ p.lines ∧ p.lines ≤ 16) : calV U 38 [encP p] = some (.int .i64 (sizeR p)) := by
  obtain ⟨lines, nl, steps⟩ := p
  obtain ⟨f1, f2⟩ := hf
  simp only at f1 f2 hl
  refine pure_go k38 (by kernel_rfl) (by simp [stills, still_encP]) ?_
  rw [encP_eq, sizeR]
  simp (config := { maxSteps := 2000000 }) +contextual only [go_sem, ↓reduceIte, r38, lenL_encS, encSteps_len, cells_encS, noAgg_encS, bin_shl1 U _ _ _ hl]
  refine loop_to (σ := Nat × Int × Int) (fun x => steps.length - x.1) (fun x => some (AV.int .i64 (lim (stepsR (steps.drop x.1) x.2.1 x.2.2).1 (min (stepsR (steps.drop x.1) x.2.1 x.2.2).2 65537)))) (fun x e s => x.1 ≤ steps.length ∧ Env.get e 3 = .int .i64 x.2.1 ∧ Env.get e 4 = .int .i64 x.2.2 ∧ Env.get e 5 = .int .i64 x.1 ∧ Env.get e 1 = .ptr 8 0 ∧ s.get 8 = some (.cells [.int .i64 lines, encS nl (encSteps steps)] 31 false 0 0)) (0, IntKind.i64.wrap (2 ^ lines.toNat + 1), 0) ?_ rfl ?_
  · rintro L ⟨i, n, x⟩ e s ⟨hi, h3, h4, h5, h1, hs⟩ IH
    simp only at hi h3 h4 h5 h1 hs IH ⊢
    by_cases hd : i < steps.length
    · have hx : (encSteps steps)[i]? = some (encStep steps[i]) := by rw [encSteps_get, List.getElem?_eq_getElem hd]; rfl
      have hw := wrap_succ hd (by omega)
      have hc := c101 steps[i].cond (f2 _ (List.getElem_mem hd))
      rw [encC_cells] at hc
      simp only [Cond.cells, encStep] at hx hc
      rw [encS_ne (encSteps_ne hd)] at hs
      simp +contextual only [go_sem, ↓reduceIte, r38_l0, h3, h4, h5, h1, hs, nat_lt_dec, hd, encSteps_len, hx, hc, c100, noAgg_encS, hw]
      rw [List.drop_eq_getElem_cons hd, stepsR]
      refine IH (i + 1, lim n (szR steps[i].cond), IntKind.i64.wrap (x + IntKind.i64.wrap (steps[i].times * IntKind.i64.wrap (steps[i].within + 1)))) _ _ (by simp only; omega) ⟨by simp only; omega, ?_, ?_, ?_, ?_, ?_⟩ <;> simp +contextual only [go_sem, ↓reduceIte, h3, h4, h5, h1, hs, hw, encS_ne (encSteps_ne hd)]
    · have : i = steps.length := by omega
      subst this
      simp +contextual only [go_sem, ↓reduceIte, r38_l0, h3, h4, h5, h1, hs, lenL_encS, encSteps_len, nat_lt_dec, Nat.lt_irrefl, c100]
      rw [List.drop_length, stepsR]
  · refine ⟨Nat.zero_le _, ?_, ?_, ?_, ?_, ?_⟩ <;> simp +contextual only [go_sem, ↓reduceIte] <;> rfl

/-! The two sizes agree -/
theorem ckR_kids {lines : Int} {k : Str} {a b mi ma : Int} {p : Str} {nl : Bool} {kids : List Cond} {d : Int} (h : ckR lines (.mk k a b mi ma p nl kids) d = 0) :
    ckRL lines kids (IntKind.i64.wrap (d + 1)) = 0 ∧ ((usesOf (kdOf k)).mi = true → 1 ≤ mi ∧ mi ≤ 255) ∧ ((usesOf (kdOf k)).ma = true → 1 ≤ ma ∧ ma ≤ 255) := by
  rw [ckR] at h
  obtain ⟨_, h⟩ := br_zero (by omega) h
  obtain ⟨hk, h⟩ := br_zero (by omega) h
  obtain ⟨hu, h⟩ := br_zero (by omega) h
  obtain ⟨_, h⟩ := br_zero (by omega) h
  obtain ⟨_, h⟩ := br_zero (by omega) h
  obtain ⟨hm, h⟩ := br_zero (by omega) h
  obtain ⟨_, h⟩ := br_zero (by omega) h
  obtain ⟨_, h⟩ := br_zero (by omega) h
  obtain ⟨_, h⟩ := br_zero (by omega) h
  obtain ⟨_, h⟩ := br_zero (by omega) h
  obtain ⟨_, h⟩ := br_zero (by omega) h
  rw [Bool.or_eq_false_iff, Bool.and_eq_false_iff, Bool.and_eq_false_iff] at hm
  refine ⟨h, fun h1 => ?_, fun h1 => ?_⟩
  · rcases hm.1 with h2 | h2
    · rw [h1] at h2; cases h2
    · exact outside_false h2
  · rcases hm.2 with h2 | h2
    · rw [h1] at h2; cases h2
    · exact outside_false h2
theorem ckRL_mem {lines d : Int} : ∀ {l : List Cond}, ckRL lines l d = 0 → ∀ c ∈ l, ckR lines c d = 0
  | c :: l, h, x, hx => by
    rw [ckRL] at h
    obtain ⟨h1, h2⟩ := br_err h
    rcases List.mem_cons.1 hx with rfl | hx
    · exact h1
    · exact ckRL_mem h2 x hx
theorem sz_eq (lines : Int) : ∀ (c : Cond) (d : Int), ckR lines c d = 0 → szR c = szP c ∧ 1 ≤ szP c ∧ szP c ≤ 65537 := by
  intro c
  induction c using Cond.ind with
  | h kind a b mi ma pat nl kids ih =>
  intro d h
  obtain ⟨hk, hlf⟩ := ckR_known lines _ d h
  obtain ⟨h1, h2, h3⟩ := ckR_kids h
  have hall := ckRL_mem h1
  have hl : ∀ (l : List Cond), (∀ x ∈ l, x ∈ kids) → ∀ n, 1 ≤ n → n ≤ 65537 → szRL l n = szPL l n ∧ 1 ≤ szPL l n ∧ szPL l n ≤ 65537 := by
    intro l
    induction l with
    | nil => intro _ n h1 h2; exact ⟨rfl, h1, h2⟩
    | cons c l ihl =>
      intro hl n h1 h2
      obtain ⟨e1, e2, e3⟩ := ih c (hl c (List.mem_cons_self ..)) _ (hall c (hl c (List.mem_cons_self ..)))
      rw [szRL, szPL, e1]
      have hp : n * szP c ≤ 65537 * 65537 := Int.mul_le_mul h2 e3 (by omega) (by omega)
      have hp' : 1 * 1 ≤ n * szP c := Int.mul_le_mul h1 e2 (by omega) (by omega)
      refine ihl (fun x hx => hl x (List.mem_cons_of_mem _ hx)) _ ?_ ?_
      · rw [lim, wrap_i64 (by omega) (by omega)]; omega
      · rw [lim]; omega
  have hkk := hl kids (fun _ h => h) 1 (by omega) (by omega)
  simp only [Cond.allKnown, Bool.and_eq_true] at hk
  obtain ⟨hk, _⟩ := hk
  simp only [Cond.kind, Cond.kids] at hlf
  rw [szR, szP]
  generalize kdOf kind = dd at *
  cases dd <;> first | cases hk | skip
  all_goals simp only [Kd.leaf, cond_true, cond_false, BEq.rfl, reduceCtorEq, beq_iff_eq, Bool.or_true, Bool.true_or, leafSize, Cond.ma, Cond.mi, usesOf] at *
  all_goals first
    | (have hn := hlf trivial; subst hn; refine ⟨rfl, by omega, by omega⟩)
    | exact hkk
    | skip
  all_goals first
    | (have := h3 trivial; rw [wrap_i64 (by omega) (by omega)]; exact ⟨trivial, by omega, by omega⟩)
    | (have := h2 trivial; rw [wrap_i64 (by omega) (by omega)]; exact ⟨trivial, by omega, by omega⟩)
    | exact ⟨trivial, by omega, by omega⟩
theorem steps_eq {lines : Int} : ∀ (l : List Step), (∀ s ∈ l, ckR lines s.cond 1 = 0 ∧ (1 ≤ s.times ∧ s.times ≤ 64) ∧ (0 ≤ s.within ∧ s.within ≤ 255)) → ∀ (n x : Int) (k : Nat), 1 ≤ n → n ≤ 65537 → 0 ≤ x → x ≤ 16384 * (k : Int) → k + l.length ≤ 8 →
    stepsR l n x = stepsP l n x ∧ 1 ≤ (stepsP l n x).1 ∧ (stepsP l n x).1 ≤ 65537 ∧ 0 ≤ (stepsP l n x).2 ∧ (stepsP l n x).2 ≤ 131072
  | [], _, n, x, k, h1, h2, h3, h4, h5 => ⟨rfl, h1, h2, h3, by simp only [stepsP]; omega⟩
  | s :: l, hs, n, x, k, h1, h2, h3, h4, h5 => by
    obtain ⟨c1, c2, c3⟩ := hs s (List.mem_cons_self ..)
    obtain ⟨e1, e2, e3⟩ := sz_eq lines s.cond 1 c1
    have hp : n * szP s.cond ≤ 65537 * 65537 := Int.mul_le_mul h2 e3 (by omega) (by omega)
    have hp' : 1 * 1 ≤ n * szP s.cond := Int.mul_le_mul h1 e2 (by omega) (by omega)
    have hw : IntKind.i64.wrap (s.within + 1) = s.within + 1 := wrap_i64 (by omega) (by omega)
    have ht : s.times * (s.within + 1) ≤ 64 * 256 := Int.mul_le_mul c2.2 (by omega) (by omega) (by omega)
    have ht' : 0 ≤ s.times * (s.within + 1) := Int.mul_nonneg (by omega) (by omega)
    rw [stepsR, stepsP, e1, hw, wrap_i64 (n := s.times * (s.within + 1)) (by omega) (by omega), wrap_i64 (n := x + s.times * (s.within + 1)) (by simp only [List.length_cons] at h5; omega) (by simp only [List.length_cons] at h5; omega)]
    simp only [List.length_cons] at h5
    refine steps_eq l (fun y hy => hs y (List.mem_cons_of_mem _ hy)) _ _ (k + 1) ?_ ?_ (by omega) (by omega) (by omega)
    · rw [lim, wrap_i64 (by omega) (by omega)]; omega
    · rw [lim]; omega
theorem size_eq {p : Prog} (h : p.ok) : sizeR p = sizeP p := by
  have hl := h.lines
  have hp : (2 : Int) ^ p.lines.toNat ≤ 2 ^ 16 := by
    have h2 : (2 : Nat) ^ p.lines.toNat ≤ 2 ^ 16 := Nat.pow_le_pow_right (by omega) (by omega)
    exact_mod_cast h2
  have hp0 : (0 : Int) ≤ 2 ^ p.lines.toNat := Int.pow_nonneg (by omega)
  have hw : IntKind.i64.wrap (2 ^ p.lines.toNat + 1) = 2 ^ p.lines.toNat + 1 := wrap_i64 (by omega) (by omega)
  obtain ⟨e1, e2, e3, e4, e5⟩ := steps_eq (lines := p.lines) p.steps (fun s hs => ⟨h.cond s hs, h.tm s hs, h.wi s hs⟩) (2 ^ p.lines.toNat + 1) 0 0 (by omega) (by omega) (by omega) (by omega) (by have := h.few; omega)
  rw [sizeR, sizeP, hw, e1]
  generalize (stepsP p.steps (2 ^ p.lines.toNat + 1) 0).1 = n at *
  generalize (stepsP p.steps (2 ^ p.lines.toNat + 1) 0).2 = x at *
  have b1 : n * x ≤ 65537 * 131072 := Int.mul_le_mul e3 e5 (by omega) (by omega)
  have b0 : 0 ≤ n * x := Int.mul_nonneg (by omega) (by omega)
  rw [lim, lim]
  rcases Int.le_total x 65537 with hx | hx
  · rw [Int.min_eq_left hx]
  · rw [Int.min_eq_right hx]
    have b2 : 1 * 65537 ≤ n * 65537 := Int.mul_le_mul e2 (by omega) (by omega) (by omega)
    have b3 : 1 * 65537 ≤ n * x := Int.mul_le_mul e2 hx (by omega) (by omega)
    rw [wrap_i64 (by omega) (by omega), wrap_i64 (by omega) (by omega)]
    omega
end Go.Am
