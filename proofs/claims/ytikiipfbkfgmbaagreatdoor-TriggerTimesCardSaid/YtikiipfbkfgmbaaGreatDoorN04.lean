/- A part of the proof of a statement of this seat: the machine on which the program is read, and what it computes; for every input. -/
import Derived.Test.YtikiipfbkfgmbaaGreatDoorN02
import Derived.Test.YtikiipfbkfgmbaaGreatDoorN03
import Derived.Laws.BitsLemmas
set_option linter.unusedVariables false
namespace Go.Am
open Go

/-! # The data of the trigger layer, and how they stand as values of the machine -/

abbrev Str := List UInt8

inductive Cond where
  | mk (kind : Str) (a b mi ma : Int) (pat : Str) (nl : Bool) (kids : List Cond)

/-- a slice that nobody writes: nil or not -/
def encS (nl : Bool) (l : List AV) : AV := match nl, l with
  | true, [] => .nils
  | _, l => .fz l

mutual
def encC : Cond → AV
  | .mk k a b mi ma p nl kids => .agg [.str k, .int .i64 a, .int .i64 b, .int .i64 mi, .int .i64 ma, .str p, encS nl (encL kids)]
def encL : List Cond → List AV
  | [] => []
  | c :: l => encC c :: encL l
end
theorem encL_map : ∀ l, encL l = l.map encC
  | [] => by simp [encL]
  | c :: l => by simp [encL, encL_map l]
theorem encL_get (l : List Cond) (i : Nat) : (encL l)[i]? = (l[i]?).map encC := by rw [encL_map]; simp
theorem encL_len (l : List Cond) : (encL l).length = l.length := by rw [encL_map]; simp

def Cond.kind : Cond → Str | .mk k _ _ _ _ _ _ _ => k
def Cond.a : Cond → Int | .mk _ a _ _ _ _ _ _ => a
def Cond.b : Cond → Int | .mk _ _ b _ _ _ _ _ => b
def Cond.mi : Cond → Int | .mk _ _ _ m _ _ _ _ => m
def Cond.ma : Cond → Int | .mk _ _ _ _ m _ _ _ => m
def Cond.pat : Cond → Str | .mk _ _ _ _ _ p _ _ => p
def Cond.nl : Cond → Bool | .mk _ _ _ _ _ _ n _ => n
def Cond.kids : Cond → List Cond | .mk _ _ _ _ _ _ _ l => l
def Cond.cells (c : Cond) : List AV := [.str c.kind, .int .i64 c.a, .int .i64 c.b, .int .i64 c.mi, .int .i64 c.ma, .str c.pat, encS c.nl (encL c.kids)]
theorem encC_cells (c : Cond) : encC c = .agg c.cells := by cases c; simp [encC, Cond.cells, Cond.kind, Cond.a, Cond.b, Cond.mi, Cond.ma, Cond.pat, Cond.nl, Cond.kids]

structure Step where
  cond : Cond
  times : Int
  within : Int
def Step.cells (s : Step) : List AV := s.cond.cells ++ [.int .i64 s.times, .int .i64 s.within]
def encStep (s : Step) : AV := .agg [.str s.cond.kind, .int .i64 s.cond.a, .int .i64 s.cond.b, .int .i64 s.cond.mi, .int .i64 s.cond.ma, .str s.cond.pat, encS s.cond.nl (encL s.cond.kids), .int .i64 s.times, .int .i64 s.within]

structure Prog where
  lines : Int
  nl : Bool
  steps : List Step
def encP (p : Prog) : AV := .agg [.int .i64 p.lines, encS p.nl (p.steps.map encStep)]

def ints (l : List Int) : List AV := l.map (.int .i64 ·)
def bools (l : List Bool) : List AV := l.map .bool

structure Auto where
  lines : Int
  nNl : Bool
  next : List (Bool × List Int)
  fNl : Bool
  fires : List (Bool × List Bool)
def encRow (r : Bool × List Int) : AV := encS r.1 (ints r.2)
def encFRow (r : Bool × List Bool) : AV := encS r.1 (bools r.2)
def encA (a : Auto) : AV := .agg [.int .i64 a.lines, encS a.nNl (a.next.map encRow), encS a.fNl (a.fires.map encFRow)]

/-! ### How such slices read -/
theorem encS_fz (l : List AV) : encS false l = .fz l := by cases l <;> rfl
theorem encS_cons (nl : Bool) (x : AV) (l : List AV) : encS nl (x :: l) = .fz (x :: l) := by cases nl <;> rfl
theorem encS_nils : encS true [] = .nils := rfl
theorem still_encS (nl : Bool) (l : List AV) : still (encS nl l) = true := by
  cases nl <;> cases l <;> simp [encS, still]
theorem noAgg_encS (nl : Bool) (l : List AV) : noAgg (encS nl l) = true := by
  cases nl <;> cases l <;> simp [encS, noAgg]
theorem cells_encS (nl : Bool) (l : List AV) : (encS nl l).cells = [encS nl l] := by
  cases nl <;> cases l <;> simp [encS, AV.cells]
theorem lenL_encS (nl : Bool) (l : List AV) : lenRL (encS nl l) = some (.int .i64 l.length) := by
  cases nl <;> cases l <;> simp [encS, lenRL]
theorem frz_encS (X : Cx) (s : St) (d : Nat) (nl : Bool) (l : List AV) : frz X s (d + 1) (encS nl l) = some (encS nl l) := by
  cases nl <;> cases l <;> simp [encS, frz]
theorem ixa_encS (n : Nat) (nl : Bool) (l : List AV) (k : IntKind) (i : Int) (x : AV) (h0 : 0 ≤ i) (hx : l[i.toNat]? = some x) (hc : x.cells.length = n) (hn : n ≠ 0) : ixRA n (encS nl l) (.int k i) = some (.fp x.cells 0) := by
  have hl : l ≠ [] := by intro h; rw [h] at hx; simp at hx
  have : encS nl l = .fz l := by cases l with
    | nil => exact absurd rfl hl
    | cons y l => exact encS_cons ..
  rw [this, ixa_fz]
  simp [h0, hx, ixF, hc, hn]

theorem wrap_i64 {n : Int} (h0 : -2 ^ 63 ≤ n) (h1 : n < 2 ^ 63) : IntKind.i64.wrap n = n := by
  rw [IntKind.wrap_i64]
  omega
end Go.Am

set_option linter.all false
namespace Go.Am
open Go Go.Proofs
variable [MaxLen]
set_option maxRecDepth 100000
instance seatStat : Stat := ⟨fun m c => ∃ n, n ≤ m ∧ okC U n c = true ∧ noRF c = true, fun t => Nat.beq t 207⟩
theorem U_und (t : TypeId) : U.und t = Tryz.prog.underlying t := by unfold U; rfl
theorem U_inf (t : TypeId) : U.inf t = Tryz.prog.info? t := by unfold U; rfl
theorem U_ext (f : FuncId) : U.ext f = extU f := by unfold U; rfl
theorem U_pure (f : FuncId) : U.pure f = !keeps.contains f := by unfold U; rfl
theorem U_gbase (g : Nat) : U.gbase g = gbU g := by unfold U; rfl
theorem U_glob : U.glob = 8 := by unfold U; rfl
theorem U_fn (f : FuncId) : U.fn f = bif Nat.beq f 75 then none else Tryz.prog.funcs[f]? := by unfold U; rfl

/-- a function's body, resolved, and where its results stand -/
noncomputable def fnRC (f : FuncId) : Option (List ResultVar × RC) := match U.fn f with
  | some fn => match fn.body with
    | some c => some (fn.results.toList, rc U c)
    | none => none
  | none => none
theorem fnRC_some {f : FuncId} {rs : List ResultVar} {r : RC} (h : fnRC f = some (rs, r)) : ∃ fn c, U.fn f = some fn ∧ fn.body = some c ∧ fn.results.toList = rs ∧ rc U c = r := by
  unfold fnRC at h
  split at h
  · rename_i fn hf
    split at h
    · rename_i c hb
      cases h
      exact ⟨fn, c, hf, hb, rfl, rfl⟩
    · cases h
  · cases h
def isPure (f : FuncId) : Bool := !keeps.contains f && (extU f).isNone
def isKept (f : FuncId) : Bool := keeps.contains f && (extU f).isNone
theorem isPure_of {f : FuncId} (h : isPure f = true) : U.pure f = true ∧ U.ext f = none := by
  rw [isPure, Bool.and_eq_true, Option.isNone_iff_eq_none] at h
  rw [U_pure, U_ext]; exact h
theorem isKept_of {f : FuncId} (h : isKept f = true) : U.pure f = false ∧ U.ext f = none := by
  rw [isKept, Bool.and_eq_true, Option.isNone_iff_eq_none] at h
  rw [U_pure, U_ext, h.1]; exact ⟨rfl, h.2⟩

/-- a call in a state of its own, of values that nobody writes -/
theorem pure_go {f : FuncId} {rs : List ResultVar} {r : RC} (h : fnRC f = some (rs, r)) (hp : isPure f = true) {args : List AV} (hst : stills args = true) {v : AV}
    (hg : go U (finP U rs) [] r (bindArgs 0 args .nil) (ownSt U) = some v) : calV U f args = some v := by
  obtain ⟨fn, c, h1, h2, h3, h4⟩ := fnRC_some h
  obtain ⟨p1, p2⟩ := isPure_of hp
  exact calV_pure U p2 p1 h1 h2 h3 h4 hst hg
/-- a call in the state at hand -/
theorem kept_go {f : FuncId} {rs : List ResultVar} {r : RC} (h : fnRC f = some (rs, r)) (hp : isKept f = true) {args : List AV} {s : St} {x : AV × St}
    (hg : go U (finB U rs) [] r (bindArgs 0 args .nil) s = some x) : cal U f args s = some x := by
  obtain ⟨fn, c, h1, h2, h3, h4⟩ := fnRC_some h
  obtain ⟨p1, p2⟩ := isKept_of hp
  unfold cal callF
  rw [p2, p1]
  exact callB_go U h1 h2 h3 h4 hg
/-- with what stands in memory -/
theorem z_of {f : FuncId} (hp : isPure f = true) {args : List AV} (s : St) (hst : stills args = false) : callK U (calV U f args) f args s = calZ U f (mapO (frz U s 40) args) s :=
  cal_calZ U s (isPure_of hp).2 (isPure_of hp).1 hst
def gateZ (p : Bool) (x : Option (AV × St)) (s : St) : Option (AV × St) := bif p then x else some (undef, s)
theorem gateZ_some (p : Bool) (v : AV) (s : St) : gateZ p (some (v, s)) s = some (bif p then v else undef, s) := by cases p <;> rfl
theorem gateZ_true (x : Option (AV × St)) (s : St) : gateZ true x s = x := (fun h => h) rfl
theorem gateZ_false (x : Option (AV × St)) (s : St) : gateZ false x s = some (undef, s) := (fun h => h) rfl
theorem zg_of {f : FuncId} (hp : isPure f = true) {p : Bool} {args : List AV} (s : St) (hst : stills args = false) : gateC U p (calV U f args) f args s = gateZ p (calZ U f (mapO (frz U s 40) args) s) s := by
  unfold gateC gateZ
  rw [z_of hp s hst]
theorem flat_frz (s : St) : ∀ (d : Nat) (v v' : AV), frz U s d v = some v' → flat v' = true → v = v' := by
  intro d
  induction d with
  | zero => intro v v' h; simp [frz] at h
  | succ d ih =>
    intro v v' h hf
    have hl : ∀ (l l' : List AV), mapO (frz U s d) l = some l' → flats l' = true → l = l' := by
      intro l
      induction l with
      | nil => intro l' h _; simp only [mapO] at h; cases h; rfl
      | cons x l ihl =>
        intro l' h hf
        simp only [mapO] at h
        split at h
        · rename_i y r h1 h2
          cases h
          simp only [flats, Bool.and_eq_true] at hf
          rw [ih _ _ h1 hf.1, ihl _ h2 hf.2]
        · cases h
    cases v with
    | ptr b o =>
      rw [frz_ptr] at h
      unfold frzP at h
      split at h
      · simp only [fpK, Option.map_eq_some_iff] at h
        obtain ⟨_, _, rfl⟩ := h
        simp [flat] at hf
      · cases h
    | sl b o len cap esz =>
      rw [frz_sl] at h
      unfold frzS frzT fzK at h
      split at h
      · split at h
        · split at h
          · simp only [Option.map_eq_some_iff] at h
            obtain ⟨_, _, rfl⟩ := h
            simp [flat] at hf
          · cases h
        · cases h
      · cases h
    | map r =>
      simp only [frz] at h
      split at h
      · split at h
        · cases h; simp [flat] at hf
        · cases h
      · cases h
    | fn f x y =>
      simp only [frz] at h
      split at h
      · split at h
        · rename_i x' y' h1 h2
          cases h
          simp only [flat, Bool.and_eq_true] at hf
          rw [hl _ _ h1 hf.1.2, hl _ _ h2 hf.2]
        · cases h
      · cases h
    | iface t x =>
      simp only [frz] at h
      split at h
      · rename_i x' h1
        cases h
        simp only [flat] at hf
        rw [ih _ _ h1 hf]
      · cases h
    | agg cs =>
      simp only [frz] at h
      split at h
      · rename_i x' h1
        cases h
        simp only [flat] at hf
        rw [hl _ _ h1 hf]
      · cases h
    | tup cs =>
      simp only [frz] at h
      split at h
      · rename_i x' h1
        cases h
        simp only [flat] at hf
        rw [hl _ _ h1 hf]
      · cases h
    | _ => simp only [frz] at h; cases h; rfl
/-- what such a call hands out, where that lies nowhere, it hands out of any arguments that read alike -/
theorem q_of {f : FuncId} {rs : List ResultVar} {r : RC} (h : fnRC f = some (rs, r)) {us : List AV} {v : AV} (hf : flat v = true)
    (hg : go U (finP U rs) [] r (bindArgs 0 us .nil) (ownSt U) = some v) : callQ U (execL U) f us false = some v := by
  obtain ⟨fn, c, h1, h2, h3, h4⟩ := fnRC_some h
  have hg : frzB U (finB U rs (den U r (bindArgs 0 us .nil) (ownSt U))) = some v := hg
  cases hd : finB U rs (den U r (bindArgs 0 us .nil) (ownSt U)) with
  | none => rw [hd] at hg; simp [frzB] at hg
  | some x =>
    obtain ⟨v0, s'⟩ := x
    rw [hd] at hg
    have hB := callB_go U h1 h2 h3 h4 (args := us) (s := ownSt U) (x := (v0, s')) hd
    simp only [frzB] at hg
    have := flat_frz s' _ _ _ hg hf
    subst this
    unfold callQ
    rw [hB]
    simp [hf]
/-- the calls that the machine runs by itself -/
theorem v_of_q {f : FuncId} (hp : isPure f = true) {args : List AV} (hst : stills args = true) {v : AV} (h : callQ U (execL U) f args true = some v) : calV U f args = some v := by
  refine calV_of fun s => ?_
  obtain ⟨p1, p2⟩ := isPure_of hp
  unfold cal callF
  rw [p2]
  simp only [p1, if_true, callP, frzArgs, hst, h]
theorem und_2 : U.und 2 = some (.int .i64) := by kernel_rfl
theorem und_3 : U.und 3 = some (.int .i64) := by kernel_rfl
theorem und_5 : U.und 5 = some (.int .u8) := by kernel_rfl
theorem und_21 : U.und 21 = some (.int .i32) := by kernel_rfl
theorem und_26 : U.und 26 = some (.int .i64) := by kernel_rfl
theorem und_299 : U.und 299 = some (.int .u32) := by kernel_rfl
theorem und_301 : U.und 301 = some (.int .u64) := by kernel_rfl
theorem und_272 : U.und 272 = some (.int .u64) := by kernel_rfl
theorem ag_2 : isAggT U 2 = some false := by kernel_rfl
theorem sz_2 : size U 2 = some 1 := by kernel_rfl
theorem ag_3 : isAggT U 3 = some false := by kernel_rfl
theorem sz_3 : size U 3 = some 1 := by kernel_rfl
theorem ag_4 : isAggT U 4 = some false := by kernel_rfl
theorem sz_4 : size U 4 = some 1 := by kernel_rfl
theorem ag_5 : isAggT U 5 = some false := by kernel_rfl
theorem sz_5 : size U 5 = some 1 := by kernel_rfl
theorem ag_9 : isAggT U 9 = some false := by kernel_rfl
theorem sz_9 : size U 9 = some 1 := by kernel_rfl
theorem ag_21 : isAggT U 21 = some false := by kernel_rfl
theorem sz_21 : size U 21 = some 1 := by kernel_rfl
theorem ag_23 : isAggT U 23 = some false := by kernel_rfl
theorem sz_23 : size U 23 = some 1 := by kernel_rfl
theorem ag_25 : isAggT U 25 = some true := by kernel_rfl
theorem sz_25 : size U 25 = some 2 := by kernel_rfl
theorem ag_26 : isAggT U 26 = some false := by kernel_rfl
theorem sz_26 : size U 26 = some 1 := by kernel_rfl
theorem ag_29 : isAggT U 29 = some false := by kernel_rfl
theorem sz_29 : size U 29 = some 1 := by kernel_rfl
theorem ag_31 : isAggT U 31 = some true := by kernel_rfl
theorem sz_31 : size U 31 = some 2 := by kernel_rfl
theorem ag_37 : isAggT U 37 = some false := by kernel_rfl
theorem sz_37 : size U 37 = some 1 := by kernel_rfl
theorem ag_39 : isAggT U 39 = some true := by kernel_rfl
theorem sz_39 : size U 39 = some 7 := by kernel_rfl
theorem ag_40 : isAggT U 40 = some false := by kernel_rfl
theorem sz_40 : size U 40 = some 1 := by kernel_rfl
theorem ag_43 : isAggT U 43 = some false := by kernel_rfl
theorem sz_43 : size U 43 = some 1 := by kernel_rfl
theorem ag_46 : isAggT U 46 = some false := by kernel_rfl
theorem sz_46 : size U 46 = some 1 := by kernel_rfl
theorem ag_48 : isAggT U 48 = some true := by kernel_rfl
theorem sz_48 : size U 48 = some 7 := by kernel_rfl
theorem ag_66 : isAggT U 66 = some false := by kernel_rfl
theorem sz_66 : size U 66 = some 1 := by kernel_rfl
theorem ag_67 : isAggT U 67 = some false := by kernel_rfl
theorem sz_67 : size U 67 = some 1 := by kernel_rfl
theorem ag_69 : isAggT U 69 = some true := by kernel_rfl
theorem sz_69 : size U 69 = some 3 := by kernel_rfl
theorem ag_72 : isAggT U 72 = some true := by kernel_rfl
theorem sz_72 : size U 72 = some 3 := by kernel_rfl
theorem ag_90 : isAggT U 90 = some true := by kernel_rfl
theorem sz_90 : size U 90 = some 9 := by kernel_rfl
theorem ag_108 : isAggT U 108 = some false := by kernel_rfl
theorem sz_108 : size U 108 = some 1 := by kernel_rfl
theorem ag_116 : isAggT U 116 = some true := by kernel_rfl
theorem sz_116 : size U 116 = some 2 := by kernel_rfl
theorem ag_144 : isAggT U 144 = some true := by kernel_rfl
theorem sz_144 : size U 144 = some 9 := by kernel_rfl
theorem ag_152 : isAggT U 152 = some true := by kernel_rfl
theorem sz_152 : size U 152 = some 3 := by kernel_rfl
theorem ag_158 : isAggT U 158 = some true := by kernel_rfl
theorem sz_158 : size U 158 = some 3 := by kernel_rfl
theorem ag_176 : isAggT U 176 = some true := by kernel_rfl
theorem sz_176 : size U 176 = some 5 := by kernel_rfl
theorem ag_183 : isAggT U 183 = some false := by kernel_rfl
theorem sz_183 : size U 183 = some 1 := by kernel_rfl
theorem ag_186 : isAggT U 186 = some true := by kernel_rfl
theorem sz_186 : size U 186 = some 2 := by kernel_rfl
theorem ag_205 : isAggT U 205 = some false := by kernel_rfl
theorem sz_205 : size U 205 = some 1 := by kernel_rfl
theorem ag_207 : isAggT U 207 = some true := by kernel_rfl
theorem sz_207 : size U 207 = some 2 := by kernel_rfl
theorem ag_236 : isAggT U 236 = some true := by kernel_rfl
theorem sz_236 : size U 236 = some 9 := by kernel_rfl
theorem ag_272 : isAggT U 272 = some false := by kernel_rfl
theorem sz_272 : size U 272 = some 1 := by kernel_rfl
theorem ag_299 : isAggT U 299 = some false := by kernel_rfl
theorem sz_299 : size U 299 = some 1 := by kernel_rfl
theorem ag_301 : isAggT U 301 = some false := by kernel_rfl
theorem sz_301 : size U 301 = some 1 := by kernel_rfl
attribute [go_sem ↓] gateZ_true gateZ_false
attribute [go_sem] gateZ_some Int.reduceBEq Int.reduceBNe Int.reduceAdd U_glob und_2 und_3 und_5 und_21 und_26 und_299 und_301 und_272 ag_2 sz_2 ag_3 sz_3 ag_4 sz_4 ag_5 sz_5 ag_9 sz_9 ag_21 sz_21 ag_23 sz_23 ag_25 sz_25 ag_26 sz_26 ag_29 sz_29 ag_31 sz_31 ag_37 sz_37 ag_39 sz_39 ag_40 sz_40 ag_43 sz_43 ag_46 sz_46 ag_48 sz_48 ag_66 sz_66 ag_67 sz_67 ag_69 sz_69 ag_72 sz_72 ag_90 sz_90 ag_108 sz_108 ag_116 sz_116 ag_144 sz_144 ag_152 sz_152 ag_158 sz_158 ag_176 sz_176 ag_183 sz_183 ag_186 sz_186 ag_205 sz_205 ag_207 sz_207 ag_236 sz_236 ag_272 sz_272 ag_299 sz_299 ag_301 sz_301
end Go.Am

set_option linter.all false
namespace Go.Am
open Go
variable [MaxLen]
set_option maxRecDepth 100000
/-- strobe/stroberef04.Outside; results .tmp 6 -/
def r94 : RC := (.seq (.ops [⟨some 6, none, none, false, .mov (.v (.bool false))⟩]) (.seq (.ops [⟨some 7, none, none, false, .mov (.t 0)⟩,
  ⟨some 8, none, none, false, .mov (.t 1)⟩,
  ⟨some 9, none, none, false, .bin .lss 3 false (.t 7) (.t 8)⟩,
  ⟨some 10, none, none, false, .mov (.t 9)⟩,
  ⟨some 11, some (10, false), none, false, .mov (.t 0)⟩,
  ⟨some 12, some (10, false), none, false, .mov (.t 2)⟩,
  ⟨some 13, some (10, false), none, false, .bin .gtr 3 false (.t 11) (.t 12)⟩,
  ⟨some 14, none, none, false, .pick (.t 10) (.v (.bool true)) (.t 13)⟩,
  ⟨some 6, none, none, false, .mov (.t 14)⟩]) .ret))
theorem k94 : fnRC 94 = some ([.tmp 6], r94) := by kernel_rfl

/-- strobe/stroberef04.CheckLines; results .tmp 2 -/
def r26 : RC := (.seq (.ops [⟨some 2, none, none, false, .mov (.v (.int .i64 0))⟩]) (.seq (.seq (.ops [⟨some 3, none, none, false, .mov (.t 0)⟩,
  ⟨some 4, none, none, false, .call 94 [(.t 3), (.v (.int .i64 1)), (.v (.int .i64 16))]⟩]) (.cond (.t 4) (.seq (.ops [⟨some 2, none, none, false, .mov (.v (.int .i64 3))⟩]) .ret) .skip)) (.seq (.ops [⟨some 2, none, none, false, .mov (.v (.int .i64 0))⟩]) .ret)))
theorem k26 : fnRC 26 = some ([.tmp 2], r26) := by kernel_rfl

/-- strobe/stroberef04.uses; results .cell 2 160,.tmp 3 -/
def r95 : RC := (.seq (.ops [⟨some 2, none, none, false, .al [(.bool false), (.bool false), (.bool false), (.bool false), (.bool false), (.bool false)] 160⟩,
  ⟨some 3, none, none, false, .mov (.v (.bool false))⟩]) (.seq (.seq (.ops [⟨some 4, none, none, false, .mov (.t 0)⟩]) (.block 0 (.seq (.seq (.ops [⟨some 6, none, none, false, .bin .eql 9 true (.t 4) (.v (.str [104, 105, 103, 104]))⟩,
  ⟨some 5, none, none, false, .mov (.t 6)⟩]) (.cond (.t 5) .skip (.seq (.ops [⟨some 7, none, none, false, .bin .eql 9 true (.t 4) (.v (.str [108, 111, 119]))⟩,
  ⟨some 5, none, none, false, .mov (.t 7)⟩]) (.cond (.t 5) .skip (.seq (.ops [⟨some 8, none, none, false, .bin .eql 9 true (.t 4) (.v (.str [114, 105, 115, 101]))⟩,
  ⟨some 5, none, none, false, .mov (.t 8)⟩]) (.cond (.t 5) .skip (.ops [⟨some 9, none, none, false, .bin .eql 9 true (.t 4) (.v (.str [102, 97, 108, 108]))⟩,
  ⟨some 5, none, none, false, .mov (.t 9)⟩]))))))) (.cond (.t 5) (.seq (.ops [⟨some 10, none, none, false, .bld [(.bool false), (.bool false), (.bool false), (.bool false), (.bool false), (.bool false)] [(0, 1, (.v (.bool true))), (1, 1, (.v (.bool false))), (2, 1, (.v (.bool false))), (3, 1, (.v (.bool false))), (4, 1, (.v (.bool false))), (5, 1, (.v (.bool false)))]⟩,
  ⟨none, none, none, false, .st 6 (.t 2) (.t 10)⟩,
  ⟨some 3, none, none, false, .mov (.v (.bool true))⟩]) .ret) (.seq (.seq (.ops [⟨some 12, none, none, false, .bin .eql 9 true (.t 4) (.v (.str [112, 97, 116, 116, 101, 114, 110]))⟩,
  ⟨some 11, none, none, false, .mov (.t 12)⟩]) (.cond (.t 11) .skip (.ops [⟨some 13, none, none, false, .bin .eql 9 true (.t 4) (.v (.str [101, 110, 116, 101, 114]))⟩,
  ⟨some 11, none, none, false, .mov (.t 13)⟩]))) (.cond (.t 11) (.seq (.ops [⟨some 14, none, none, false, .bld [(.bool false), (.bool false), (.bool false), (.bool false), (.bool false), (.bool false)] [(0, 1, (.v (.bool false))), (1, 1, (.v (.bool false))), (2, 1, (.v (.bool false))), (3, 1, (.v (.bool false))), (4, 1, (.v (.bool true))), (5, 1, (.v (.bool false)))]⟩,
  ⟨none, none, none, false, .st 6 (.t 2) (.t 14)⟩,
  ⟨some 3, none, none, false, .mov (.v (.bool true))⟩]) .ret) (.seq (.seq (.ops [⟨some 16, none, none, false, .bin .eql 9 true (.t 4) (.v (.str [112, 117, 108, 115, 101]))⟩,
  ⟨some 15, none, none, false, .mov (.t 16)⟩]) (.cond (.t 15) .skip (.ops [⟨some 17, none, none, false, .bin .eql 9 true (.t 4) (.v (.str [103, 97, 112]))⟩,
  ⟨some 15, none, none, false, .mov (.t 17)⟩]))) (.cond (.t 15) (.seq (.ops [⟨some 18, none, none, false, .bld [(.bool false), (.bool false), (.bool false), (.bool false), (.bool false), (.bool false)] [(0, 1, (.v (.bool true))), (1, 1, (.v (.bool false))), (2, 1, (.v (.bool true))), (3, 1, (.v (.bool true))), (4, 1, (.v (.bool false))), (5, 1, (.v (.bool false)))]⟩,
  ⟨none, none, none, false, .st 6 (.t 2) (.t 18)⟩,
  ⟨some 3, none, none, false, .mov (.v (.bool true))⟩]) .ret) (.seq (.ops [⟨some 20, none, none, false, .bin .eql 9 true (.t 4) (.v (.str [105, 100, 108, 101]))⟩,
  ⟨some 19, none, none, false, .mov (.t 20)⟩]) (.cond (.t 19) (.seq (.ops [⟨some 21, none, none, false, .bld [(.bool false), (.bool false), (.bool false), (.bool false), (.bool false), (.bool false)] [(0, 1, (.v (.bool true))), (1, 1, (.v (.bool false))), (2, 1, (.v (.bool true))), (3, 1, (.v (.bool false))), (4, 1, (.v (.bool false))), (5, 1, (.v (.bool false)))]⟩,
  ⟨none, none, none, false, .st 6 (.t 2) (.t 21)⟩,
  ⟨some 3, none, none, false, .mov (.v (.bool true))⟩]) .ret) (.seq (.ops [⟨some 23, none, none, false, .bin .eql 9 true (.t 4) (.v (.str [115, 101, 116, 117, 112]))⟩,
  ⟨some 22, none, none, false, .mov (.t 23)⟩]) (.cond (.t 22) (.seq (.ops [⟨some 24, none, none, false, .bld [(.bool false), (.bool false), (.bool false), (.bool false), (.bool false), (.bool false)] [(0, 1, (.v (.bool true))), (1, 1, (.v (.bool true))), (2, 1, (.v (.bool true))), (3, 1, (.v (.bool false))), (4, 1, (.v (.bool false))), (5, 1, (.v (.bool false)))]⟩,
  ⟨none, none, none, false, .st 6 (.t 2) (.t 24)⟩,
  ⟨some 3, none, none, false, .mov (.v (.bool true))⟩]) .ret) (.seq (.ops [⟨some 26, none, none, false, .bin .eql 9 true (.t 4) (.v (.str [114, 117, 110, 116]))⟩,
  ⟨some 25, none, none, false, .mov (.t 26)⟩]) (.cond (.t 25) (.seq (.ops [⟨some 27, none, none, false, .bld [(.bool false), (.bool false), (.bool false), (.bool false), (.bool false), (.bool false)] [(0, 1, (.v (.bool true))), (1, 1, (.v (.bool true))), (2, 1, (.v (.bool false))), (3, 1, (.v (.bool false))), (4, 1, (.v (.bool false))), (5, 1, (.v (.bool false)))]⟩,
  ⟨none, none, none, false, .st 6 (.t 2) (.t 27)⟩,
  ⟨some 3, none, none, false, .mov (.v (.bool true))⟩]) .ret) (.seq (.seq (.ops [⟨some 29, none, none, false, .bin .eql 9 true (.t 4) (.v (.str [110, 111, 116]))⟩,
  ⟨some 28, none, none, false, .mov (.t 29)⟩]) (.cond (.t 28) .skip (.seq (.ops [⟨some 30, none, none, false, .bin .eql 9 true (.t 4) (.v (.str [97, 108, 108]))⟩,
  ⟨some 28, none, none, false, .mov (.t 30)⟩]) (.cond (.t 28) .skip (.ops [⟨some 31, none, none, false, .bin .eql 9 true (.t 4) (.v (.str [97, 110, 121]))⟩,
  ⟨some 28, none, none, false, .mov (.t 31)⟩]))))) (.cond (.t 28) (.seq (.ops [⟨some 32, none, none, false, .bld [(.bool false), (.bool false), (.bool false), (.bool false), (.bool false), (.bool false)] [(0, 1, (.v (.bool false))), (1, 1, (.v (.bool false))), (2, 1, (.v (.bool false))), (3, 1, (.v (.bool false))), (4, 1, (.v (.bool false))), (5, 1, (.v (.bool true)))]⟩,
  ⟨none, none, none, false, .st 6 (.t 2) (.t 32)⟩,
  ⟨some 3, none, none, false, .mov (.v (.bool true))⟩]) .ret) .skip)))))))))))))))) (.seq (.ops [⟨some 33, none, none, false, .bld [(.bool false), (.bool false), (.bool false), (.bool false), (.bool false), (.bool false)] []⟩,
  ⟨none, none, none, false, .st 6 (.t 2) (.t 33)⟩,
  ⟨some 3, none, none, false, .mov (.v (.bool false))⟩]) .ret)))
theorem k95 : fnRC 95 = some ([.cell 2 160, .tmp 3], r95) := by kernel_rfl

def r96_l0 : RC := (.seq (.seq (.ops [⟨some 10, none, none, false, .mov (.t 5)⟩,
  ⟨some 11, none, none, false, .mov (.t 0)⟩,
  ⟨some 12, none, none, false, .lenS (.t 11)⟩,
  ⟨some 13, none, none, false, .bin .lss 3 false (.t 10) (.t 12)⟩]) (.cond (.t 13) .skip (.exit 0))) (.seq (.block 1 (.seq (.ops [⟨some 16, none, none, false, .mov (.t 0)⟩,
  ⟨some 17, none, none, false, .mov (.t 5)⟩,
  ⟨some 18, none, none, false, .ixs (.t 16) (.t 17)⟩,
  ⟨some 19, none, none, false, .bin .neq 5 true (.t 18) (.v (.int .u8 48))⟩,
  ⟨some 20, none, none, false, .mov (.t 19)⟩,
  ⟨some 21, some (20, true), none, false, .mov (.t 0)⟩,
  ⟨some 22, some (20, true), none, false, .mov (.t 5)⟩,
  ⟨some 23, some (20, true), none, false, .ixs (.t 21) (.t 22)⟩,
  ⟨some 24, some (20, true), none, false, .bin .neq 5 true (.t 23) (.v (.int .u8 49))⟩,
  ⟨some 25, none, none, false, .pick (.t 20) (.t 24) (.v (.bool false))⟩,
  ⟨some 26, none, none, false, .mov (.t 25)⟩,
  ⟨some 27, some (26, true), none, false, .mov (.t 0)⟩,
  ⟨some 28, some (26, true), none, false, .mov (.t 5)⟩,
  ⟨some 29, some (26, true), none, false, .ixs (.t 27) (.t 28)⟩,
  ⟨some 30, some (26, true), none, false, .bin .neq 5 true (.t 29) (.v (.int .u8 120))⟩,
  ⟨some 31, none, none, false, .pick (.t 26) (.t 30) (.v (.bool false))⟩]) (.cond (.t 31) (.seq (.ops [⟨some 4, none, none, false, .mov (.v (.bool true))⟩]) .ret) .skip))) (.ops [⟨some 14, none, none, false, .mov (.t 5)⟩,
  ⟨some 15, none, none, false, .bin .add 3 true (.t 14) (.v (.int .i64 1))⟩,
  ⟨some 5, none, none, false, .mov (.t 15)⟩])))
/-- strobe/stroberef04.badPattern; results .tmp 4 -/
def r96 : RC := (.seq (.ops [⟨some 4, none, none, false, .mov (.v (.bool false))⟩]) (.seq (.seq (.ops [⟨some 6, none, none, false, .mov (.t 0)⟩,
  ⟨some 7, none, none, false, .lenS (.t 6)⟩,
  ⟨some 8, none, none, false, .mov (.t 1)⟩,
  ⟨some 9, none, none, false, .bin .neq 3 false (.t 7) (.t 8)⟩]) (.cond (.t 9) (.seq (.ops [⟨some 4, none, none, false, .mov (.v (.bool true))⟩]) .ret) .skip)) (.seq (.seq (.ops [⟨some 5, none, none, false, .mov (.v (.int .i64 0))⟩]) (.block 0 (.loop r96_l0))) (.seq (.ops [⟨some 4, none, none, false, .mov (.v (.bool false))⟩]) .ret))))
theorem k96 : fnRC 96 = some ([.tmp 4], r96) := by kernel_rfl

def r27_l0 : RC := (.seq (.seq (.ops [⟨some 167, none, none, false, .mov (.t 9)⟩,
  ⟨some 168, none, none, false, .fa 6 (.t 4)⟩,
  ⟨some 169, none, none, false, .ld1 (.t 168)⟩,
  ⟨some 170, none, none, false, .lenL (.t 169)⟩,
  ⟨some 171, none, none, false, .bin .lss 3 false (.t 167) (.t 170)⟩]) (.cond (.t 171) .skip (.exit 0))) (.seq (.block 1 (.seq (.ops [⟨some 174, none, none, false, .mov (.t 0)⟩,
  ⟨some 175, none, none, false, .fa 6 (.t 4)⟩,
  ⟨some 176, none, none, false, .ld1 (.t 175)⟩,
  ⟨some 177, none, none, false, .mov (.t 9)⟩,
  ⟨some 178, none, none, false, .ixa 7 (.t 176) (.t 177)⟩,
  ⟨some 179, none, none, false, .ldn 7 (.t 178)⟩,
  ⟨some 180, none, none, false, .mov (.t 2)⟩,
  ⟨some 181, none, none, false, .bin .add 3 true (.t 180) (.v (.int .i64 1))⟩,
  ⟨some 182, none, none, false, .call 27 [(.t 174), (.t 179), (.t 181)]⟩,
  ⟨some 10, none, none, false, .mov (.t 182)⟩]) (.seq (.ops [⟨some 183, none, none, false, .mov (.t 10)⟩,
  ⟨some 184, none, none, false, .bin .neq 3 true (.t 183) (.v (.int .i64 0))⟩]) (.cond (.t 184) (.seq (.ops [⟨some 185, none, none, false, .mov (.t 10)⟩,
  ⟨some 6, none, none, false, .mov (.t 185)⟩]) .ret) .skip)))) (.ops [⟨some 172, none, none, false, .mov (.t 9)⟩,
  ⟨some 173, none, none, false, .bin .add 3 true (.t 172) (.v (.int .i64 1))⟩,
  ⟨some 9, none, none, false, .mov (.t 173)⟩])))
/-- strobe/stroberef04.CheckCond; results .tmp 6 -/
def r27 : RC := (.seq (.ops [⟨some 4, none, none, false, .box 39 (.t 1)⟩,
  ⟨some 6, none, none, false, .mov (.v (.int .i64 0))⟩]) (.seq (.seq (.ops [⟨some 11, none, none, false, .mov (.t 2)⟩,
  ⟨some 12, none, none, false, .bin .gtr 3 true (.t 11) (.v (.int .i64 4))⟩]) (.cond (.t 12) (.seq (.ops [⟨some 6, none, none, false, .mov (.v (.int .i64 5))⟩]) .ret) .skip)) (.seq (.ops [⟨some 14, none, none, false, .fa 0 (.t 4)⟩,
  ⟨some 15, none, none, false, .ld1 (.t 14)⟩,
  ⟨some 16, none, none, false, .call 95 [(.t 15)]⟩,
  ⟨some 13, none, none, false, .mov (.t 16)⟩,
  ⟨some 17, none, none, false, .ext (.t 13) 0⟩,
  ⟨some 18, none, none, false, .ext (.t 13) 1⟩,
  ⟨some 7, none, none, false, .al [(.bool false), (.bool false), (.bool false), (.bool false), (.bool false), (.bool false)] 160⟩,
  ⟨none, none, none, false, .st 6 (.t 7) (.t 17)⟩,
  ⟨some 8, none, none, false, .mov (.t 18)⟩]) (.seq (.seq (.ops [⟨some 19, none, none, false, .mov (.t 8)⟩,
  ⟨some 20, none, none, false, .un .not (.t 19)⟩]) (.cond (.t 20) (.seq (.ops [⟨some 6, none, none, false, .mov (.v (.int .i64 13))⟩]) .ret) .skip)) (.seq (.seq (.ops [⟨some 21, none, none, false, .ixp 6 1 (.t 7) (.v (.int .i64 0))⟩,
  ⟨some 22, none, none, false, .ld1 (.t 21)⟩,
  ⟨some 23, none, none, false, .un .not (.t 22)⟩,
  ⟨some 24, none, none, false, .mov (.t 23)⟩,
  ⟨some 25, some (24, true), none, false, .fa 1 (.t 4)⟩,
  ⟨some 26, some (24, true), none, false, .ld1 (.t 25)⟩,
  ⟨some 27, some (24, true), none, false, .bin .neq 3 true (.t 26) (.v (.int .i64 0))⟩,
  ⟨some 28, none, none, false, .pick (.t 24) (.t 27) (.v (.bool false))⟩,
  ⟨some 29, none, none, false, .mov (.t 28)⟩,
  ⟨some 30, some (29, false), none, false, .ixp 6 1 (.t 7) (.v (.int .i64 1))⟩,
  ⟨some 31, some (29, false), none, false, .ld1 (.t 30)⟩,
  ⟨some 32, some (29, false), none, false, .un .not (.t 31)⟩,
  ⟨some 33, some (29, false), none, false, .mov (.t 32)⟩,
  ⟨some 34, some (33, true), none, false, .fa 2 (.t 4)⟩,
  ⟨some 35, some (33, true), none, false, .ld1 (.t 34)⟩,
  ⟨some 36, some (33, true), none, false, .bin .neq 3 true (.t 35) (.v (.int .i64 0))⟩,
  ⟨some 37, some (29, false), none, false, .pick (.t 33) (.t 36) (.v (.bool false))⟩,
  ⟨some 38, none, none, false, .pick (.t 29) (.v (.bool true)) (.t 37)⟩,
  ⟨some 39, none, none, false, .mov (.t 38)⟩,
  ⟨some 40, some (39, false), none, false, .ixp 6 1 (.t 7) (.v (.int .i64 2))⟩,
  ⟨some 41, some (39, false), none, false, .ld1 (.t 40)⟩,
  ⟨some 42, some (39, false), none, false, .un .not (.t 41)⟩,
  ⟨some 43, some (39, false), none, false, .mov (.t 42)⟩,
  ⟨some 44, some (43, true), none, false, .fa 3 (.t 4)⟩,
  ⟨some 45, some (43, true), none, false, .ld1 (.t 44)⟩,
  ⟨some 46, some (43, true), none, false, .bin .neq 3 true (.t 45) (.v (.int .i64 0))⟩,
  ⟨some 47, some (39, false), none, false, .pick (.t 43) (.t 46) (.v (.bool false))⟩,
  ⟨some 48, none, none, false, .pick (.t 39) (.v (.bool true)) (.t 47)⟩,
  ⟨some 49, none, none, false, .mov (.t 48)⟩,
  ⟨some 50, some (49, false), none, false, .ixp 6 1 (.t 7) (.v (.int .i64 3))⟩,
  ⟨some 51, some (49, false), none, false, .ld1 (.t 50)⟩,
  ⟨some 52, some (49, false), none, false, .un .not (.t 51)⟩,
  ⟨some 53, some (49, false), none, false, .mov (.t 52)⟩,
  ⟨some 54, some (53, true), none, false, .fa 4 (.t 4)⟩,
  ⟨some 55, some (53, true), none, false, .ld1 (.t 54)⟩,
  ⟨some 56, some (53, true), none, false, .bin .neq 3 true (.t 55) (.v (.int .i64 0))⟩,
  ⟨some 57, some (49, false), none, false, .pick (.t 53) (.t 56) (.v (.bool false))⟩,
  ⟨some 58, none, none, false, .pick (.t 49) (.v (.bool true)) (.t 57)⟩,
  ⟨some 59, none, none, false, .mov (.t 58)⟩,
  ⟨some 60, some (59, false), none, false, .ixp 6 1 (.t 7) (.v (.int .i64 4))⟩,
  ⟨some 61, some (59, false), none, false, .ld1 (.t 60)⟩,
  ⟨some 62, some (59, false), none, false, .un .not (.t 61)⟩,
  ⟨some 63, some (59, false), none, false, .mov (.t 62)⟩,
  ⟨some 64, some (63, true), none, false, .fa 5 (.t 4)⟩,
  ⟨some 65, some (63, true), none, false, .ld1 (.t 64)⟩,
  ⟨some 66, some (63, true), none, false, .bin .neq 9 true (.t 65) (.v (.str []))⟩,
  ⟨some 67, some (59, false), none, false, .pick (.t 63) (.t 66) (.v (.bool false))⟩,
  ⟨some 68, none, none, false, .pick (.t 59) (.v (.bool true)) (.t 67)⟩,
  ⟨some 69, none, none, false, .mov (.t 68)⟩,
  ⟨some 70, some (69, false), none, false, .ixp 6 1 (.t 7) (.v (.int .i64 5))⟩,
  ⟨some 71, some (69, false), none, false, .ld1 (.t 70)⟩,
  ⟨some 72, some (69, false), none, false, .un .not (.t 71)⟩,
  ⟨some 73, some (69, false), none, false, .mov (.t 72)⟩,
  ⟨some 74, some (73, true), none, false, .fa 6 (.t 4)⟩,
  ⟨some 75, some (73, true), none, false, .ld1 (.t 74)⟩,
  ⟨some 76, some (73, true), none, false, .lenL (.t 75)⟩,
  ⟨some 77, some (73, true), none, false, .bin .gtr 3 true (.t 76) (.v (.int .i64 0))⟩,
  ⟨some 78, some (69, false), none, false, .pick (.t 73) (.t 77) (.v (.bool false))⟩,
  ⟨some 79, none, none, false, .pick (.t 69) (.v (.bool true)) (.t 78)⟩]) (.cond (.t 79) (.seq (.ops [⟨some 6, none, none, false, .mov (.v (.int .i64 2))⟩]) .ret) .skip)) (.seq (.seq (.ops [⟨some 80, none, none, false, .ixp 6 1 (.t 7) (.v (.int .i64 0))⟩,
  ⟨some 81, none, none, false, .ld1 (.t 80)⟩,
  ⟨some 82, none, none, false, .mov (.t 81)⟩,
  ⟨some 83, some (82, true), none, false, .fa 1 (.t 4)⟩,
  ⟨some 84, some (82, true), none, false, .ld1 (.t 83)⟩,
  ⟨some 85, some (82, true), none, false, .mov (.t 0)⟩,
  ⟨some 86, some (82, true), none, false, .bin .sub 3 true (.t 85) (.v (.int .i64 1))⟩,
  ⟨some 87, some (82, true), none, false, .call 94 [(.t 84), (.v (.int .i64 0)), (.t 86)]⟩,
  ⟨some 88, none, none, false, .pick (.t 82) (.t 87) (.v (.bool false))⟩,
  ⟨some 89, none, none, false, .mov (.t 88)⟩,
  ⟨some 90, some (89, false), none, false, .ixp 6 1 (.t 7) (.v (.int .i64 1))⟩,
  ⟨some 91, some (89, false), none, false, .ld1 (.t 90)⟩,
  ⟨some 92, some (89, false), none, false, .mov (.t 91)⟩,
  ⟨some 93, some (92, true), none, false, .fa 2 (.t 4)⟩,
  ⟨some 94, some (92, true), none, false, .ld1 (.t 93)⟩,
  ⟨some 95, some (92, true), none, false, .mov (.t 0)⟩,
  ⟨some 96, some (92, true), none, false, .bin .sub 3 true (.t 95) (.v (.int .i64 1))⟩,
  ⟨some 97, some (92, true), none, false, .call 94 [(.t 94), (.v (.int .i64 0)), (.t 96)]⟩,
  ⟨some 98, some (89, false), none, false, .pick (.t 92) (.t 97) (.v (.bool false))⟩,
  ⟨some 99, none, none, false, .pick (.t 89) (.v (.bool true)) (.t 98)⟩]) (.cond (.t 99) (.seq (.ops [⟨some 6, none, none, false, .mov (.v (.int .i64 3))⟩]) .ret) .skip)) (.seq (.seq (.ops [⟨some 100, none, none, false, .ixp 6 1 (.t 7) (.v (.int .i64 1))⟩,
  ⟨some 101, none, none, false, .ld1 (.t 100)⟩,
  ⟨some 102, none, none, false, .mov (.t 101)⟩,
  ⟨some 103, some (102, true), none, false, .fa 1 (.t 4)⟩,
  ⟨some 104, some (102, true), none, false, .ld1 (.t 103)⟩,
  ⟨some 105, some (102, true), none, false, .fa 2 (.t 4)⟩,
  ⟨some 106, some (102, true), none, false, .ld1 (.t 105)⟩,
  ⟨some 107, some (102, true), none, false, .bin .eql 3 false (.t 104) (.t 106)⟩,
  ⟨some 108, none, none, false, .pick (.t 102) (.t 107) (.v (.bool false))⟩]) (.cond (.t 108) (.seq (.ops [⟨some 6, none, none, false, .mov (.v (.int .i64 9))⟩]) .ret) .skip)) (.seq (.seq (.ops [⟨some 109, none, none, false, .ixp 6 1 (.t 7) (.v (.int .i64 2))⟩,
  ⟨some 110, none, none, false, .ld1 (.t 109)⟩,
  ⟨some 111, none, none, false, .mov (.t 110)⟩,
  ⟨some 112, some (111, true), none, false, .fa 3 (.t 4)⟩,
  ⟨some 113, some (111, true), none, false, .ld1 (.t 112)⟩,
  ⟨some 114, some (111, true), none, false, .call 94 [(.t 113), (.v (.int .i64 1)), (.v (.int .i64 255))]⟩,
  ⟨some 115, none, none, false, .pick (.t 111) (.t 114) (.v (.bool false))⟩,
  ⟨some 116, none, none, false, .mov (.t 115)⟩,
  ⟨some 117, some (116, false), none, false, .ixp 6 1 (.t 7) (.v (.int .i64 3))⟩,
  ⟨some 118, some (116, false), none, false, .ld1 (.t 117)⟩,
  ⟨some 119, some (116, false), none, false, .mov (.t 118)⟩,
  ⟨some 120, some (119, true), none, false, .fa 4 (.t 4)⟩,
  ⟨some 121, some (119, true), none, false, .ld1 (.t 120)⟩,
  ⟨some 122, some (119, true), none, false, .call 94 [(.t 121), (.v (.int .i64 1)), (.v (.int .i64 255))]⟩,
  ⟨some 123, some (116, false), none, false, .pick (.t 119) (.t 122) (.v (.bool false))⟩,
  ⟨some 124, none, none, false, .pick (.t 116) (.v (.bool true)) (.t 123)⟩]) (.cond (.t 124) (.seq (.ops [⟨some 6, none, none, false, .mov (.v (.int .i64 3))⟩]) .ret) .skip)) (.seq (.seq (.ops [⟨some 125, none, none, false, .ixp 6 1 (.t 7) (.v (.int .i64 3))⟩,
  ⟨some 126, none, none, false, .ld1 (.t 125)⟩,
  ⟨some 127, none, none, false, .mov (.t 126)⟩,
  ⟨some 128, some (127, true), none, false, .fa 3 (.t 4)⟩,
  ⟨some 129, some (127, true), none, false, .ld1 (.t 128)⟩,
  ⟨some 130, some (127, true), none, false, .fa 4 (.t 4)⟩,
  ⟨some 131, some (127, true), none, false, .ld1 (.t 130)⟩,
  ⟨some 132, some (127, true), none, false, .bin .gtr 3 false (.t 129) (.t 131)⟩,
  ⟨some 133, none, none, false, .pick (.t 127) (.t 132) (.v (.bool false))⟩]) (.cond (.t 133) (.seq (.ops [⟨some 6, none, none, false, .mov (.v (.int .i64 11))⟩]) .ret) .skip)) (.seq (.seq (.ops [⟨some 134, none, none, false, .ixp 6 1 (.t 7) (.v (.int .i64 4))⟩,
  ⟨some 135, none, none, false, .ld1 (.t 134)⟩,
  ⟨some 136, none, none, false, .mov (.t 135)⟩,
  ⟨some 137, some (136, true), none, false, .fa 5 (.t 4)⟩,
  ⟨some 138, some (136, true), none, false, .ld1 (.t 137)⟩,
  ⟨some 139, some (136, true), none, false, .mov (.t 0)⟩,
  ⟨some 140, some (136, true), none, false, .call 96 [(.t 138), (.t 139)]⟩,
  ⟨some 141, none, none, false, .pick (.t 136) (.t 140) (.v (.bool false))⟩]) (.cond (.t 141) (.seq (.ops [⟨some 6, none, none, false, .mov (.v (.int .i64 1))⟩]) .ret) .skip)) (.seq (.seq (.ops [⟨some 142, none, none, false, .fa 0 (.t 4)⟩,
  ⟨some 143, none, none, false, .ld1 (.t 142)⟩,
  ⟨some 144, none, none, false, .bin .eql 9 true (.t 143) (.v (.str [110, 111, 116]))⟩,
  ⟨some 145, none, none, false, .mov (.t 144)⟩,
  ⟨some 146, some (145, true), none, false, .fa 6 (.t 4)⟩,
  ⟨some 147, some (145, true), none, false, .ld1 (.t 146)⟩,
  ⟨some 148, some (145, true), none, false, .lenL (.t 147)⟩,
  ⟨some 149, some (145, true), none, false, .bin .neq 3 true (.t 148) (.v (.int .i64 1))⟩,
  ⟨some 150, none, none, false, .pick (.t 145) (.t 149) (.v (.bool false))⟩]) (.cond (.t 150) (.seq (.ops [⟨some 6, none, none, false, .mov (.v (.int .i64 2))⟩]) .ret) .skip)) (.seq (.seq (.ops [⟨some 151, none, none, false, .ixp 6 1 (.t 7) (.v (.int .i64 5))⟩,
  ⟨some 152, none, none, false, .ld1 (.t 151)⟩,
  ⟨some 153, none, none, false, .mov (.t 152)⟩,
  ⟨some 154, some (153, true), none, false, .fa 6 (.t 4)⟩,
  ⟨some 155, some (153, true), none, false, .ld1 (.t 154)⟩,
  ⟨some 156, some (153, true), none, false, .lenL (.t 155)⟩,
  ⟨some 157, some (153, true), none, false, .bin .eql 3 true (.t 156) (.v (.int .i64 0))⟩,
  ⟨some 158, none, none, false, .pick (.t 153) (.t 157) (.v (.bool false))⟩]) (.cond (.t 158) (.seq (.ops [⟨some 6, none, none, false, .mov (.v (.int .i64 12))⟩]) .ret) .skip)) (.seq (.seq (.ops [⟨some 159, none, none, false, .ixp 6 1 (.t 7) (.v (.int .i64 5))⟩,
  ⟨some 160, none, none, false, .ld1 (.t 159)⟩,
  ⟨some 161, none, none, false, .mov (.t 160)⟩,
  ⟨some 162, some (161, true), none, false, .fa 6 (.t 4)⟩,
  ⟨some 163, some (161, true), none, false, .ld1 (.t 162)⟩,
  ⟨some 164, some (161, true), none, false, .lenL (.t 163)⟩,
  ⟨some 165, some (161, true), none, false, .bin .gtr 3 true (.t 164) (.v (.int .i64 8))⟩,
  ⟨some 166, none, none, false, .pick (.t 161) (.t 165) (.v (.bool false))⟩]) (.cond (.t 166) (.seq (.ops [⟨some 6, none, none, false, .mov (.v (.int .i64 5))⟩]) .ret) .skip)) (.seq (.seq (.ops [⟨some 9, none, none, false, .mov (.v (.int .i64 0))⟩]) (.block 0 (.loop r27_l0))) (.seq (.ops [⟨some 6, none, none, false, .mov (.v (.int .i64 0))⟩]) .ret)))))))))))))))
theorem k27 : fnRC 27 = some ([.tmp 6], r27) := by kernel_rfl

def r34_l0 : RC := (.seq (.seq (.ops [⟨some 21, none, none, false, .mov (.t 4)⟩,
  ⟨some 22, none, none, false, .fa 1 (.t 1)⟩,
  ⟨some 23, none, none, false, .ld1 (.t 22)⟩,
  ⟨some 24, none, none, false, .lenL (.t 23)⟩,
  ⟨some 25, none, none, false, .bin .lss 3 false (.t 21) (.t 24)⟩]) (.cond (.t 25) .skip (.exit 0))) (.seq (.block 1 (.seq (.ops [⟨some 28, none, none, false, .fa 1 (.t 1)⟩,
  ⟨some 29, none, none, false, .ld1 (.t 28)⟩,
  ⟨some 30, none, none, false, .mov (.t 4)⟩,
  ⟨some 31, none, none, false, .ixa 9 (.t 29) (.t 30)⟩,
  ⟨some 32, none, none, false, .ldn 9 (.t 31)⟩,
  ⟨some 5, none, none, false, .al [(.str []), (.int .i64 0), (.int .i64 0), (.int .i64 0), (.int .i64 0), (.str []), .nils, (.int .i64 0), (.int .i64 0)] 90⟩,
  ⟨none, none, none, false, .st 9 (.t 5) (.t 32)⟩]) (.seq (.seq (.ops [⟨some 33, none, none, false, .fa 0 (.t 1)⟩,
  ⟨some 34, none, none, false, .ld1 (.t 33)⟩,
  ⟨some 35, none, none, false, .fa 0 (.t 5)⟩,
  ⟨some 36, none, none, false, .ldn 7 (.t 35)⟩,
  ⟨some 37, none, none, false, .call 27 [(.t 34), (.t 36), (.v (.int .i64 1))]⟩,
  ⟨some 6, none, none, false, .mov (.t 37)⟩]) (.seq (.ops [⟨some 38, none, none, false, .mov (.t 6)⟩,
  ⟨some 39, none, none, false, .bin .neq 3 true (.t 38) (.v (.int .i64 0))⟩]) (.cond (.t 39) (.seq (.ops [⟨some 40, none, none, false, .mov (.t 6)⟩,
  ⟨some 2, none, none, false, .mov (.t 40)⟩]) .ret) .skip))) (.seq (.ops [⟨some 41, none, none, false, .fa 7 (.t 5)⟩,
  ⟨some 42, none, none, false, .ld1 (.t 41)⟩,
  ⟨some 43, none, none, false, .call 94 [(.t 42), (.v (.int .i64 1)), (.v (.int .i64 64))]⟩,
  ⟨some 44, none, none, false, .mov (.t 43)⟩,
  ⟨some 45, some (44, false), none, false, .fa 8 (.t 5)⟩,
  ⟨some 46, some (44, false), none, false, .ld1 (.t 45)⟩,
  ⟨some 47, some (44, false), none, false, .call 94 [(.t 46), (.v (.int .i64 0)), (.v (.int .i64 255))]⟩,
  ⟨some 48, none, none, false, .pick (.t 44) (.v (.bool true)) (.t 47)⟩,
  ⟨some 49, none, none, false, .mov (.t 48)⟩,
  ⟨some 50, some (49, false), none, false, .mov (.t 4)⟩,
  ⟨some 51, some (49, false), none, false, .bin .eql 3 true (.t 50) (.v (.int .i64 0))⟩,
  ⟨some 52, some (49, false), none, false, .mov (.t 51)⟩,
  ⟨some 53, some (52, true), none, false, .fa 8 (.t 5)⟩,
  ⟨some 54, some (52, true), none, false, .ld1 (.t 53)⟩,
  ⟨some 55, some (52, true), none, false, .bin .neq 3 true (.t 54) (.v (.int .i64 0))⟩,
  ⟨some 56, some (49, false), none, false, .pick (.t 52) (.t 55) (.v (.bool false))⟩,
  ⟨some 57, none, none, false, .pick (.t 49) (.v (.bool true)) (.t 56)⟩]) (.cond (.t 57) (.seq (.ops [⟨some 2, none, none, false, .mov (.v (.int .i64 3))⟩]) .ret) .skip))))) (.ops [⟨some 26, none, none, false, .mov (.t 4)⟩,
  ⟨some 27, none, none, false, .bin .add 3 true (.t 26) (.v (.int .i64 1))⟩,
  ⟨some 4, none, none, false, .mov (.t 27)⟩])))
/-- strobe/stroberef04.CheckProgram; results .tmp 2 -/
def r34 : RC := (.seq (.ops [⟨some 1, none, none, false, .box 31 (.t 0)⟩,
  ⟨some 2, none, none, false, .mov (.v (.int .i64 0))⟩]) (.seq (.seq (.ops [⟨some 7, none, none, false, .fa 0 (.t 1)⟩,
  ⟨some 8, none, none, false, .ld1 (.t 7)⟩,
  ⟨some 9, none, none, false, .call 26 [(.t 8)]⟩,
  ⟨some 3, none, none, false, .mov (.t 9)⟩]) (.seq (.ops [⟨some 10, none, none, false, .mov (.t 3)⟩,
  ⟨some 11, none, none, false, .bin .neq 3 true (.t 10) (.v (.int .i64 0))⟩]) (.cond (.t 11) (.seq (.ops [⟨some 12, none, none, false, .mov (.t 3)⟩,
  ⟨some 2, none, none, false, .mov (.t 12)⟩]) .ret) .skip))) (.seq (.seq (.ops [⟨some 13, none, none, false, .fa 1 (.t 1)⟩,
  ⟨some 14, none, none, false, .ld1 (.t 13)⟩,
  ⟨some 15, none, none, false, .lenL (.t 14)⟩,
  ⟨some 16, none, none, false, .bin .eql 3 true (.t 15) (.v (.int .i64 0))⟩]) (.cond (.t 16) (.seq (.ops [⟨some 2, none, none, false, .mov (.v (.int .i64 12))⟩]) .ret) .skip)) (.seq (.seq (.ops [⟨some 17, none, none, false, .fa 1 (.t 1)⟩,
  ⟨some 18, none, none, false, .ld1 (.t 17)⟩,
  ⟨some 19, none, none, false, .lenL (.t 18)⟩,
  ⟨some 20, none, none, false, .bin .gtr 3 true (.t 19) (.v (.int .i64 8))⟩]) (.cond (.t 20) (.seq (.ops [⟨some 2, none, none, false, .mov (.v (.int .i64 5))⟩]) .ret) .skip)) (.seq (.seq (.ops [⟨some 4, none, none, false, .mov (.v (.int .i64 0))⟩]) (.block 0 (.loop r34_l0))) (.seq (.ops [⟨some 2, none, none, false, .mov (.v (.int .i64 0))⟩]) .ret))))))
theorem k34 : fnRC 34 = some ([.tmp 2], r34) := by kernel_rfl

/-- strobe/trigger.when; results .tmp 4 -/
def r116 : RC := (.seq (.ops [⟨some 4, none, none, false, .mov (.v (.int .i64 0))⟩]) (.seq (.seq (.ops [⟨some 5, none, none, false, .mov (.t 0)⟩]) (.cond (.t 5) (.seq (.ops [⟨some 6, none, none, false, .mov (.t 1)⟩,
  ⟨some 4, none, none, false, .mov (.t 6)⟩]) .ret) .skip)) (.seq (.ops [⟨some 4, none, none, false, .mov (.v (.int .i64 0))⟩]) .ret)))
theorem k116 : fnRC 116 = some ([.tmp 4], r116) := by kernel_rfl

/-- strobe/trigger.within; results .tmp 6 -/
def r124 : RC := (.seq (.ops [⟨some 6, none, none, false, .mov (.v (.int .i64 0))⟩]) (.seq (.ops [⟨some 7, none, none, false, .mov (.t 0)⟩,
  ⟨some 8, none, none, false, .mov (.t 1)⟩,
  ⟨some 9, none, none, false, .bin .lss 3 false (.t 7) (.t 8)⟩,
  ⟨some 10, none, none, false, .mov (.t 9)⟩,
  ⟨some 11, some (10, false), none, false, .mov (.t 0)⟩,
  ⟨some 12, some (10, false), none, false, .mov (.t 2)⟩,
  ⟨some 13, some (10, false), none, false, .bin .gtr 3 false (.t 11) (.t 12)⟩,
  ⟨some 14, none, none, false, .pick (.t 10) (.v (.bool true)) (.t 13)⟩,
  ⟨some 15, none, none, false, .call 116 [(.t 14), (.v (.int .i64 3))]⟩,
  ⟨some 6, none, none, false, .mov (.t 15)⟩]) .ret))
theorem k124 : fnRC 124 = some ([.tmp 6], r124) := by kernel_rfl

/-- strobe/trigger.checkLines; results .tmp 2 -/
def r88 : RC := (.seq (.ops [⟨some 2, none, none, false, .mov (.v (.int .i64 0))⟩]) (.seq (.ops [⟨some 3, none, none, false, .mov (.t 0)⟩,
  ⟨some 4, none, none, false, .call 124 [(.t 3), (.v (.int .i64 1)), (.v (.int .i64 16))]⟩,
  ⟨some 2, none, none, false, .mov (.t 4)⟩]) .ret))
theorem k88 : fnRC 88 = some ([.tmp 2], r88) := by kernel_rfl

def r89_l0 : RC := (.seq (.ops [⟨some 8, none, none, false, .bin .lss 3 false (.t 7) (.t 6)⟩]) (.seq (.cond (.t 8) .skip (.exit 0)) (.seq (.block 1 (.seq (.ops [⟨some 9, none, none, false, .ixa 1 (.t 5) (.t 7)⟩,
  ⟨some 10, none, none, false, .ld1 (.t 9)⟩,
  ⟨some 4, none, none, false, .mov (.t 10)⟩]) (.seq (.ops [⟨some 11, none, none, false, .mov (.t 4)⟩,
  ⟨some 12, none, none, false, .bin .neq 26 true (.t 11) (.v (.int .i64 0))⟩]) (.cond (.t 12) (.seq (.ops [⟨some 13, none, none, false, .mov (.t 4)⟩,
  ⟨some 2, none, none, false, .mov (.t 13)⟩]) .ret) .skip)))) (.ops [⟨some 14, none, none, false, .bin .add 3 true (.t 7) (.v (.int .i64 1))⟩,
  ⟨some 7, none, none, false, .mov (.t 14)⟩]))))
/-- strobe/trigger.first; results .tmp 2 -/
def r89 : RC := (.seq (.ops [⟨some 2, none, none, false, .mov (.v (.int .i64 0))⟩]) (.seq (.seq (.ops [⟨some 5, none, none, false, .mov (.t 0)⟩,
  ⟨some 6, none, none, false, .lenL (.t 5)⟩,
  ⟨some 7, none, none, false, .mov (.v (.int .i64 0))⟩]) (.block 0 (.loop r89_l0))) (.seq (.ops [⟨some 2, none, none, false, .mov (.v (.int .i64 0))⟩]) .ret)))
theorem k89 : fnRC 89 = some ([.tmp 2], r89) := by kernel_rfl

/-- (strobe/trigger.kind).unused; results .tmp 4 -/
def r157 : RC := (.seq (.ops [⟨some 2, none, none, false, .box 236 (.t 0)⟩,
  ⟨some 3, none, none, false, .box 48 (.t 1)⟩,
  ⟨some 4, none, none, false, .mov (.v (.bool false))⟩]) (.seq (.ops [⟨some 5, none, none, false, .fa 0 (.t 2)⟩,
  ⟨some 6, none, none, false, .ld1 (.t 5)⟩,
  ⟨some 7, none, none, false, .un .not (.t 6)⟩,
  ⟨some 8, none, none, false, .mov (.t 7)⟩,
  ⟨some 9, some (8, true), none, false, .fa 1 (.t 3)⟩,
  ⟨some 10, some (8, true), none, false, .ld1 (.t 9)⟩,
  ⟨some 11, some (8, true), none, false, .bin .neq 3 true (.t 10) (.v (.int .i64 0))⟩,
  ⟨some 12, none, none, false, .pick (.t 8) (.t 11) (.v (.bool false))⟩,
  ⟨some 13, none, none, false, .mov (.t 12)⟩,
  ⟨some 14, some (13, false), none, false, .fa 1 (.t 2)⟩,
  ⟨some 15, some (13, false), none, false, .ld1 (.t 14)⟩,
  ⟨some 16, some (13, false), none, false, .un .not (.t 15)⟩,
  ⟨some 17, some (13, false), none, false, .mov (.t 16)⟩,
  ⟨some 18, some (17, true), none, false, .fa 2 (.t 3)⟩,
  ⟨some 19, some (17, true), none, false, .ld1 (.t 18)⟩,
  ⟨some 20, some (17, true), none, false, .bin .neq 3 true (.t 19) (.v (.int .i64 0))⟩,
  ⟨some 21, some (13, false), none, false, .pick (.t 17) (.t 20) (.v (.bool false))⟩,
  ⟨some 22, none, none, false, .pick (.t 13) (.v (.bool true)) (.t 21)⟩,
  ⟨some 23, none, none, false, .mov (.t 22)⟩,
  ⟨some 24, some (23, false), none, false, .fa 2 (.t 2)⟩,
  ⟨some 25, some (23, false), none, false, .ld1 (.t 24)⟩,
  ⟨some 26, some (23, false), none, false, .un .not (.t 25)⟩,
  ⟨some 27, some (23, false), none, false, .mov (.t 26)⟩,
  ⟨some 28, some (27, true), none, false, .fa 3 (.t 3)⟩,
  ⟨some 29, some (27, true), none, false, .ld1 (.t 28)⟩,
  ⟨some 30, some (27, true), none, false, .bin .neq 3 true (.t 29) (.v (.int .i64 0))⟩,
  ⟨some 31, some (23, false), none, false, .pick (.t 27) (.t 30) (.v (.bool false))⟩,
  ⟨some 32, none, none, false, .pick (.t 23) (.v (.bool true)) (.t 31)⟩,
  ⟨some 33, none, none, false, .mov (.t 32)⟩,
  ⟨some 34, some (33, false), none, false, .fa 3 (.t 2)⟩,
  ⟨some 35, some (33, false), none, false, .ld1 (.t 34)⟩,
  ⟨some 36, some (33, false), none, false, .un .not (.t 35)⟩,
  ⟨some 37, some (33, false), none, false, .mov (.t 36)⟩,
  ⟨some 38, some (37, true), none, false, .fa 4 (.t 3)⟩,
  ⟨some 39, some (37, true), none, false, .ld1 (.t 38)⟩,
  ⟨some 40, some (37, true), none, false, .bin .neq 3 true (.t 39) (.v (.int .i64 0))⟩,
  ⟨some 41, some (33, false), none, false, .pick (.t 37) (.t 40) (.v (.bool false))⟩,
  ⟨some 42, none, none, false, .pick (.t 33) (.v (.bool true)) (.t 41)⟩,
  ⟨some 43, none, none, false, .mov (.t 42)⟩,
  ⟨some 44, some (43, false), none, false, .fa 4 (.t 2)⟩,
  ⟨some 45, some (43, false), none, false, .ld1 (.t 44)⟩,
  ⟨some 46, some (43, false), none, false, .un .not (.t 45)⟩,
  ⟨some 47, some (43, false), none, false, .mov (.t 46)⟩,
  ⟨some 48, some (47, true), none, false, .fa 5 (.t 3)⟩,
  ⟨some 49, some (47, true), none, false, .ld1 (.t 48)⟩,
  ⟨some 50, some (47, true), none, false, .bin .neq 9 true (.t 49) (.v (.str []))⟩,
  ⟨some 51, some (43, false), none, false, .pick (.t 47) (.t 50) (.v (.bool false))⟩,
  ⟨some 52, none, none, false, .pick (.t 43) (.v (.bool true)) (.t 51)⟩,
  ⟨some 53, none, none, false, .mov (.t 52)⟩,
  ⟨some 54, some (53, false), none, false, .fa 5 (.t 2)⟩,
  ⟨some 55, some (53, false), none, false, .ld1 (.t 54)⟩,
  ⟨some 56, some (53, false), none, false, .un .not (.t 55)⟩,
  ⟨some 57, some (53, false), none, false, .mov (.t 56)⟩,
  ⟨some 58, some (57, true), none, false, .fa 6 (.t 3)⟩,
  ⟨some 59, some (57, true), none, false, .ld1 (.t 58)⟩,
  ⟨some 60, some (57, true), none, false, .lenL (.t 59)⟩,
  ⟨some 61, some (57, true), none, false, .bin .gtr 3 true (.t 60) (.v (.int .i64 0))⟩,
  ⟨some 62, some (53, false), none, false, .pick (.t 57) (.t 61) (.v (.bool false))⟩,
  ⟨some 63, none, none, false, .pick (.t 53) (.v (.bool true)) (.t 62)⟩,
  ⟨some 4, none, none, false, .mov (.t 63)⟩]) .ret))
theorem k157 : fnRC 157 = some ([.tmp 4], r157) := by kernel_rfl

/-- strobe/trigger.checkPattern; results .tmp 4 -/
def r158 : RC := (.seq (.ops [⟨some 4, none, none, false, .mov (.v (.int .i64 0))⟩]) (.seq (.ops [⟨some 5, none, none, false, .mov (.t 1)⟩,
  ⟨some 6, none, none, false, .lenS (.t 5)⟩,
  ⟨some 7, none, none, false, .mov (.t 0)⟩,
  ⟨some 8, none, none, false, .bin .neq 3 false (.t 6) (.t 7)⟩,
  ⟨some 9, none, none, false, .mov (.t 8)⟩,
  ⟨some 10, some (9, false), none, false, .mov (.t 1)⟩,
  ⟨some 11, some (9, false), none, false, .call 212 [(.t 10), (.v (.str [48, 49, 120]))]⟩,
  ⟨some 12, some (9, false), none, false, .bin .neq 9 true (.t 11) (.v (.str []))⟩,
  ⟨some 13, none, none, false, .pick (.t 9) (.v (.bool true)) (.t 12)⟩,
  ⟨some 14, none, none, false, .call 116 [(.t 13), (.v (.int .i64 1))]⟩,
  ⟨some 4, none, none, false, .mov (.t 14)⟩]) .ret))
theorem k158 : fnRC 158 = some ([.tmp 4], r158) := by kernel_rfl

def r90_l0 : RC := (.seq (.ops [⟨some 144, none, none, false, .bin .lss 3 false (.t 143) (.t 142)⟩]) (.seq (.cond (.t 144) .skip (.exit 0)) (.seq (.block 1 (.seq (.ops [⟨some 145, none, none, false, .ixa 7 (.t 141) (.t 143)⟩,
  ⟨some 146, none, none, false, .ldn 7 (.t 145)⟩,
  ⟨some 12, none, none, false, .al [(.str []), (.int .i64 0), (.int .i64 0), (.int .i64 0), (.int .i64 0), (.str []), .nils] 48⟩,
  ⟨none, none, none, false, .st 7 (.t 12) (.t 146)⟩]) (.seq (.ops [⟨some 147, none, none, false, .mov (.t 10)⟩,
  ⟨some 148, none, none, false, .bin .eql 26 true (.t 147) (.v (.int .i64 0))⟩]) (.cond (.t 148) (.ops [⟨some 149, none, none, false, .mov (.t 0)⟩,
  ⟨some 150, none, none, false, .ldn 7 (.t 12)⟩,
  ⟨some 151, none, none, false, .mov (.t 2)⟩,
  ⟨some 152, none, none, false, .bin .add 3 true (.t 151) (.v (.int .i64 1))⟩,
  ⟨some 153, none, none, false, .call 90 [(.t 149), (.t 150), (.t 152)]⟩,
  ⟨some 10, none, none, false, .mov (.t 153)⟩]) .skip)))) (.ops [⟨some 154, none, none, false, .bin .add 3 true (.t 143) (.v (.int .i64 1))⟩,
  ⟨some 143, none, none, false, .mov (.t 154)⟩]))))
/-- strobe/trigger.checkCond; results .tmp 6 -/
def r90 : RC := (.seq (.ops [⟨some 4, none, none, false, .box 48 (.t 1)⟩,
  ⟨some 6, none, none, false, .mov (.v (.int .i64 0))⟩]) (.seq (.drw 10 [⟨some 14, none, none, false, .call 156 []⟩,
  ⟨some 15, none, none, false, .fa 0 (.t 4)⟩,
  ⟨some 16, none, none, false, .ld1 (.t 15)⟩,
  ⟨some 17, none, none, false, .raw (.lookup 238 (.tmp 14) (.tmp 16) true)⟩,
  ⟨some 13, none, none, false, .mov (.t 17)⟩,
  ⟨some 18, none, none, false, .ext (.t 13) 0⟩,
  ⟨some 19, none, none, false, .ext (.t 13) 1⟩,
  ⟨some 7, none, some 7, false, .al [(.bool false), (.bool false), (.bool false), (.bool false), (.bool false), (.bool false), .nilfn, .nilfn, .nilfn] 236⟩,
  ⟨none, none, none, true, .st 9 (.t 7) (.t 18)⟩,
  ⟨some 8, none, none, false, .mov (.t 19)⟩]) (.seq (.seq (.ops [⟨some 20, none, none, false, .mov (.t 2)⟩,
  ⟨some 21, none, none, false, .bin .gtr 3 true (.t 20) (.v (.int .i64 4))⟩,
  ⟨some 22, none, none, false, .call 116 [(.t 21), (.v (.int .i64 5))]⟩,
  ⟨some 23, none, none, false, .mov (.t 8)⟩,
  ⟨some 24, none, none, false, .un .not (.t 23)⟩,
  ⟨some 25, none, none, false, .call 116 [(.t 24), (.v (.int .i64 13))]⟩,
  ⟨some 26, none, none, false, .bsl 26 1 2 [(.int .i64 0), (.int .i64 0)] [(0, 1, (.t 22)), (1, 1, (.t 25))]⟩,
  ⟨some 27, none, none, false, .call 89 [(.t 26)]⟩,
  ⟨some 9, none, none, false, .mov (.t 27)⟩]) (.seq (.ops [⟨some 28, none, none, false, .mov (.t 9)⟩,
  ⟨some 29, none, none, false, .bin .neq 26 true (.t 28) (.v (.int .i64 0))⟩]) (.cond (.t 29) (.seq (.ops [⟨some 30, none, none, false, .mov (.t 9)⟩,
  ⟨some 6, none, none, false, .mov (.t 30)⟩]) .ret) .skip))) (.seq (.drw 73 [⟨some 31, none, none, false, .ldn 9 (.t 7)⟩,
  ⟨some 32, none, none, false, .ldn 7 (.t 4)⟩,
  ⟨some 33, none, none, false, .call 157 [(.t 31), (.t 32)]⟩,
  ⟨some 34, none, none, false, .call 116 [(.t 33), (.v (.int .i64 2))]⟩,
  ⟨some 35, none, none, false, .fa 0 (.t 7)⟩,
  ⟨some 36, none, none, false, .ld1 (.t 35)⟩,
  ⟨some 37, none, none, false, .mov (.t 36)⟩,
  ⟨some 38, some (37, true), none, false, .fa 1 (.t 4)⟩,
  ⟨some 39, some (37, true), none, false, .ld1 (.t 38)⟩,
  ⟨some 40, some (37, true), none, false, .bin .lss 3 true (.t 39) (.v (.int .i64 0))⟩,
  ⟨some 41, some (37, true), none, false, .mov (.t 40)⟩,
  ⟨some 42, some (41, false), none, false, .fa 1 (.t 4)⟩,
  ⟨some 43, some (41, false), none, false, .ld1 (.t 42)⟩,
  ⟨some 44, some (41, false), none, false, .mov (.t 0)⟩,
  ⟨some 45, some (41, false), none, false, .bin .geq 3 false (.t 43) (.t 44)⟩,
  ⟨some 46, some (37, true), none, false, .pick (.t 41) (.v (.bool true)) (.t 45)⟩,
  ⟨some 47, none, none, false, .pick (.t 37) (.t 46) (.v (.bool false))⟩,
  ⟨some 48, none, none, false, .call 116 [(.t 47), (.v (.int .i64 3))]⟩,
  ⟨some 49, none, none, false, .fa 1 (.t 7)⟩,
  ⟨some 50, none, none, false, .ld1 (.t 49)⟩,
  ⟨some 51, none, none, false, .mov (.t 50)⟩,
  ⟨some 52, some (51, true), none, false, .fa 2 (.t 4)⟩,
  ⟨some 53, some (51, true), none, false, .ld1 (.t 52)⟩,
  ⟨some 54, some (51, true), none, false, .bin .lss 3 true (.t 53) (.v (.int .i64 0))⟩,
  ⟨some 55, some (51, true), none, false, .mov (.t 54)⟩,
  ⟨some 56, some (55, false), none, false, .fa 2 (.t 4)⟩,
  ⟨some 57, some (55, false), none, false, .ld1 (.t 56)⟩,
  ⟨some 58, some (55, false), none, false, .mov (.t 0)⟩,
  ⟨some 59, some (55, false), none, false, .bin .geq 3 false (.t 57) (.t 58)⟩,
  ⟨some 60, some (51, true), none, false, .pick (.t 55) (.v (.bool true)) (.t 59)⟩,
  ⟨some 61, none, none, false, .pick (.t 51) (.t 60) (.v (.bool false))⟩,
  ⟨some 62, none, none, false, .call 116 [(.t 61), (.v (.int .i64 3))]⟩,
  ⟨some 63, none, none, false, .fa 1 (.t 7)⟩,
  ⟨some 64, none, none, false, .ld1 (.t 63)⟩,
  ⟨some 65, none, none, false, .mov (.t 64)⟩,
  ⟨some 66, some (65, true), none, false, .fa 1 (.t 4)⟩,
  ⟨some 67, some (65, true), none, false, .ld1 (.t 66)⟩,
  ⟨some 68, some (65, true), none, false, .fa 2 (.t 4)⟩,
  ⟨some 69, some (65, true), none, false, .ld1 (.t 68)⟩,
  ⟨some 70, some (65, true), none, false, .bin .eql 3 false (.t 67) (.t 69)⟩,
  ⟨some 71, none, none, false, .pick (.t 65) (.t 70) (.v (.bool false))⟩,
  ⟨some 72, none, none, false, .call 116 [(.t 71), (.v (.int .i64 9))]⟩,
  ⟨some 73, none, none, false, .fa 2 (.t 7)⟩,
  ⟨some 74, none, none, false, .ld1 (.t 73)⟩,
  ⟨some 75, none, none, false, .mov (.t 74)⟩,
  ⟨some 76, some (75, true), none, false, .fa 3 (.t 4)⟩,
  ⟨some 77, some (75, true), none, false, .ld1 (.t 76)⟩,
  ⟨some 78, some (75, true), none, false, .call 124 [(.t 77), (.v (.int .i64 1)), (.v (.int .i64 255))]⟩,
  ⟨some 79, some (75, true), none, false, .bin .neq 26 true (.t 78) (.v (.int .i64 0))⟩,
  ⟨some 80, none, none, false, .pick (.t 75) (.t 79) (.v (.bool false))⟩,
  ⟨some 81, none, none, false, .call 116 [(.t 80), (.v (.int .i64 3))]⟩,
  ⟨some 82, none, none, false, .fa 3 (.t 7)⟩,
  ⟨some 83, none, none, false, .ld1 (.t 82)⟩,
  ⟨some 84, none, none, false, .mov (.t 83)⟩,
  ⟨some 85, some (84, true), none, false, .fa 4 (.t 4)⟩,
  ⟨some 86, some (84, true), none, false, .ld1 (.t 85)⟩,
  ⟨some 87, some (84, true), none, false, .call 124 [(.t 86), (.v (.int .i64 1)), (.v (.int .i64 255))]⟩,
  ⟨some 88, some (84, true), none, false, .bin .neq 26 true (.t 87) (.v (.int .i64 0))⟩,
  ⟨some 89, none, none, false, .pick (.t 84) (.t 88) (.v (.bool false))⟩,
  ⟨some 90, none, none, false, .call 116 [(.t 89), (.v (.int .i64 3))]⟩,
  ⟨some 91, none, none, false, .fa 3 (.t 7)⟩,
  ⟨some 92, none, none, false, .ld1 (.t 91)⟩,
  ⟨some 93, none, none, false, .mov (.t 92)⟩,
  ⟨some 94, some (93, true), none, false, .fa 3 (.t 4)⟩,
  ⟨some 95, some (93, true), none, false, .ld1 (.t 94)⟩,
  ⟨some 96, some (93, true), none, false, .fa 4 (.t 4)⟩,
  ⟨some 97, some (93, true), none, false, .ld1 (.t 96)⟩,
  ⟨some 98, some (93, true), none, false, .bin .gtr 3 false (.t 95) (.t 97)⟩,
  ⟨some 99, none, none, false, .pick (.t 93) (.t 98) (.v (.bool false))⟩,
  ⟨some 100, none, none, false, .call 116 [(.t 99), (.v (.int .i64 11))]⟩,
  ⟨some 101, none, some 70, false, .bsl 26 1 7 [(.int .i64 0), (.int .i64 0), (.int .i64 0), (.int .i64 0), (.int .i64 0), (.int .i64 0), (.int .i64 0)] [(0, 1, (.t 34)), (1, 1, (.t 48)), (2, 1, (.t 62)), (3, 1, (.t 72)), (4, 1, (.t 81)), (5, 1, (.t 90)), (6, 1, (.t 100))]⟩,
  ⟨some 102, none, none, false, .call 89 [(.t 101)]⟩,
  ⟨some 10, none, none, false, .mov (.t 102)⟩]) (.seq (.seq (.ops [⟨some 103, none, none, false, .fa 4 (.t 7)⟩,
  ⟨some 104, none, none, false, .ld1 (.t 103)⟩]) (.cond (.t 104) (.ops [⟨some 105, none, none, false, .mov (.t 10)⟩,
  ⟨some 106, none, none, false, .mov (.t 0)⟩,
  ⟨some 107, none, none, false, .fa 5 (.t 4)⟩,
  ⟨some 108, none, none, false, .ld1 (.t 107)⟩,
  ⟨some 109, none, none, false, .call 158 [(.t 106), (.t 108)]⟩,
  ⟨some 110, none, none, false, .bsl 26 1 2 [(.int .i64 0), (.int .i64 0)] [(0, 1, (.t 105)), (1, 1, (.t 109))]⟩,
  ⟨some 111, none, none, false, .call 89 [(.t 110)]⟩,
  ⟨some 10, none, none, false, .mov (.t 111)⟩]) .skip)) (.seq (.seq (.ops [⟨some 112, none, none, false, .mov (.t 10)⟩,
  ⟨some 113, none, none, false, .bin .neq 26 true (.t 112) (.v (.int .i64 0))⟩,
  ⟨some 114, none, none, false, .mov (.t 113)⟩,
  ⟨some 115, some (114, false), none, false, .fa 5 (.t 7)⟩,
  ⟨some 116, some (114, false), none, false, .ld1 (.t 115)⟩,
  ⟨some 117, some (114, false), none, false, .un .not (.t 116)⟩,
  ⟨some 118, none, none, false, .pick (.t 114) (.v (.bool true)) (.t 117)⟩]) (.cond (.t 118) (.seq (.ops [⟨some 119, none, none, false, .mov (.t 10)⟩,
  ⟨some 6, none, none, false, .mov (.t 119)⟩]) .ret) .skip)) (.seq (.seq (.ops [⟨some 120, none, none, false, .fa 0 (.t 4)⟩,
  ⟨some 121, none, none, false, .ld1 (.t 120)⟩,
  ⟨some 122, none, none, false, .bin .eql 9 true (.t 121) (.v (.str [110, 111, 116]))⟩]) (.cond (.t 122) (.ops [⟨some 123, none, none, false, .fa 6 (.t 4)⟩,
  ⟨some 124, none, none, false, .ld1 (.t 123)⟩,
  ⟨some 125, none, none, false, .lenL (.t 124)⟩,
  ⟨some 126, none, none, false, .bin .neq 3 true (.t 125) (.v (.int .i64 1))⟩,
  ⟨some 127, none, none, false, .call 116 [(.t 126), (.v (.int .i64 2))]⟩,
  ⟨some 10, none, none, false, .mov (.t 127)⟩]) (.drw 13 [⟨some 128, none, none, false, .fa 6 (.t 4)⟩,
  ⟨some 129, none, none, false, .ld1 (.t 128)⟩,
  ⟨some 130, none, none, false, .lenL (.t 129)⟩,
  ⟨some 131, none, none, false, .bin .eql 3 true (.t 130) (.v (.int .i64 0))⟩,
  ⟨some 132, none, none, false, .call 116 [(.t 131), (.v (.int .i64 12))]⟩,
  ⟨some 133, none, none, false, .fa 6 (.t 4)⟩,
  ⟨some 134, none, none, false, .ld1 (.t 133)⟩,
  ⟨some 135, none, none, false, .lenL (.t 134)⟩,
  ⟨some 136, none, none, false, .bin .gtr 3 true (.t 135) (.v (.int .i64 8))⟩,
  ⟨some 137, none, none, false, .call 116 [(.t 136), (.v (.int .i64 5))]⟩,
  ⟨some 138, none, some 10, false, .bsl 26 1 2 [(.int .i64 0), (.int .i64 0)] [(0, 1, (.t 132)), (1, 1, (.t 137))]⟩,
  ⟨some 139, none, none, false, .call 89 [(.t 138)]⟩,
  ⟨some 10, none, none, false, .mov (.t 139)⟩]))) (.seq (.seq (.ops [⟨some 140, none, none, false, .fa 6 (.t 4)⟩,
  ⟨some 141, none, none, false, .ld1 (.t 140)⟩,
  ⟨some 142, none, none, false, .lenL (.t 141)⟩,
  ⟨some 143, none, none, false, .mov (.v (.int .i64 0))⟩]) (.block 0 (.loop r90_l0))) (.seq (.ops [⟨some 155, none, none, false, .mov (.t 10)⟩,
  ⟨some 6, none, none, false, .mov (.t 155)⟩]) .ret)))))))))
theorem k90 : fnRC 90 = some ([.tmp 6], r90) := by kernel_rfl

def r64_l0 : RC := (.seq (.ops [⟨some 29, none, none, false, .bin .lss 3 false (.t 28) (.t 27)⟩]) (.seq (.cond (.t 29) .skip (.exit 0)) (.seq (.block 1 (.seq (.ops [⟨some 30, none, none, false, .mov (.t 28)⟩,
  ⟨some 31, none, none, false, .ixa 9 (.t 26) (.t 28)⟩,
  ⟨some 32, none, none, false, .ldn 9 (.t 31)⟩,
  ⟨some 5, none, none, false, .al [(.str []), (.int .i64 0), (.int .i64 0), (.int .i64 0), (.int .i64 0), (.str []), .nils, (.int .i64 0), (.int .i64 0)] 144⟩,
  ⟨some 4, none, none, false, .mov (.t 30)⟩,
  ⟨none, none, none, false, .st 9 (.t 5) (.t 32)⟩]) (.seq (.drw 22 [⟨some 33, none, none, false, .fa 0 (.t 1)⟩,
  ⟨some 34, none, none, false, .ld1 (.t 33)⟩,
  ⟨some 35, none, none, false, .fa 0 (.t 5)⟩,
  ⟨some 36, none, none, false, .ldn 7 (.t 35)⟩,
  ⟨some 37, none, none, false, .call 90 [(.t 34), (.t 36), (.v (.int .i64 1))]⟩,
  ⟨some 38, none, none, false, .fa 7 (.t 5)⟩,
  ⟨some 39, none, none, false, .ld1 (.t 38)⟩,
  ⟨some 40, none, none, false, .call 124 [(.t 39), (.v (.int .i64 1)), (.v (.int .i64 64))]⟩,
  ⟨some 41, none, none, false, .fa 8 (.t 5)⟩,
  ⟨some 42, none, none, false, .ld1 (.t 41)⟩,
  ⟨some 43, none, none, false, .call 124 [(.t 42), (.v (.int .i64 0)), (.v (.int .i64 255))]⟩,
  ⟨some 44, none, none, false, .mov (.t 4)⟩,
  ⟨some 45, none, none, false, .bin .eql 3 true (.t 44) (.v (.int .i64 0))⟩,
  ⟨some 46, none, none, false, .mov (.t 45)⟩,
  ⟨some 47, some (46, true), none, false, .fa 8 (.t 5)⟩,
  ⟨some 48, some (46, true), none, false, .ld1 (.t 47)⟩,
  ⟨some 49, some (46, true), none, false, .bin .neq 3 true (.t 48) (.v (.int .i64 0))⟩,
  ⟨some 50, none, none, false, .pick (.t 46) (.t 49) (.v (.bool false))⟩,
  ⟨some 51, none, none, false, .call 116 [(.t 50), (.v (.int .i64 3))]⟩,
  ⟨some 52, none, some 19, false, .bsl 26 1 4 [(.int .i64 0), (.int .i64 0), (.int .i64 0), (.int .i64 0)] [(0, 1, (.t 37)), (1, 1, (.t 40)), (2, 1, (.t 43)), (3, 1, (.t 51))]⟩,
  ⟨some 53, none, none, false, .call 89 [(.t 52)]⟩,
  ⟨some 6, none, none, false, .mov (.t 53)⟩]) (.seq (.ops [⟨some 54, none, none, false, .mov (.t 6)⟩,
  ⟨some 55, none, none, false, .bin .neq 26 true (.t 54) (.v (.int .i64 0))⟩]) (.cond (.t 55) (.seq (.ops [⟨some 56, none, none, false, .mov (.t 6)⟩,
  ⟨some 2, none, none, false, .mov (.t 56)⟩]) .ret) .skip))))) (.ops [⟨some 57, none, none, false, .bin .add 3 true (.t 28) (.v (.int .i64 1))⟩,
  ⟨some 28, none, none, false, .mov (.t 57)⟩]))))
/-- strobe/trigger.CheckProgram; results .tmp 2 -/
def r64 : RC := (.seq (.ops [⟨some 1, none, none, false, .box 25 (.t 0)⟩,
  ⟨some 2, none, none, false, .mov (.v (.int .i64 0))⟩]) (.seq (.seq (.drw 16 [⟨some 7, none, none, false, .fa 0 (.t 1)⟩,
  ⟨some 8, none, none, false, .ld1 (.t 7)⟩,
  ⟨some 9, none, none, false, .call 88 [(.t 8)]⟩,
  ⟨some 10, none, none, false, .fa 1 (.t 1)⟩,
  ⟨some 11, none, none, false, .ld1 (.t 10)⟩,
  ⟨some 12, none, none, false, .lenL (.t 11)⟩,
  ⟨some 13, none, none, false, .bin .eql 3 true (.t 12) (.v (.int .i64 0))⟩,
  ⟨some 14, none, none, false, .call 116 [(.t 13), (.v (.int .i64 12))]⟩,
  ⟨some 15, none, none, false, .fa 1 (.t 1)⟩,
  ⟨some 16, none, none, false, .ld1 (.t 15)⟩,
  ⟨some 17, none, none, false, .lenL (.t 16)⟩,
  ⟨some 18, none, none, false, .bin .gtr 3 true (.t 17) (.v (.int .i64 8))⟩,
  ⟨some 19, none, none, false, .call 116 [(.t 18), (.v (.int .i64 5))]⟩,
  ⟨some 20, none, some 13, false, .bsl 26 1 3 [(.int .i64 0), (.int .i64 0), (.int .i64 0)] [(0, 1, (.t 9)), (1, 1, (.t 14)), (2, 1, (.t 19))]⟩,
  ⟨some 21, none, none, false, .call 89 [(.t 20)]⟩,
  ⟨some 3, none, none, false, .mov (.t 21)⟩]) (.seq (.ops [⟨some 22, none, none, false, .mov (.t 3)⟩,
  ⟨some 23, none, none, false, .bin .neq 26 true (.t 22) (.v (.int .i64 0))⟩]) (.cond (.t 23) (.seq (.ops [⟨some 24, none, none, false, .mov (.t 3)⟩,
  ⟨some 2, none, none, false, .mov (.t 24)⟩]) .ret) .skip))) (.seq (.seq (.ops [⟨some 25, none, none, false, .fa 1 (.t 1)⟩,
  ⟨some 26, none, none, false, .ld1 (.t 25)⟩,
  ⟨some 27, none, none, false, .lenL (.t 26)⟩,
  ⟨some 28, none, none, false, .mov (.v (.int .i64 0))⟩]) (.block 0 (.loop r64_l0))) (.seq (.ops [⟨some 2, none, none, false, .mov (.v (.int .i64 0))⟩]) .ret))))
theorem k64 : fnRC 64 = some ([.tmp 2], r64) := by kernel_rfl

def r86_l0 : RC := (.seq (.seq (.ops [⟨some 26, none, none, false, .mov (.t 5)⟩,
  ⟨some 27, none, none, false, .fa 6 (.t 2)⟩,
  ⟨some 28, none, none, false, .ld1 (.t 27)⟩,
  ⟨some 29, none, none, false, .lenL (.t 28)⟩,
  ⟨some 30, none, none, false, .bin .lss 3 false (.t 26) (.t 29)⟩]) (.cond (.t 30) .skip (.exit 0))) (.seq (.block 1 (.seq (.ops [⟨some 33, none, none, false, .fa 6 (.t 2)⟩,
  ⟨some 34, none, none, false, .ld1 (.t 33)⟩,
  ⟨some 35, none, none, false, .mov (.t 5)⟩,
  ⟨some 36, none, none, false, .ixa 7 (.t 34) (.t 35)⟩,
  ⟨some 37, none, none, false, .ldn 7 (.t 36)⟩,
  ⟨some 38, none, none, false, .mov (.t 1)⟩,
  ⟨some 39, none, none, false, .bin .add 3 true (.t 38) (.v (.int .i64 1))⟩,
  ⟨some 40, none, none, false, .call 86 [(.t 37), (.t 39)]⟩,
  ⟨some 41, none, none, false, .un .not (.t 40)⟩]) (.cond (.t 41) (.seq (.ops [⟨some 4, none, none, false, .mov (.v (.bool false))⟩]) .ret) .skip))) (.ops [⟨some 31, none, none, false, .mov (.t 5)⟩,
  ⟨some 32, none, none, false, .bin .add 3 true (.t 31) (.v (.int .i64 1))⟩,
  ⟨some 5, none, none, false, .mov (.t 32)⟩])))
/-- strobe/stroberef04.shortCond; results .tmp 4 -/
def r86 : RC := (.seq (.ops [⟨some 2, none, none, false, .box 39 (.t 0)⟩,
  ⟨some 4, none, none, false, .mov (.v (.bool false))⟩]) (.seq (.seq (.ops [⟨some 6, none, none, false, .mov (.t 1)⟩,
  ⟨some 7, none, none, false, .bin .gtr 3 true (.t 6) (.v (.int .i64 6))⟩,
  ⟨some 8, none, none, false, .mov (.t 7)⟩,
  ⟨some 9, some (8, false), none, false, .fa 0 (.t 2)⟩,
  ⟨some 10, some (8, false), none, false, .ld1 (.t 9)⟩,
  ⟨some 11, some (8, false), none, false, .lenS (.t 10)⟩,
  ⟨some 12, some (8, false), none, false, .bin .gtr 3 true (.t 11) (.v (.int .i64 20))⟩,
  ⟨some 13, none, none, false, .pick (.t 8) (.v (.bool true)) (.t 12)⟩,
  ⟨some 14, none, none, false, .mov (.t 13)⟩,
  ⟨some 15, some (14, false), none, false, .fa 5 (.t 2)⟩,
  ⟨some 16, some (14, false), none, false, .ld1 (.t 15)⟩,
  ⟨some 17, some (14, false), none, false, .lenS (.t 16)⟩,
  ⟨some 18, some (14, false), none, false, .bin .gtr 3 true (.t 17) (.v (.int .i64 40))⟩,
  ⟨some 19, none, none, false, .pick (.t 14) (.v (.bool true)) (.t 18)⟩,
  ⟨some 20, none, none, false, .mov (.t 19)⟩,
  ⟨some 21, some (20, false), none, false, .fa 6 (.t 2)⟩,
  ⟨some 22, some (20, false), none, false, .ld1 (.t 21)⟩,
  ⟨some 23, some (20, false), none, false, .lenL (.t 22)⟩,
  ⟨some 24, some (20, false), none, false, .bin .gtr 3 true (.t 23) (.v (.int .i64 10))⟩,
  ⟨some 25, none, none, false, .pick (.t 20) (.v (.bool true)) (.t 24)⟩]) (.cond (.t 25) (.seq (.ops [⟨some 4, none, none, false, .mov (.v (.bool false))⟩]) .ret) .skip)) (.seq (.seq (.ops [⟨some 5, none, none, false, .mov (.v (.int .i64 0))⟩]) (.block 0 (.loop r86_l0))) (.seq (.ops [⟨some 4, none, none, false, .mov (.v (.bool true))⟩]) .ret))))
theorem k86 : fnRC 86 = some ([.tmp 4], r86) := by kernel_rfl

def r87_l0 : RC := (.seq (.seq (.ops [⟨some 5, none, none, false, .mov (.t 4)⟩,
  ⟨some 6, none, none, false, .fa 6 (.t 1)⟩,
  ⟨some 7, none, none, false, .ld1 (.t 6)⟩,
  ⟨some 8, none, none, false, .lenL (.t 7)⟩,
  ⟨some 9, none, none, false, .bin .lss 3 false (.t 5) (.t 8)⟩]) (.cond (.t 9) .skip (.exit 0))) (.seq (.block 1 (.ops [⟨some 12, none, none, false, .mov (.t 3)⟩,
  ⟨some 13, none, none, false, .fa 6 (.t 1)⟩,
  ⟨some 14, none, none, false, .ld1 (.t 13)⟩,
  ⟨some 15, none, none, false, .mov (.t 4)⟩,
  ⟨some 16, none, none, false, .ixa 7 (.t 14) (.t 15)⟩,
  ⟨some 17, none, none, false, .ldn 7 (.t 16)⟩,
  ⟨some 18, none, none, false, .call 87 [(.t 17)]⟩,
  ⟨some 19, none, none, false, .bin .add 3 false (.t 12) (.t 18)⟩,
  ⟨some 3, none, none, false, .mov (.t 19)⟩])) (.ops [⟨some 10, none, none, false, .mov (.t 4)⟩,
  ⟨some 11, none, none, false, .bin .add 3 true (.t 10) (.v (.int .i64 1))⟩,
  ⟨some 4, none, none, false, .mov (.t 11)⟩])))
/-- strobe/stroberef04.leaves; results .tmp 2 -/
def r87 : RC := (.seq (.ops [⟨some 1, none, none, false, .box 39 (.t 0)⟩,
  ⟨some 2, none, none, false, .mov (.v (.int .i64 0))⟩]) (.seq (.ops [⟨some 3, none, none, false, .mov (.v (.int .i64 1))⟩]) (.seq (.seq (.ops [⟨some 4, none, none, false, .mov (.v (.int .i64 0))⟩]) (.block 0 (.loop r87_l0))) (.seq (.ops [⟨some 20, none, none, false, .mov (.t 3)⟩,
  ⟨some 2, none, none, false, .mov (.t 20)⟩]) .ret))))
theorem k87 : fnRC 87 = some ([.tmp 2], r87) := by kernel_rfl

/-- strobe/stroberef04.ShortCond; results .tmp 4 -/
def r21 : RC := (.seq (.ops [⟨some 2, none, none, false, .box 39 (.t 0)⟩,
  ⟨some 4, none, none, false, .mov (.v (.bool false))⟩]) (.seq (.ops [⟨some 5, none, none, false, .ldn 7 (.t 2)⟩,
  ⟨some 6, none, none, false, .call 86 [(.t 5), (.v (.int .i64 1))]⟩,
  ⟨some 7, none, none, false, .mov (.t 6)⟩,
  ⟨some 8, some (7, true), none, false, .ldn 7 (.t 2)⟩,
  ⟨some 9, some (7, true), none, false, .call 87 [(.t 8)]⟩,
  ⟨some 10, some (7, true), none, false, .mov (.t 1)⟩,
  ⟨some 11, some (7, true), none, false, .bin .leq 3 false (.t 9) (.t 10)⟩,
  ⟨some 12, none, none, false, .pick (.t 7) (.t 11) (.v (.bool false))⟩,
  ⟨some 4, none, none, false, .mov (.t 12)⟩]) .ret))
theorem k21 : fnRC 21 = some ([.tmp 4], r21) := by kernel_rfl

def r31_l0 : RC := (.seq (.seq (.ops [⟨some 10, none, none, false, .mov (.t 5)⟩,
  ⟨some 11, none, none, false, .fa 1 (.t 2)⟩,
  ⟨some 12, none, none, false, .ld1 (.t 11)⟩,
  ⟨some 13, none, none, false, .lenL (.t 12)⟩,
  ⟨some 14, none, none, false, .bin .lss 3 false (.t 10) (.t 13)⟩]) (.cond (.t 14) .skip (.exit 0))) (.seq (.block 1 (.seq (.ops [⟨some 17, none, none, false, .fa 1 (.t 2)⟩,
  ⟨some 18, none, none, false, .ld1 (.t 17)⟩,
  ⟨some 19, none, none, false, .mov (.t 5)⟩,
  ⟨some 20, none, none, false, .ixa 9 (.t 18) (.t 19)⟩,
  ⟨some 21, none, none, false, .fa 0 (.t 20)⟩,
  ⟨some 22, none, none, false, .ldn 7 (.t 21)⟩,
  ⟨some 23, none, none, false, .mov (.t 1)⟩,
  ⟨some 24, none, none, false, .call 21 [(.t 22), (.t 23)]⟩,
  ⟨some 25, none, none, false, .un .not (.t 24)⟩]) (.cond (.t 25) (.seq (.ops [⟨some 4, none, none, false, .mov (.v (.bool false))⟩]) .ret) .skip))) (.ops [⟨some 15, none, none, false, .mov (.t 5)⟩,
  ⟨some 16, none, none, false, .bin .add 3 true (.t 15) (.v (.int .i64 1))⟩,
  ⟨some 5, none, none, false, .mov (.t 16)⟩])))
/-- strobe/stroberef04.Short; results .tmp 4 -/
def r31 : RC := (.seq (.ops [⟨some 2, none, none, false, .box 31 (.t 0)⟩,
  ⟨some 4, none, none, false, .mov (.v (.bool false))⟩]) (.seq (.seq (.ops [⟨some 6, none, none, false, .fa 1 (.t 2)⟩,
  ⟨some 7, none, none, false, .ld1 (.t 6)⟩,
  ⟨some 8, none, none, false, .lenL (.t 7)⟩,
  ⟨some 9, none, none, false, .bin .gtr 3 true (.t 8) (.v (.int .i64 10))⟩]) (.cond (.t 9) (.seq (.ops [⟨some 4, none, none, false, .mov (.v (.bool false))⟩]) .ret) .skip)) (.seq (.seq (.ops [⟨some 5, none, none, false, .mov (.v (.int .i64 0))⟩]) (.block 0 (.loop r31_l0))) (.seq (.ops [⟨some 4, none, none, false, .mov (.v (.bool true))⟩]) .ret))))
theorem k31 : fnRC 31 = some ([.tmp 4], r31) := by kernel_rfl

def r24_l0 : RC := (.seq (.seq (.ops [⟨some 18, none, none, false, .mov (.t 4)⟩,
  ⟨some 19, none, none, false, .fa 6 (.t 1)⟩,
  ⟨some 20, none, none, false, .ld1 (.t 19)⟩,
  ⟨some 21, none, none, false, .lenL (.t 20)⟩,
  ⟨some 22, none, none, false, .bin .lss 3 false (.t 18) (.t 21)⟩]) (.cond (.t 22) .skip (.exit 0))) (.seq (.block 1 (.drw 12 [⟨some 25, none, none, false, .fa 6 (.t 3)⟩,
  ⟨some 26, none, none, false, .ld1 (.t 25)⟩,
  ⟨some 27, none, none, false, .fa 6 (.t 1)⟩,
  ⟨some 28, none, none, false, .ld1 (.t 27)⟩,
  ⟨some 29, none, none, false, .mov (.t 4)⟩,
  ⟨some 30, none, none, false, .ixa 7 (.t 28) (.t 29)⟩,
  ⟨some 31, none, none, false, .ldn 7 (.t 30)⟩,
  ⟨some 32, none, none, false, .call 24 [(.t 31)]⟩,
  ⟨some 33, none, some 8, false, .bsl 48 7 1 [(.str []), (.int .i64 0), (.int .i64 0), (.int .i64 0), (.int .i64 0), (.str []), .nils] [(0, 7, (.t 32))]⟩,
  ⟨some 34, none, none, true, .app 48 7 88 (.t 26) (.t 33)⟩,
  ⟨some 35, none, none, false, .fa 6 (.t 3)⟩,
  ⟨none, none, none, true, .st 1 (.t 35) (.t 34)⟩])) (.ops [⟨some 23, none, none, false, .mov (.t 4)⟩,
  ⟨some 24, none, none, false, .bin .add 3 true (.t 23) (.v (.int .i64 1))⟩,
  ⟨some 4, none, none, false, .mov (.t 24)⟩])))
/-- strobe/strobelaw04.condBack; results .cell 2 48 -/
def r24 : RC := (.seq (.ops [⟨some 1, none, none, false, .box 39 (.t 0)⟩,
  ⟨some 2, none, none, false, .al [(.str []), (.int .i64 0), (.int .i64 0), (.int .i64 0), (.int .i64 0), (.str []), .nils] 48⟩]) (.seq (.ops [⟨some 5, none, none, false, .fa 0 (.t 1)⟩,
  ⟨some 6, none, none, false, .ld1 (.t 5)⟩,
  ⟨some 7, none, none, false, .fa 1 (.t 1)⟩,
  ⟨some 8, none, none, false, .ld1 (.t 7)⟩,
  ⟨some 9, none, none, false, .fa 2 (.t 1)⟩,
  ⟨some 10, none, none, false, .ld1 (.t 9)⟩,
  ⟨some 11, none, none, false, .fa 3 (.t 1)⟩,
  ⟨some 12, none, none, false, .ld1 (.t 11)⟩,
  ⟨some 13, none, none, false, .fa 4 (.t 1)⟩,
  ⟨some 14, none, none, false, .ld1 (.t 13)⟩,
  ⟨some 15, none, none, false, .fa 5 (.t 1)⟩,
  ⟨some 16, none, none, false, .ld1 (.t 15)⟩,
  ⟨some 17, none, none, false, .bld [(.str []), (.int .i64 0), (.int .i64 0), (.int .i64 0), (.int .i64 0), (.str []), .nils] [(0, 1, (.t 6)), (1, 1, (.t 8)), (2, 1, (.t 10)), (3, 1, (.t 12)), (4, 1, (.t 14)), (5, 1, (.t 16))]⟩,
  ⟨some 3, none, none, false, .al [(.str []), (.int .i64 0), (.int .i64 0), (.int .i64 0), (.int .i64 0), (.str []), .nils] 48⟩,
  ⟨none, none, none, false, .st 7 (.t 3) (.t 17)⟩]) (.seq (.seq (.ops [⟨some 4, none, none, false, .mov (.v (.int .i64 0))⟩]) (.block 0 (.loop r24_l0))) (.seq (.ops [⟨some 36, none, none, false, .ldn 7 (.t 3)⟩,
  ⟨none, none, none, false, .st 7 (.t 2) (.t 36)⟩]) .ret))))
theorem k24 : fnRC 24 = some ([.cell 2 48], r24) := by kernel_rfl

def r33_l0 : RC := (.seq (.seq (.ops [⟨some 8, none, none, false, .mov (.t 4)⟩,
  ⟨some 9, none, none, false, .fa 1 (.t 1)⟩,
  ⟨some 10, none, none, false, .ld1 (.t 9)⟩,
  ⟨some 11, none, none, false, .lenL (.t 10)⟩,
  ⟨some 12, none, none, false, .bin .lss 3 false (.t 8) (.t 11)⟩]) (.cond (.t 12) .skip (.exit 0))) (.seq (.block 1 (.drw 26 [⟨some 15, none, none, false, .fa 1 (.t 3)⟩,
  ⟨some 16, none, none, false, .ld1 (.t 15)⟩,
  ⟨some 17, none, none, false, .fa 1 (.t 1)⟩,
  ⟨some 18, none, none, false, .ld1 (.t 17)⟩,
  ⟨some 19, none, none, false, .mov (.t 4)⟩,
  ⟨some 20, none, none, false, .ixa 9 (.t 18) (.t 19)⟩,
  ⟨some 21, none, none, false, .fa 0 (.t 20)⟩,
  ⟨some 22, none, none, false, .ldn 7 (.t 21)⟩,
  ⟨some 23, none, none, false, .call 24 [(.t 22)]⟩,
  ⟨some 24, none, none, false, .fa 1 (.t 1)⟩,
  ⟨some 25, none, none, false, .ld1 (.t 24)⟩,
  ⟨some 26, none, none, false, .mov (.t 4)⟩,
  ⟨some 27, none, none, false, .ixa 9 (.t 25) (.t 26)⟩,
  ⟨some 28, none, none, false, .fa 7 (.t 27)⟩,
  ⟨some 29, none, none, false, .ld1 (.t 28)⟩,
  ⟨some 30, none, none, false, .fa 1 (.t 1)⟩,
  ⟨some 31, none, none, false, .ld1 (.t 30)⟩,
  ⟨some 32, none, none, false, .mov (.t 4)⟩,
  ⟨some 33, none, none, false, .ixa 9 (.t 31) (.t 32)⟩,
  ⟨some 34, none, none, false, .fa 8 (.t 33)⟩,
  ⟨some 35, none, none, false, .ld1 (.t 34)⟩,
  ⟨some 36, none, none, false, .bld [(.str []), (.int .i64 0), (.int .i64 0), (.int .i64 0), (.int .i64 0), (.str []), .nils, (.int .i64 0), (.int .i64 0)] [(0, 7, (.t 23)), (7, 1, (.t 29)), (8, 1, (.t 35))]⟩,
  ⟨some 37, none, some 22, false, .bsl 144 9 1 [(.str []), (.int .i64 0), (.int .i64 0), (.int .i64 0), (.int .i64 0), (.str []), .nils, (.int .i64 0), (.int .i64 0)] [(0, 9, (.t 36))]⟩,
  ⟨some 38, none, none, true, .app 144 9 104 (.t 16) (.t 37)⟩,
  ⟨some 39, none, none, false, .fa 1 (.t 3)⟩,
  ⟨none, none, none, true, .st 1 (.t 39) (.t 38)⟩])) (.ops [⟨some 13, none, none, false, .mov (.t 4)⟩,
  ⟨some 14, none, none, false, .bin .add 3 true (.t 13) (.v (.int .i64 1))⟩,
  ⟨some 4, none, none, false, .mov (.t 14)⟩])))
/-- strobe/strobelaw04.back; results .cell 2 25 -/
def r33 : RC := (.seq (.ops [⟨some 1, none, none, false, .box 31 (.t 0)⟩,
  ⟨some 2, none, none, false, .al [(.int .i64 0), .nils] 25⟩]) (.seq (.ops [⟨some 5, none, none, false, .fa 0 (.t 1)⟩,
  ⟨some 6, none, none, false, .ld1 (.t 5)⟩,
  ⟨some 7, none, none, false, .bld [(.int .i64 0), .nils] [(0, 1, (.t 6))]⟩,
  ⟨some 3, none, none, false, .al [(.int .i64 0), .nils] 25⟩,
  ⟨none, none, none, false, .st 2 (.t 3) (.t 7)⟩]) (.seq (.seq (.ops [⟨some 4, none, none, false, .mov (.v (.int .i64 0))⟩]) (.block 0 (.loop r33_l0))) (.seq (.ops [⟨some 40, none, none, false, .ldn 2 (.t 3)⟩,
  ⟨none, none, none, false, .st 2 (.t 2) (.t 40)⟩]) .ret))))
theorem k33 : fnRC 33 = some ([.cell 2 25], r33) := by kernel_rfl

end Go.Am

set_option linter.all false
namespace Go.Am
open Go Go.Proofs
variable [MaxLen]
set_option maxRecDepth 100000
theorem ld_25 (a : AV) (s : St) : loadA U 25 a s = ldn 2 a s := loadA_n U ag_25 sz_25 a s
theorem ld_31 (a : AV) (s : St) : loadA U 31 a s = ldn 2 a s := loadA_n U ag_31 sz_31 a s
theorem ld_39 (a : AV) (s : St) : loadA U 39 a s = ldn 7 a s := loadA_n U ag_39 sz_39 a s
theorem ld_48 (a : AV) (s : St) : loadA U 48 a s = ldn 7 a s := loadA_n U ag_48 sz_48 a s
theorem ld_69 (a : AV) (s : St) : loadA U 69 a s = ldn 3 a s := loadA_n U ag_69 sz_69 a s
theorem ld_72 (a : AV) (s : St) : loadA U 72 a s = ldn 3 a s := loadA_n U ag_72 sz_72 a s
theorem ld_116 (a : AV) (s : St) : loadA U 116 a s = ldn 2 a s := loadA_n U ag_116 sz_116 a s
theorem ag_131 : isAggT U 131 = some true := by kernel_rfl
theorem sz_131 : size U 131 = some 2 := by kernel_rfl
theorem ld_131 (a : AV) (s : St) : loadA U 131 a s = ldn 2 a s := loadA_n U ag_131 sz_131 a s
theorem ld_152 (a : AV) (s : St) : loadA U 152 a s = ldn 3 a s := loadA_n U ag_152 sz_152 a s
theorem ag_160 : isAggT U 160 = some true := by kernel_rfl
theorem sz_160 : size U 160 = some 6 := by kernel_rfl
theorem ld_160 (a : AV) (s : St) : loadA U 160 a s = ldn 6 a s := loadA_n U ag_160 sz_160 a s
theorem ag_167 : isAggT U 167 = some true := by kernel_rfl
theorem sz_167 : size U 167 = some 3 := by kernel_rfl
theorem ld_167 (a : AV) (s : St) : loadA U 167 a s = ldn 3 a s := loadA_n U ag_167 sz_167 a s
theorem ld_176 (a : AV) (s : St) : loadA U 176 a s = ldn 5 a s := loadA_n U ag_176 sz_176 a s
theorem ag_305 : isAggT U 305 = some true := by kernel_rfl
theorem sz_305 : size U 305 = some 256 := by kernel_rfl
theorem ld_305 (a : AV) (s : St) : loadA U 305 a s = ldn 256 a s := loadA_n U ag_305 sz_305 a s
theorem gateV_false (x : Option AV) (s : St) : gateV false x s = some (undef, s) := (fun h => h) rfl
theorem gateC_false (X : Cx) (x : Option AV) (f : FuncId) (args : List AV) (s : St) : gateC X false x f args s = some (undef, s) := (fun h => h) rfl
theorem gateV_true (x : Option AV) (s : St) : gateV true x s = pureO x s := (fun h => h) rfl
theorem gateC_true (X : Cx) (x : Option AV) (f : FuncId) (args : List AV) (s : St) : gateC X true x f args s = callK X x f args s := (fun h => h) rfl
def St.upto (s : St) (k : Nat) : St := { s with next := k }
theorem upto_get (s : St) (k j : Nat) : (s.upto k).get j = s.get j := (fun h => h) rfl
theorem upto_next (s : St) (k : Nat) : (s.upto k).next = k := (fun h => h) rfl
theorem go_drw_upto {X : Cx} {β : Type} (fin : Fl → β) (ks : List K) (e : Env) (s : St) (n : Nat) (l : List RO) : go X fin ks (.drw n l) e s = bif noneR s.next s l then goD' X fin ks s.next l e (s.upto (s.next + n)) else stuck X fin ks := go_drw X fin ks e s n l
theorem gb_none {n : Nat} (h : 4 ≤ n) : U.gbase n = none := by
  rw [U_gbase]; unfold gbU gcell
  match n, h with
  | n + 4, _ => rfl
/-- no block stands yet from the counter on -/
def Fr (s : St) : Prop := ∀ j, s.next ≤ j → s.get j = none
theorem Fr.at {s : St} (h : Fr s) (k : Nat) : s.get (s.next + k) = none := h _ (by omega)
theorem Fr.own : Fr (ownSt U) := fun j hj => by
  rw [own_get]; rw [own_next, U_glob] at hj; exact gb_none (by omega)
theorem Fr.new {s : St} (h : Fr s) (x : Blk) : Fr (s.new x) := fun j hj => by
  rw [next_new] at hj; rw [get_new, if_neg (by omega)]; exact h j (by omega)
theorem Fr.put {s : St} (h : Fr s) {k : Nat} (hk : k < s.next) (x : Blk) : Fr (s.put k x) := fun j hj => by
  rw [next_put] at hj; rw [get_put, if_neg (by omega)]; exact h j (by omega)
theorem Fr.upto {s : St} (h : Fr s) {k : Nat} (hk : s.next ≤ k) : Fr (s.upto k) := fun j hj => by
  rw [upto_next] at hj; rw [upto_get]; exact h j (by omega)
attribute [go_sem ↓ high] go_drw_upto
attribute [go_sem ↓] upto_get upto_next
attribute [go_sem] gb_none Option.isNone_none
attribute [go_sem ↓] gateV_false gateC_false gateV_true gateC_true
attribute [go_sem] ld_25 ld_31 ld_39 ld_48 ld_69 ld_72 ld_116 ag_131 sz_131 ld_131 ld_152 ag_160 sz_160 ld_160 ag_167 sz_167 ld_167 ld_176 ag_305 sz_305 ld_305
end Go.Am

set_option linter.unusedVariables false
namespace Go.Am
open Go

/-! # The kinds of conditions -/

inductive Kd where
  | high | low | rise | fall | pattern | enter | pulse | gap | idle | setup | runt | not_ | all_ | any_ | other
  deriving DecidableEq

def kdStr : Kd → Str
  | .high => [104, 105, 103, 104]
  | .low => [108, 111, 119]
  | .rise => [114, 105, 115, 101]
  | .fall => [102, 97, 108, 108]
  | .pattern => [112, 97, 116, 116, 101, 114, 110]
  | .enter => [101, 110, 116, 101, 114]
  | .pulse => [112, 117, 108, 115, 101]
  | .gap => [103, 97, 112]
  | .idle => [105, 100, 108, 101]
  | .setup => [115, 101, 116, 117, 112]
  | .runt => [114, 117, 110, 116]
  | .not_ => [110, 111, 116]
  | .all_ => [97, 108, 108]
  | .any_ => [97, 110, 121]
  | .other => []

def kdOf (k : Str) : Kd :=
  br (k == [104, 105, 103, 104]) .high <|
  br (k == [108, 111, 119]) .low <|
  br (k == [114, 105, 115, 101]) .rise <|
  br (k == [102, 97, 108, 108]) .fall <|
  br (k == [112, 97, 116, 116, 101, 114, 110]) .pattern <|
  br (k == [101, 110, 116, 101, 114]) .enter <|
  br (k == [112, 117, 108, 115, 101]) .pulse <|
  br (k == [103, 97, 112]) .gap <|
  br (k == [105, 100, 108, 101]) .idle <|
  br (k == [115, 101, 116, 117, 112]) .setup <|
  br (k == [114, 117, 110, 116]) .runt <|
  br (k == [110, 111, 116]) .not_ <|
  br (k == [97, 108, 108]) .all_ <|
  br (k == [97, 110, 121]) .any_ <|
  .other

structure Uses where
  a : Bool
  b : Bool
  mi : Bool
  ma : Bool
  pat : Bool
  kids : Bool
def usesOf : Kd → Uses
  | .high | .low | .rise | .fall => ⟨true, false, false, false, false, false⟩
  | .pattern | .enter => ⟨false, false, false, false, true, false⟩
  | .pulse | .gap => ⟨true, false, true, true, false, false⟩
  | .idle => ⟨true, false, true, false, false, false⟩
  | .setup => ⟨true, true, true, false, false, false⟩
  | .runt => ⟨true, true, false, false, false, false⟩
  | .not_ | .all_ | .any_ => ⟨false, false, false, false, false, true⟩
  | .other => ⟨false, false, false, false, false, false⟩
def Kd.known : Kd → Bool
  | .other => false
  | _ => true

/-- what is known of a kind's name -/
def kdFacts (k : Str) (d : Kd) : Prop := kdOf k = d ∧ (k == [104, 105, 103, 104]) = decide (d = .high) ∧ (k == [108, 111, 119]) = decide (d = .low) ∧ (k == [114, 105, 115, 101]) = decide (d = .rise) ∧ (k == [102, 97, 108, 108]) = decide (d = .fall) ∧ (k == [112, 97, 116, 116, 101, 114, 110]) = decide (d = .pattern) ∧ (k == [101, 110, 116, 101, 114]) = decide (d = .enter) ∧ (k == [112, 117, 108, 115, 101]) = decide (d = .pulse) ∧ (k == [103, 97, 112]) = decide (d = .gap) ∧ (k == [105, 100, 108, 101]) = decide (d = .idle) ∧ (k == [115, 101, 116, 117, 112]) = decide (d = .setup) ∧ (k == [114, 117, 110, 116]) = decide (d = .runt) ∧ (k == [110, 111, 116]) = decide (d = .not_) ∧ (k == [97, 108, 108]) = decide (d = .all_) ∧ (k == [97, 110, 121]) = decide (d = .any_)
theorem kd_facts (k : Str) : kdFacts k (kdOf k) := by
  by_cases e0 : k = [104, 105, 103, 104]
  · subst e0; exact ⟨rfl, rfl, rfl, rfl, rfl, rfl, rfl, rfl, rfl, rfl, rfl, rfl, rfl, rfl, rfl⟩
  by_cases e1 : k = [108, 111, 119]
  · subst e1; exact ⟨rfl, rfl, rfl, rfl, rfl, rfl, rfl, rfl, rfl, rfl, rfl, rfl, rfl, rfl, rfl⟩
  by_cases e2 : k = [114, 105, 115, 101]
  · subst e2; exact ⟨rfl, rfl, rfl, rfl, rfl, rfl, rfl, rfl, rfl, rfl, rfl, rfl, rfl, rfl, rfl⟩
  by_cases e3 : k = [102, 97, 108, 108]
  · subst e3; exact ⟨rfl, rfl, rfl, rfl, rfl, rfl, rfl, rfl, rfl, rfl, rfl, rfl, rfl, rfl, rfl⟩
  by_cases e4 : k = [112, 97, 116, 116, 101, 114, 110]
  · subst e4; exact ⟨rfl, rfl, rfl, rfl, rfl, rfl, rfl, rfl, rfl, rfl, rfl, rfl, rfl, rfl, rfl⟩
  by_cases e5 : k = [101, 110, 116, 101, 114]
  · subst e5; exact ⟨rfl, rfl, rfl, rfl, rfl, rfl, rfl, rfl, rfl, rfl, rfl, rfl, rfl, rfl, rfl⟩
  by_cases e6 : k = [112, 117, 108, 115, 101]
  · subst e6; exact ⟨rfl, rfl, rfl, rfl, rfl, rfl, rfl, rfl, rfl, rfl, rfl, rfl, rfl, rfl, rfl⟩
  by_cases e7 : k = [103, 97, 112]
  · subst e7; exact ⟨rfl, rfl, rfl, rfl, rfl, rfl, rfl, rfl, rfl, rfl, rfl, rfl, rfl, rfl, rfl⟩
  by_cases e8 : k = [105, 100, 108, 101]
  · subst e8; exact ⟨rfl, rfl, rfl, rfl, rfl, rfl, rfl, rfl, rfl, rfl, rfl, rfl, rfl, rfl, rfl⟩
  by_cases e9 : k = [115, 101, 116, 117, 112]
  · subst e9; exact ⟨rfl, rfl, rfl, rfl, rfl, rfl, rfl, rfl, rfl, rfl, rfl, rfl, rfl, rfl, rfl⟩
  by_cases e10 : k = [114, 117, 110, 116]
  · subst e10; exact ⟨rfl, rfl, rfl, rfl, rfl, rfl, rfl, rfl, rfl, rfl, rfl, rfl, rfl, rfl, rfl⟩
  by_cases e11 : k = [110, 111, 116]
  · subst e11; exact ⟨rfl, rfl, rfl, rfl, rfl, rfl, rfl, rfl, rfl, rfl, rfl, rfl, rfl, rfl, rfl⟩
  by_cases e12 : k = [97, 108, 108]
  · subst e12; exact ⟨rfl, rfl, rfl, rfl, rfl, rfl, rfl, rfl, rfl, rfl, rfl, rfl, rfl, rfl, rfl⟩
  by_cases e13 : k = [97, 110, 121]
  · subst e13; exact ⟨rfl, rfl, rfl, rfl, rfl, rfl, rfl, rfl, rfl, rfl, rfl, rfl, rfl, rfl, rfl⟩
  have f0 : (k == [104, 105, 103, 104]) = false := beq_eq_false_iff_ne.2 e0
  have f1 : (k == [108, 111, 119]) = false := beq_eq_false_iff_ne.2 e1
  have f2 : (k == [114, 105, 115, 101]) = false := beq_eq_false_iff_ne.2 e2
  have f3 : (k == [102, 97, 108, 108]) = false := beq_eq_false_iff_ne.2 e3
  have f4 : (k == [112, 97, 116, 116, 101, 114, 110]) = false := beq_eq_false_iff_ne.2 e4
  have f5 : (k == [101, 110, 116, 101, 114]) = false := beq_eq_false_iff_ne.2 e5
  have f6 : (k == [112, 117, 108, 115, 101]) = false := beq_eq_false_iff_ne.2 e6
  have f7 : (k == [103, 97, 112]) = false := beq_eq_false_iff_ne.2 e7
  have f8 : (k == [105, 100, 108, 101]) = false := beq_eq_false_iff_ne.2 e8
  have f9 : (k == [115, 101, 116, 117, 112]) = false := beq_eq_false_iff_ne.2 e9
  have f10 : (k == [114, 117, 110, 116]) = false := beq_eq_false_iff_ne.2 e10
  have f11 : (k == [110, 111, 116]) = false := beq_eq_false_iff_ne.2 e11
  have f12 : (k == [97, 108, 108]) = false := beq_eq_false_iff_ne.2 e12
  have f13 : (k == [97, 110, 121]) = false := beq_eq_false_iff_ne.2 e13
  have hk : kdOf k = .other := by simp only [kdOf, f0, f1, f2, f3, f4, f5, f6, f7, f8, f9, f10, f11, f12, f13, br_false]
  rw [hk]
  exact ⟨hk, f0, f1, f2, f3, f4, f5, f6, f7, f8, f9, f10, f11, f12, f13⟩
/-- one of the kinds, or none of them -/
theorem kd_cases (k : Str) {P : Prop} (h : ∀ d, kdFacts k d → P) : P := h _ (kd_facts k)
end Go.Am

set_option linter.unusedVariables false
set_option linter.unusedSimpArgs false
namespace Go.Am
open Go

/-! # What the two checks of a condition compute, and that they agree -/

def outside (n a b : Int) : Bool := decide (n < a) || decide (n > b)
def badPat (s : Str) (lines : Int) : Bool := (s.length : Int) != lines || s.any fun c => c != 48 && c != 49 && c != 120

mutual
def ckR (lines : Int) : Cond → Int → Int
  | .mk kind a b mi ma pat nl kids, depth =>
    let u := usesOf (kdOf kind)
    let len : Int := kids.length
    br (decide (depth > 4)) 5 <|
    br (!(kdOf kind).known) 13 <|
    br (!u.a && a != 0 || !u.b && b != 0 || !u.mi && mi != 0 || !u.ma && ma != 0 || !u.pat && !pat == [] || !u.kids && decide (len > 0)) 2 <|
    br (u.a && outside a 0 (IntKind.i64.wrap (lines - 1)) || u.b && outside b 0 (IntKind.i64.wrap (lines - 1))) 3 <|
    br (u.b && a == b) 9 <|
    br (u.mi && outside mi 1 255 || u.ma && outside ma 1 255) 3 <|
    br (u.ma && decide (mi > ma)) 11 <|
    br (u.pat && badPat pat lines) 1 <|
    br (kind == [110, 111, 116] && len != 1) 2 <|
    br (u.kids && len == 0) 12 <|
    br (u.kids && decide (len > 8)) 5 <|
    ckRL lines kids (IntKind.i64.wrap (depth + 1))
def ckRL (lines : Int) : List Cond → Int → Int
  | [], _ => 0
  | c :: l, depth => br (ckR lines c depth != 0) (ckR lines c depth) (ckRL lines l depth)
end

def firstOf : List Int → Int
  | [] => 0
  | e :: l => br (e != 0) e (firstOf l)
def within (n a b : Int) : Int := br (decide (n < a) || decide (n > b)) 3 0
def checkPat (lines : Int) (pat : Str) : Int := br (badPat pat lines) 1 0

mutual
def ckP (lines : Int) : Cond → Int → Int
  | .mk kind a b mi ma pat nl kids, depth =>
    let u := usesOf (kdOf kind)
    let len : Int := kids.length
    let e0 := firstOf [br (decide (depth > 4)) 5 0, br (!(kdOf kind).known) 13 0]
    let e1 := firstOf [br (!u.a && a != 0 || !u.b && b != 0 || !u.mi && mi != 0 || !u.ma && ma != 0 || !u.pat && !pat == [] || !u.kids && decide (len > 0)) 2 0,
      br (u.a && (decide (a < 0) || decide (a ≥ lines))) 3 0, br (u.b && (decide (b < 0) || decide (b ≥ lines))) 3 0, br (u.b && a == b) 9 0,
      br (u.mi && within mi 1 255 != 0) 3 0, br (u.ma && within ma 1 255 != 0) 3 0, br (u.ma && decide (mi > ma)) 11 0]
    let e2 := br u.pat (firstOf [e1, checkPat lines pat]) e1
    let e3 := br (kind == [110, 111, 116]) (br (len != 1) 2 0) (firstOf [br (len == 0) 12 0, br (decide (len > 8)) 5 0])
    br (e0 != 0) e0 <| br (e2 != 0 || !u.kids) e2 <| ckPL lines kids (IntKind.i64.wrap (depth + 1)) e3
def ckPL (lines : Int) : List Cond → Int → Int → Int
  | [], _, e => e
  | c :: l, depth, e => ckPL lines l depth (br (e == 0) (ckP lines c depth) e)
end

theorem ckPL_bad (lines depth : Int) : ∀ (l : List Cond) (e : Int), e ≠ 0 → ckPL lines l depth e = e
  | [], e, h => by simp [ckPL]
  | c :: l, e, h => by
    have : (e == 0) = false := by simp [h]
    rw [ckPL, this, br_false, ckPL_bad lines depth l e h]

theorem first_br {p : Bool} {e : Int} {l : List Int} (h : (e != 0) = true) : firstOf (br p e 0 :: l) = br p e (firstOf l) := by
  cases p
  · rfl
  · rw [firstOf, br_true, h, br_true]
theorem first_nil : firstOf [] = 0 := rfl
theorem first_nest {p : Bool} {e x : Int} {l : List Int} (h : (e != 0) = true) : firstOf (br p e x :: l) = br p e (firstOf (x :: l)) := by
  cases p
  · rfl
  · rw [br_true, br_true, firstOf, h, br_true]
theorem first_zero (l : List Int) : firstOf (0 :: l) = firstOf l := rfl
theorem first_first (m : List Int) : ∀ l : List Int, firstOf (firstOf l :: m) = firstOf (l ++ m)
  | [] => rfl
  | e :: l => by
    rw [List.cons_append, firstOf, firstOf, firstOf, ← first_first m l]
    cases h : e != 0
    · rw [br_false, br_false, firstOf]
    · rw [br_true, br_true, h, br_true]
theorem first_one (e : Int) : firstOf [e] = e := by
  rw [firstOf, first_nil]
  cases h : e != 0
  · have : e = 0 := by simpa using h
    rw [this]; rfl
  · rfl
theorem br_push (F : Int → Int) (hF : ∀ e, e ≠ 0 → F e = e) {p : Bool} {e x : Int} (h : (e != 0) = true) : F (br p e x) = br p e (F x) := by
  cases p
  · rfl
  · rw [br_true, br_true]; exact hF _ (by simpa using h)
theorem br_nest {p : Bool} {e : Int} {x y : Int} (h : (e != 0) = true) : br (br p e x != 0) (br p e x) y = br p e (br (x != 0) x y) := by
  cases p
  · rfl
  · rw [br_true, br_true, h, br_true]
theorem br_or {β : Type} (p q : Bool) (x y : β) : br (p || q) x y = br p x (br q x y) := by cases p <;> cases q <;> rfl
theorem br_r {β : Type} {p : Bool} {x y y' : β} (h : p = false → y = y') : br p x y = br p x y' := by
  cases p
  · rw [h rfl]
  · rfl
theorem kdOf_not (k : Str) : (k == [110, 111, 116]) = decide (kdOf k = .not_) := by
  obtain ⟨h0, h1, h2, h3, h4, h5, h6, h7, h8, h9, h10, h11, h12, h13, h14⟩ := kd_facts k
  exact h12

mutual
theorem ck_eq (lines : Int) (hl : 1 ≤ lines) (hl' : lines ≤ 16) : ∀ (c : Cond) (depth : Int), ckP lines c depth = ckR lines c depth
  | .mk kind a b mi ma pat nl kids, depth => by
    have ih := ckL_eq lines hl hl' kids (IntKind.i64.wrap (depth + 1))
    have hw : IntKind.i64.wrap (lines - 1) = lines - 1 := wrap_i64 (by omega) (by omega)
    have ho : ∀ x : Int, outside x 0 (lines - 1) = (decide (x < 0) || decide (x ≥ lines)) := fun x => by
      have : (x > lines - 1) = (x ≥ lines) := by apply propext; omega
      simp only [outside, this]
    rw [ckP, ckR]
    simp only [hw, ho, kdOf_not, ← ih]
    have hF := ckPL_bad lines (IntKind.i64.wrap (depth + 1)) kids
    have hF0 : decide ((kids.length : Int) > 0) = false → 0 = ckPL lines kids (IntKind.i64.wrap (depth + 1)) 0 := fun h => by
      have : kids = [] := by
        cases kids with
        | nil => rfl
        | cons c l => simp at h
      rw [this, ckPL]
    generalize ckPL lines kids (IntKind.i64.wrap (depth + 1)) = F at hF hF0
    generalize (decide (a < 0) || decide (a ≥ lines)) = oa
    generalize (decide (b < 0) || decide (b ≥ lines)) = ob
    have hmi : outside mi 1 255 = (within mi 1 255 != 0) := by rw [within, outside]; cases decide (mi < 1) || decide (mi > 255) <;> rfl
    have hma : outside ma 1 255 = (within ma 1 255 != 0) := by rw [within, outside]; cases decide (ma < 1) || decide (ma > 255) <;> rfl
    rw [hmi, hma]
    generalize hK : kdOf kind = K
    cases K <;> simp (decide := true) only [usesOf, Kd.known, Bool.not_true, Bool.not_false, Bool.true_and, Bool.false_and, Bool.false_or, Bool.or_false, Bool.true_or, Bool.or_true, br_false, br_true, first_nest, first_zero, first_first, List.cons_append, List.nil_append, first_nil, br_nest, br_push F hF, bne_self_eq_false, br_or, checkPat, decide_true, decide_false, reduceCtorEq]
    all_goals repeat' (refine br_r fun _ => ?_)
    all_goals first | rfl | (apply hF0; assumption) | skip
    rename_i hlen
    have hlen : (kids.length : Int) = 1 := by simpa using hlen
    rw [hlen]; rfl
theorem ckL_eq (lines : Int) (hl : 1 ≤ lines) (hl' : lines ≤ 16) : ∀ (l : List Cond) (depth : Int), ckPL lines l depth 0 = ckRL lines l depth
  | [], _ => by simp [ckPL, ckRL]
  | c :: l, depth => by
    have ih := ckL_eq lines hl hl' l depth
    rw [ckPL, ckRL, ck_eq lines hl hl' c depth]
    simp only [BEq.rfl, br_true]
    cases h : ckR lines c depth != 0
    · have : ckR lines c depth = 0 := by simpa using h
      rw [br_false, this, ih]
    · rw [br_true, ckPL_bad]
      simpa using h
end
end Go.Am

set_option linter.all false
namespace Go.Am
open Go
variable [MaxLen]
set_option maxRecDepth 100000
set_option maxHeartbeats 4000000

/-! # Contracts: checks of conditions and programs -/

theorem br_int (k : IntKind) (p : Bool) (x y : Int) : br p (AV.int k x) (AV.int k y) = .int k (br p x y) := by cases p <;> rfl
theorem br_bool (p x y : Bool) : br p (AV.bool x) (AV.bool y) = .bool (br p x y) := by cases p <;> rfl
theorem br_str (p : Bool) (x y : Str) : br p (AV.str x) (AV.str y) = .str (br p x y) := by cases p <;> rfl
theorem br_tt (p x : Bool) : br p true x = (p || x) := by cases p <;> rfl
theorem br_ff (p x : Bool) : br p false x = (!p && x) := by cases p <;> rfl
attribute [go_sem] br_int br_bool br_str

theorem c94 (n a b : Int) : calV U 94 [.int .i64 n, .int .i64 a, .int .i64 b] = some (.bool (outside n a b)) := by
  refine pure_go k94 (by kernel_rfl) rfl ?_
  simp +contextual only [go_sem, ↓reduceIte, r94]
  rfl
theorem c26 (n : Int) : calV U 26 [.int .i64 n] = some (.int .i64 (br (outside n 1 16) 3 0)) := by
  refine pure_go k26 (by kernel_rfl) rfl ?_
  simp +contextual only [go_sem, ↓reduceIte, r26, c94]
theorem c116 (p : Bool) (n : Int) : calV U 116 [.bool p, .int .i64 n] = some (.int .i64 (br p n 0)) := by
  refine pure_go k116 (by kernel_rfl) rfl ?_
  simp +contextual only [go_sem, ↓reduceIte, r116]
theorem c124 (n a b : Int) : calV U 124 [.int .i64 n, .int .i64 a, .int .i64 b] = some (.int .i64 (within n a b)) := by
  refine pure_go k124 (by kernel_rfl) rfl ?_
  simp +contextual only [go_sem, ↓reduceIte, r124, c116]
  rfl
theorem c88 (n : Int) : calV U 88 [.int .i64 n] = some (.int .i64 (within n 1 16)) := by
  refine pure_go k88 (by kernel_rfl) rfl ?_
  simp +contextual only [go_sem, ↓reduceIte, r88, c124]
end Go.Am

set_option linter.all false
namespace Go.Am
open Go
variable [MaxLen]
set_option maxRecDepth 100000
set_option maxHeartbeats 4000000

theorem loop_to {X : Cx} {β : Type} {fin : Fl → β} {ks : List K} [Stat] {b : RC} {σ : Type} (m : σ → Nat) (R : σ → β) (I : σ → Env → St → Prop) (x : σ) {r : β} {e : Env} {s : St}
    (h : ∀ (L : RC) (x : σ) (e : Env) (s : St), I x e s → (∀ (y : σ) (e' : Env) (s' : St), m y < m x → I y e' s' → goL X fin ks L e' s' = R y) → go X fin (.lp L :: ks) b e s = R x)
    (hr : R x = r) (hI : I x e s) : goL X fin ks b e s = r := by
  rw [← hr]; exact loop_rule X fin ks m I R h x hI
theorem ints_len (l : List Int) : (ints l).length = l.length := by simp [ints]
theorem ints_get (l : List Int) (i : Nat) : (ints l)[i]? = (l[i]?).map (.int .i64 ·) := by simp [ints]
theorem nat_lt_dec (a b : Nat) : decide ((a : Int) < (b : Int)) = decide (a < b) := by congr 1; apply propext; omega

theorem g89 (l : List Int) (hlen : l.length < 2 ^ 62) : go U (finP U [.tmp 2]) [] r89 (bindArgs 0 [.fz (ints l)] .nil) (ownSt U) = some (.int .i64 (firstOf l)) := by
  simp +contextual only [go_sem, ↓reduceIte, r89]
  refine loop_to (σ := Nat) (fun i => l.length - i) (fun i => some (AV.int .i64 (firstOf (l.drop i)))) (fun i e s => i ≤ l.length ∧ Env.get e 5 = .fz (ints l) ∧ Env.get e 6 = .int .i64 l.length ∧ Env.get e 7 = .int .i64 i) 0 ?_ rfl ?_
  · rintro L i e s ⟨hi, h5, h6, h7⟩ ih
    by_cases hd : i < l.length
    · have hx : (ints l)[i]? = some (.int .i64 l[i]) := by rw [ints_get, List.getElem?_eq_getElem hd]; rfl
      have hw : IntKind.i64.wrap ((i : Int) + 1) = ((i + 1 : Nat) : Int) := by rw [wrap_i64] <;> omega
      simp +contextual only [go_sem, ↓reduceIte, r89_l0, h5, h6, h7, nat_lt_dec, hd, hx]
      rw [List.drop_eq_getElem_cons hd, firstOf]
      cases hb : l[i] != 0
      · simp only [go_sem, hw]
        refine ih (i + 1) _ _ (by omega) ⟨by omega, ?_, ?_, ?_⟩ <;> simp +contextual only [go_sem, ↓reduceIte, h5, h6, h7, hw]
      · simp only [go_sem]
    · have : i = l.length := by omega
      subst this
      simp +contextual only [go_sem, ↓reduceIte, r89_l0, h5, h6, h7, nat_lt_dec, Nat.lt_irrefl]
      rw [List.drop_length]; rfl
  · refine ⟨Nat.zero_le _, ?_, ?_, ?_⟩ <;> simp +contextual only [go_sem, ↓reduceIte, ints_len] <;> rfl

def encU (u : Uses) : AV := .agg [.bool u.a, .bool u.b, .bool u.mi, .bool u.ma, .bool u.pat, .bool u.kids]
theorem c95 (k : Str) : calV U 95 [.str k] = some (.tup [encU (usesOf (kdOf k)), .bool (kdOf k).known]) := by
  refine pure_go k95 (by kernel_rfl) rfl ?_
  obtain ⟨h0, h1, h2, h3, h4, h5, h6, h7, h8, h9, h10, h11, h12, h13, h14⟩ := kd_facts k
  generalize kdOf k = d at *
  cases d
  all_goals simp only [reduceCtorEq, decide_true, decide_false] at h1 h2 h3 h4 h5 h6 h7 h8 h9 h10 h11 h12 h13 h14
  all_goals simp +contextual only [go_sem, ↓reduceIte, r95, h1, h2, h3, h4, h5, h6, h7, h8, h9, h10, h11, h12, h13, h14]
  all_goals rfl
end Go.Am

set_option linter.all false
namespace Go.Am
open Go
variable [MaxLen]
set_option maxRecDepth 100000
set_option maxHeartbeats 4000000

theorem Cond.ind {P : Cond → Prop} (h : ∀ k a b mi ma p nl kids, (∀ x ∈ kids, P x) → P (.mk k a b mi ma p nl kids)) : ∀ c, P c := by
  intro c
  exact Cond.rec (motive_1 := P) (motive_2 := fun l => ∀ x ∈ l, P x) (fun k a b mi ma p nl kids ih => h k a b mi ma p nl kids ih) (fun x hx => by cases hx)
    (fun c l h1 h2 x hx => by
      rcases List.mem_cons.1 hx with rfl | hx
      · exact h1
      · exact h2 x hx) c
theorem still_encC (c : Cond) : still (encC c) = true := by
  cases c; simp [encC, still, stills, still_encS]
theorem encS_ne {nl : Bool} {l : List AV} (h : l ≠ []) : encS nl l = .fz l := by
  cases l with
  | nil => exact absurd rfl h
  | cons x l => exact encS_cons ..
theorem encL_ne {l : List Cond} {i : Nat} (h : i < l.length) : encL l ≠ [] := by
  intro e; have := encL_len l; rw [e] at this; simp at this; omega
/-- nothing in it that cannot lie in a machine's memory -/
def Cond.fits : Cond → Prop
  | .mk _ _ _ _ _ pat _ kids => pat.length < 2 ^ 30 ∧ kids.length < 2 ^ 30 ∧ ∀ x ∈ kids, x.fits
theorem byte_eq (c : UInt8) (n : Int) (d : UInt8) (h : n = (d.toNat : Int)) : ((c.toNat : Int) == n) = (c == d) := by
  subst h
  by_cases e : c = d
  · subst e
    rw [beq_self_eq_true, beq_self_eq_true]
  · have h1 : (c.toNat : Int) ≠ (d.toNat : Int) := fun h => e (UInt8.toNat_inj.1 (by omega))
    rw [beq_eq_false_iff_ne.2 h1, beq_eq_false_iff_ne.2 e]
theorem byte_ne (c : UInt8) (n : Int) (d : UInt8) (h : n = (d.toNat : Int)) : ((c.toNat : Int) != n) = (c != d) := by
  rw [bne, bne, byte_eq c n d h]
theorem wrap_succ {i n : Nat} (h : i < n) (hn : n < 2 ^ 62) : IntKind.i64.wrap ((i : Int) + 1) = ((i + 1 : Nat) : Int) := by rw [wrap_i64] <;> omega
theorem c96 (pat : Str) (n : Int) (hl : pat.length < 2 ^ 30) : calV U 96 [.str pat, .int .i64 n] = some (.bool (badPat pat n)) := by
  refine pure_go k96 (by kernel_rfl) rfl ?_
  simp +contextual only [go_sem, ↓reduceIte, r96, badPat]
  cases hb : (pat.length : Int) != n
  · simp +contextual only [go_sem, ↓reduceIte, Bool.false_or]
    refine loop_to (σ := Nat) (fun i => pat.length - i) (fun i => some (AV.bool ((pat.drop i).any fun c => c != 48 && c != 49 && c != 120))) (fun i e s => i ≤ pat.length ∧ Env.get e 0 = .str pat ∧ Env.get e 5 = .int .i64 i) 0 ?_ rfl ?_
    · rintro L i e s ⟨hi, h0, h5⟩ ih
      by_cases hd : i < pat.length
      · have hx : pat[i]? = some pat[i] := List.getElem?_eq_getElem hd
        have hw := wrap_succ hd (by omega)
        simp +contextual only [go_sem, ↓reduceIte, r96_l0, h0, h5, nat_lt_dec, hd, hx, byte_ne _ 48 48 rfl, byte_ne _ 49 49 rfl, byte_ne _ 120 120 rfl]
        rw [List.drop_eq_getElem_cons hd, List.any_cons]
        cases hc : pat[i] != 48 && pat[i] != 49 && pat[i] != 120
        · rw [Bool.false_or]
          simp +contextual only [go_sem, ↓reduceIte, hc, hw, br_false]
          refine ih (i + 1) _ _ (by omega) ⟨by omega, ?_, ?_⟩ <;> simp +contextual only [go_sem, ↓reduceIte, h0, h5, hw]
        · simp +contextual only [go_sem, ↓reduceIte, hc, Bool.true_or]
      · have : i = pat.length := by omega
        subst this
        simp +contextual only [go_sem, ↓reduceIte, r96_l0, h0, h5, nat_lt_dec, Nat.lt_irrefl]
        rw [List.drop_length]; rfl
    · refine ⟨Nat.zero_le _, ?_, ?_⟩ <;> simp +contextual only [go_sem, ↓reduceIte] <;> rfl
  · simp +contextual only [go_sem, ↓reduceIte, Bool.true_or]
end Go.Am

set_option linter.all false
namespace Go.Am
open Go
variable [MaxLen]
set_option maxRecDepth 100000
set_option maxHeartbeats 8000000

theorem brI_some (k : IntKind) (p : Bool) (x y : Int) : some (AV.int k (br p x y)) = br p (some (.int k x)) (some (.int k y)) := by cases p <;> rfl
theorem brB_some (p x y : Bool) : some (AV.bool (br p x y)) = br p (some (.bool x)) (some (.bool y)) := by cases p <;> rfl
theorem stills1 (c : Cond) (a b : Int) : stills [.int .i64 a, encC c, .int .i64 b] = true := by simp [stills, still, still_encC]
theorem c27 (lines : Int) : ∀ c : Cond, c.fits → ∀ depth : Int, calV U 27 [.int .i64 lines, encC c, .int .i64 depth] = some (.int .i64 (ckR lines c depth)) := by
  intro c
  induction c using Cond.ind with
  | h kind a b mi ma pat nl kids ih =>
  intro hf depth
  rw [Cond.fits] at hf
  obtain ⟨f1, f2, f3⟩ := hf
  refine pure_go k27 (by kernel_rfl) (stills1 _ _ _) ?_
  rw [encC, ckR]
  simp (config := { maxSteps := 2000000 }) +contextual only [go_sem, ↓reduceIte, r27, c95, c94, c96 pat _ f1, encU, lenL_encS, encL_len, cells_encS, noAgg_encS]
  simp only [brI_some]
  refine br_r fun _ => br_r fun _ => br_r fun _ => br_r fun _ => br_r fun _ => br_r fun _ => br_r fun _ => br_r fun _ => br_r fun _ => br_r fun _ => br_r fun _ => ?_
  refine loop_to (σ := Nat) (fun i => kids.length - i) (fun i => some (AV.int .i64 (ckRL lines (kids.drop i) (IntKind.i64.wrap (depth + 1))))) (fun i e s => i ≤ kids.length ∧ Env.get e 9 = .int .i64 i ∧ Env.get e 0 = .int .i64 lines ∧ Env.get e 2 = .int .i64 depth ∧ Env.get e 4 = .ptr 8 0 ∧
    s.get 8 = some (.cells [.str kind, .int .i64 a, .int .i64 b, .int .i64 mi, .int .i64 ma, .str pat, encS nl (encL kids)] 39 false 0 0)) 0 ?_ rfl ?_
  · rintro L i e s ⟨hi, h9, h0, h2, h4, hs⟩ IH
    by_cases hd : i < kids.length
    · have hx : (encL kids)[i]? = some (encC kids[i]) := by rw [encL_get, List.getElem?_eq_getElem hd]; rfl
      have hw := wrap_succ hd (by omega)
      have hc := ih kids[i] (List.getElem_mem hd) (f3 _ (List.getElem_mem hd)) (IntKind.i64.wrap (depth + 1))
      rw [encS_ne (encL_ne hd)] at hs
      rw [encC_cells] at hx hc
      simp only [Cond.cells] at hx hc
      simp +contextual only [go_sem, ↓reduceIte, r27_l0, h9, h0, h2, h4, hs, nat_lt_dec, hd, encL_len, hx, hc]
      rw [List.drop_eq_getElem_cons hd, ckRL]
      cases hb : ckR lines kids[i] (IntKind.i64.wrap (depth + 1)) != 0
      · simp only [go_sem, ↓reduceIte, hw]
        refine IH (i + 1) _ _ (by omega) ⟨by omega, ?_, ?_, ?_, ?_, ?_⟩ <;> simp +contextual only [go_sem, ↓reduceIte, h9, h0, h2, h4, hs, hw, encS_ne (encL_ne hd)]
      · simp only [go_sem, ↓reduceIte]
    · have : i = kids.length := by omega
      subst this
      simp +contextual only [go_sem, ↓reduceIte, r27_l0, h9, h0, h2, h4, hs, lenL_encS, encL_len, nat_lt_dec, Nat.lt_irrefl]
      rw [List.drop_length, ckRL]
  · refine ⟨Nat.zero_le _, ?_, ?_, ?_, ?_, ?_⟩ <;> simp +contextual only [go_sem, ↓reduceIte] <;> rfl
end Go.Am

set_option linter.all false
namespace Go.Am
open Go
variable [MaxLen]
set_option maxRecDepth 100000
set_option maxHeartbeats 8000000

def Prog.fits (p : Prog) : Prop := p.steps.length < 2 ^ 30 ∧ ∀ s ∈ p.steps, s.cond.fits
def encSteps (l : List Step) : List AV := l.map encStep
theorem encSteps_len (l : List Step) : (encSteps l).length = l.length := by simp [encSteps]
theorem encSteps_get (l : List Step) (i : Nat) : (encSteps l)[i]? = (l[i]?).map encStep := by simp [encSteps]
theorem encSteps_ne {l : List Step} {i : Nat} (h : i < l.length) : encSteps l ≠ [] := by
  intro e; have := encSteps_len l; rw [e] at this; simp at this; omega
theorem encP_eq (p : Prog) : encP p = .agg [.int .i64 p.lines, encS p.nl (encSteps p.steps)] := rfl
theorem still_encP (p : Prog) : still (encP p) = true := by simp [encP, still, stills, still_encS]

def cpRL (lines : Int) : Nat → List Step → Int
  | _, [] => 0
  | i, s :: l => br (ckR lines s.cond 1 != 0) (ckR lines s.cond 1) <|
    br (outside s.times 1 64 || outside s.within 0 255 || ((i : Int) == 0) && s.within != 0) 3 <| cpRL lines (i + 1) l
def checkLines (n : Int) : Int := br (outside n 1 16) 3 0
def cpR (p : Prog) : Int :=
  br (checkLines p.lines != 0) (checkLines p.lines) <| br ((p.steps.length : Int) == 0) 12 <| br (decide ((p.steps.length : Int) > 8)) 5 <| cpRL p.lines 0 p.steps

theorem c34 (p : Prog) (hf : p.fits) : calV U 34 [encP p] = some (.int .i64 (cpR p)) := by
  obtain ⟨lines, nl, steps⟩ := p
  obtain ⟨f1, f2⟩ := hf
  simp only at f1 f2
  refine pure_go k34 (by kernel_rfl) (by simp [stills, still_encP]) ?_
  rw [encP_eq, cpR, checkLines]
  simp (config := { maxSteps := 2000000 }) +contextual only [go_sem, ↓reduceIte, r34, c26, lenL_encS, encSteps_len, cells_encS, noAgg_encS]
  simp only [brI_some]
  refine br_r fun _ => ?_
  refine br_r fun _ => ?_
  refine br_r fun _ => ?_
  refine loop_to (σ := Nat) (fun i => steps.length - i) (fun i => some (AV.int .i64 (cpRL lines i (steps.drop i)))) (fun i e s => i ≤ steps.length ∧ Env.get e 4 = .int .i64 i ∧ Env.get e 1 = .ptr 8 0 ∧ 8 < s.next ∧
    s.get 8 = some (.cells [.int .i64 lines, encS nl (encSteps steps)] 31 false 0 0)) 0 ?_ rfl ?_
  · rintro L i e s ⟨hi, h4, h1, hn, hs⟩ IH
    by_cases hd : i < steps.length
    · have hx : (encSteps steps)[i]? = some (encStep steps[i]) := by rw [encSteps_get, List.getElem?_eq_getElem hd]; rfl
      have hw := wrap_succ hd (by omega)
      have hne : ¬ s.next = 8 := by omega
      have hc := c27 lines steps[i].cond (f2 _ (List.getElem_mem hd)) 1
      rw [encS_ne (encSteps_ne hd)] at hs
      rw [encC_cells] at hc
      simp only [Cond.cells, encStep] at hx hc
      simp +contextual only [go_sem, ↓reduceIte, r34_l0, h4, h1, hs, nat_lt_dec, hd, encSteps_len, hx, hc, hne, noAgg_encS, c94, br_tt]
      rw [List.drop_eq_getElem_cons hd, cpRL]
      simp only [brI_some]
      refine br_r fun _ => ?_
      cases hb : (outside steps[i].times 1 64 || outside steps[i].within 0 255 || (i : Int) == 0 && steps[i].within != 0)
      · simp only [go_sem, ↓reduceIte, hw]
        refine IH (i + 1) _ _ (by omega) ⟨by omega, ?_, ?_, ?_, ?_⟩ <;> simp +contextual only [go_sem, ↓reduceIte, h4, h1, hs, hw, hne, encS_ne (encSteps_ne hd)]
        omega
      · simp only [go_sem, ↓reduceIte]
    · have : i = steps.length := by omega
      subst this
      simp +contextual only [go_sem, ↓reduceIte, r34_l0, h4, h1, hs, lenL_encS, encSteps_len, nat_lt_dec, Nat.lt_irrefl]
      rw [List.drop_length, cpRL]
  · refine ⟨Nat.zero_le _, ?_, ?_, ?_, ?_⟩ <;> simp +contextual only [go_sem, ↓reduceIte] <;> rfl
end Go.Am

set_option linter.all false
namespace Go.Am
open Go
variable [MaxLen]
set_option maxRecDepth 100000
/-- (*strings.Builder).String; results .tmp 2 -/
def r133 : RC := (.seq (.ops [⟨some 2, none, none, false, .mov (.v (.str []))⟩]) (.seq (.drw 12 [⟨some 3, none, none, false, .mov (.t 0)⟩,
  ⟨some 4, none, none, false, .raw (.nilCheck (.tmp 3))⟩,
  ⟨some 5, none, none, false, .fa 1 (.t 4)⟩,
  ⟨some 6, none, none, false, .ld1 (.t 5)⟩,
  ⟨some 7, none, none, false, .raw (.call { callee := .builtin .unsafeSliceData, args := #[(.tmp 6)], argTypes := #[205] })⟩,
  ⟨some 8, none, none, false, .mov (.t 0)⟩,
  ⟨some 9, none, none, false, .raw (.nilCheck (.tmp 8))⟩,
  ⟨some 10, none, none, false, .fa 1 (.t 9)⟩,
  ⟨some 11, none, none, false, .ld1 (.t 10)⟩,
  ⟨some 12, none, none, false, .lenL (.t 11)⟩,
  ⟨some 13, none, none, true, .raw (.call { callee := .builtin .unsafeString, args := #[(.tmp 7), (.tmp 12)], argTypes := #[269, 3] })⟩,
  ⟨some 2, none, none, false, .mov (.t 13)⟩]) .ret))
theorem k133 : fnRC 133 = some ([.tmp 2], r133) := by kernel_rfl

/-- internal/stringslite.IndexByte; results .tmp 4 -/
def r249 : RC := (.seq (.ops [⟨some 4, none, none, false, .mov (.v (.int .i64 0))⟩]) (.seq (.ops [⟨some 5, none, none, false, .mov (.t 0)⟩,
  ⟨some 6, none, none, false, .mov (.t 1)⟩,
  ⟨some 7, none, none, false, .call 272 [(.t 5), (.t 6)]⟩,
  ⟨some 4, none, none, false, .mov (.t 7)⟩]) .ret))
theorem k249 : fnRC 249 = some ([.tmp 4], r249) := by kernel_rfl

def r220_l0 : RC := (.seq (.seq (.ops [⟨some 57, none, none, false, .mov (.t 8)⟩,
  ⟨some 58, none, none, false, .mov (.t 9)⟩,
  ⟨some 59, none, none, false, .bin .lss 3 false (.t 57) (.t 58)⟩]) (.cond (.t 59) .skip (.exit 1))) (.block 2 (.seq (.seq (.ops [⟨some 60, none, none, false, .mov (.t 0)⟩,
  ⟨some 61, none, none, false, .mov (.t 8)⟩,
  ⟨some 62, none, none, false, .ixs (.t 60) (.t 61)⟩,
  ⟨some 63, none, none, false, .mov (.t 6)⟩,
  ⟨some 64, none, none, false, .bin .neq 5 false (.t 62) (.t 63)⟩]) (.cond (.t 64) (.seq (.ops [⟨some 65, none, none, false, .mov (.t 0)⟩,
  ⟨some 66, none, none, false, .mov (.t 8)⟩,
  ⟨some 67, none, none, false, .bin .add 3 true (.t 66) (.v (.int .i64 1))⟩,
  ⟨some 68, none, none, false, .mov (.t 9)⟩,
  ⟨some 69, none, none, false, .sls (.t 65) (some (.t 67)) (some (.t 68))⟩,
  ⟨some 70, none, none, false, .mov (.t 6)⟩,
  ⟨some 71, none, none, false, .call 249 [(.t 69), (.t 70)]⟩,
  ⟨some 11, none, none, false, .mov (.t 71)⟩]) (.seq (.seq (.ops [⟨some 72, none, none, false, .mov (.t 11)⟩,
  ⟨some 73, none, none, false, .bin .lss 3 true (.t 72) (.v (.int .i64 0))⟩]) (.cond (.t 73) (.seq (.ops [⟨some 4, none, none, false, .mov (.v (.int .i64 (-1)))⟩]) .ret) .skip)) (.ops [⟨some 74, none, none, false, .mov (.t 8)⟩,
  ⟨some 75, none, none, false, .mov (.t 11)⟩,
  ⟨some 76, none, none, false, .bin .add 3 true (.t 75) (.v (.int .i64 1))⟩,
  ⟨some 77, none, none, false, .bin .add 3 false (.t 74) (.t 76)⟩,
  ⟨some 8, none, none, false, .mov (.t 77)⟩]))) .skip)) (.seq (.seq (.ops [⟨some 78, none, none, false, .mov (.t 0)⟩,
  ⟨some 79, none, none, false, .mov (.t 8)⟩,
  ⟨some 80, none, none, false, .bin .add 3 true (.t 79) (.v (.int .i64 1))⟩,
  ⟨some 81, none, none, false, .ixs (.t 78) (.t 80)⟩,
  ⟨some 82, none, none, false, .mov (.t 7)⟩,
  ⟨some 83, none, none, false, .bin .eql 5 false (.t 81) (.t 82)⟩,
  ⟨some 84, none, none, false, .mov (.t 83)⟩,
  ⟨some 85, some (84, true), none, false, .mov (.t 0)⟩,
  ⟨some 86, some (84, true), none, false, .mov (.t 8)⟩,
  ⟨some 87, some (84, true), none, false, .mov (.t 8)⟩,
  ⟨some 88, some (84, true), none, false, .mov (.t 5)⟩,
  ⟨some 89, some (84, true), none, false, .bin .add 3 false (.t 87) (.t 88)⟩,
  ⟨some 90, some (84, true), none, false, .sls (.t 85) (some (.t 86)) (some (.t 89))⟩,
  ⟨some 91, some (84, true), none, false, .mov (.t 1)⟩,
  ⟨some 92, some (84, true), none, false, .bin .eql 9 false (.t 90) (.t 91)⟩,
  ⟨some 93, none, none, false, .pick (.t 84) (.t 92) (.v (.bool false))⟩]) (.cond (.t 93) (.seq (.ops [⟨some 94, none, none, false, .mov (.t 8)⟩,
  ⟨some 4, none, none, false, .mov (.t 94)⟩]) .ret) .skip)) (.seq (.ops [⟨some 95, none, none, false, .mov (.t 8)⟩,
  ⟨some 96, none, none, false, .bin .add 3 true (.t 95) (.v (.int .i64 1))⟩,
  ⟨some 8, none, none, false, .mov (.t 96)⟩]) (.seq (.ops [⟨some 97, none, none, false, .mov (.t 10)⟩,
  ⟨some 98, none, none, false, .bin .add 3 true (.t 97) (.v (.int .i64 1))⟩,
  ⟨some 10, none, none, false, .mov (.t 98)⟩]) (.seq (.ops [⟨some 99, none, none, false, .mov (.t 5)⟩,
  ⟨some 100, none, none, false, .ld1 (.v (.ptr 0 0))⟩,
  ⟨some 101, none, none, false, .bin .leq 3 false (.t 99) (.t 100)⟩,
  ⟨some 102, none, none, false, .mov (.t 101)⟩,
  ⟨some 103, some (102, true), none, false, .mov (.t 10)⟩,
  ⟨some 104, some (102, true), none, false, .mov (.t 8)⟩,
  ⟨some 105, some (102, true), none, false, .call 251 [(.t 104)]⟩,
  ⟨some 106, some (102, true), none, false, .bin .gtr 3 false (.t 103) (.t 105)⟩,
  ⟨some 107, none, none, false, .pick (.t 102) (.t 106) (.v (.bool false))⟩]) (.cond (.t 107) (.seq (.ops [⟨some 108, none, none, false, .mov (.t 0)⟩,
  ⟨some 109, none, none, false, .mov (.t 8)⟩,
  ⟨some 110, none, none, false, .sls (.t 108) (some (.t 109)) none⟩,
  ⟨some 111, none, none, false, .mov (.t 1)⟩,
  ⟨some 112, none, none, false, .call 250 [(.t 110), (.t 111)]⟩,
  ⟨some 12, none, none, false, .mov (.t 112)⟩]) (.seq (.seq (.ops [⟨some 113, none, none, false, .mov (.t 12)⟩,
  ⟨some 114, none, none, false, .bin .geq 3 true (.t 113) (.v (.int .i64 0))⟩]) (.cond (.t 114) (.seq (.ops [⟨some 115, none, none, false, .mov (.t 12)⟩,
  ⟨some 116, none, none, false, .mov (.t 8)⟩,
  ⟨some 117, none, none, false, .bin .add 3 false (.t 115) (.t 116)⟩,
  ⟨some 4, none, none, false, .mov (.t 117)⟩]) .ret) .skip)) (.seq (.ops [⟨some 4, none, none, false, .mov (.v (.int .i64 (-1)))⟩]) .ret))) (.seq (.ops [⟨some 118, none, none, false, .mov (.t 5)⟩,
  ⟨some 119, none, none, false, .ld1 (.v (.ptr 0 0))⟩,
  ⟨some 120, none, none, false, .bin .gtr 3 false (.t 118) (.t 119)⟩,
  ⟨some 121, none, none, false, .mov (.t 120)⟩,
  ⟨some 122, some (121, true), none, false, .mov (.t 10)⟩,
  ⟨some 123, some (121, true), none, false, .mov (.t 8)⟩,
  ⟨some 124, some (121, true), none, false, .bin .shr 3 true (.t 123) (.v (.int .u64 4))⟩,
  ⟨some 125, some (121, true), none, false, .bin .add 3 true (.v (.int .i64 4)) (.t 124)⟩,
  ⟨some 126, some (121, true), none, false, .bin .geq 3 false (.t 122) (.t 125)⟩,
  ⟨some 127, none, none, false, .pick (.t 121) (.t 126) (.v (.bool false))⟩,
  ⟨some 128, none, none, false, .mov (.t 127)⟩,
  ⟨some 129, some (128, true), none, false, .mov (.t 8)⟩,
  ⟨some 130, some (128, true), none, false, .mov (.t 9)⟩,
  ⟨some 131, some (128, true), none, false, .bin .lss 3 false (.t 129) (.t 130)⟩,
  ⟨some 132, none, none, false, .pick (.t 128) (.t 131) (.v (.bool false))⟩]) (.cond (.t 132) (.seq (.ops [⟨some 133, none, none, false, .mov (.t 0)⟩,
  ⟨some 134, none, none, false, .mov (.t 8)⟩,
  ⟨some 135, none, none, false, .sls (.t 133) (some (.t 134)) none⟩,
  ⟨some 136, none, none, false, .mov (.t 1)⟩,
  ⟨some 137, none, none, false, .call 252 [(.t 135), (.t 136)]⟩,
  ⟨some 13, none, none, false, .mov (.t 137)⟩]) (.seq (.seq (.ops [⟨some 138, none, none, false, .mov (.t 13)⟩,
  ⟨some 139, none, none, false, .bin .lss 3 true (.t 138) (.v (.int .i64 0))⟩]) (.cond (.t 139) (.seq (.ops [⟨some 4, none, none, false, .mov (.v (.int .i64 (-1)))⟩]) .ret) .skip)) (.seq (.ops [⟨some 140, none, none, false, .mov (.t 8)⟩,
  ⟨some 141, none, none, false, .mov (.t 13)⟩,
  ⟨some 142, none, none, false, .bin .add 3 false (.t 140) (.t 141)⟩,
  ⟨some 4, none, none, false, .mov (.t 142)⟩]) .ret))) .skip))))))))))
/-- internal/stringslite.Index; results .tmp 4 -/
def r220 : RC := (.seq (.ops [⟨some 4, none, none, false, .mov (.v (.int .i64 0))⟩]) (.seq (.ops [⟨some 14, none, none, false, .mov (.t 1)⟩,
  ⟨some 15, none, none, false, .lenS (.t 14)⟩,
  ⟨some 5, none, none, false, .mov (.t 15)⟩]) (.seq (.block 0 (.seq (.ops [⟨some 17, none, none, false, .mov (.t 5)⟩,
  ⟨some 18, none, none, false, .bin .eql 3 true (.t 17) (.v (.int .i64 0))⟩,
  ⟨some 19, none, none, false, .mov (.t 18)⟩,
  ⟨some 20, some (19, false), none, false, .mov (.t 1)⟩,
  ⟨some 21, some (19, false), none, false, .mov (.t 0)⟩,
  ⟨some 22, some (19, false), none, false, .bin .eql 9 false (.t 20) (.t 21)⟩,
  ⟨some 23, none, none, false, .pick (.t 19) (.v (.bool true)) (.t 22)⟩,
  ⟨some 16, none, none, false, .mov (.t 23)⟩]) (.cond (.t 16) (.seq (.ops [⟨some 4, none, none, false, .mov (.v (.int .i64 0))⟩]) .ret) (.seq (.ops [⟨some 25, none, none, false, .mov (.t 5)⟩,
  ⟨some 26, none, none, false, .bin .eql 3 true (.t 25) (.v (.int .i64 1))⟩,
  ⟨some 24, none, none, false, .mov (.t 26)⟩]) (.cond (.t 24) (.seq (.ops [⟨some 27, none, none, false, .mov (.t 0)⟩,
  ⟨some 28, none, none, false, .mov (.t 1)⟩,
  ⟨some 29, none, none, false, .ixs (.t 28) (.v (.int .i64 0))⟩,
  ⟨some 30, none, none, false, .call 249 [(.t 27), (.t 29)]⟩,
  ⟨some 4, none, none, false, .mov (.t 30)⟩]) .ret) (.seq (.ops [⟨some 32, none, none, false, .mov (.t 5)⟩,
  ⟨some 33, none, none, false, .mov (.t 0)⟩,
  ⟨some 34, none, none, false, .lenS (.t 33)⟩,
  ⟨some 35, none, none, false, .bin .geq 3 false (.t 32) (.t 34)⟩,
  ⟨some 31, none, none, false, .mov (.t 35)⟩]) (.cond (.t 31) (.seq (.ops [⟨some 4, none, none, false, .mov (.v (.int .i64 (-1)))⟩]) .ret) (.seq (.ops [⟨some 37, none, none, false, .mov (.t 5)⟩,
  ⟨some 38, none, none, false, .ld1 (.v (.ptr 0 0))⟩,
  ⟨some 39, none, none, false, .bin .leq 3 false (.t 37) (.t 38)⟩,
  ⟨some 40, none, none, false, .mov (.t 39)⟩,
  ⟨some 41, some (40, true), none, false, .mov (.t 0)⟩,
  ⟨some 42, some (40, true), none, false, .lenS (.t 41)⟩,
  ⟨some 43, some (40, true), none, false, .bin .leq 3 true (.t 42) (.v (.int .i64 64))⟩,
  ⟨some 44, none, none, false, .pick (.t 40) (.t 43) (.v (.bool false))⟩,
  ⟨some 36, none, none, false, .mov (.t 44)⟩]) (.cond (.t 36) (.seq (.ops [⟨some 45, none, none, false, .mov (.t 0)⟩,
  ⟨some 46, none, none, false, .mov (.t 1)⟩,
  ⟨some 47, none, none, false, .call 250 [(.t 45), (.t 46)]⟩,
  ⟨some 4, none, none, false, .mov (.t 47)⟩]) .ret) .skip))))))))) (.seq (.ops [⟨some 48, none, none, false, .mov (.t 1)⟩,
  ⟨some 49, none, none, false, .ixs (.t 48) (.v (.int .i64 0))⟩,
  ⟨some 6, none, none, false, .mov (.t 49)⟩]) (.seq (.ops [⟨some 50, none, none, false, .mov (.t 1)⟩,
  ⟨some 51, none, none, false, .ixs (.t 50) (.v (.int .i64 1))⟩,
  ⟨some 7, none, none, false, .mov (.t 51)⟩]) (.seq (.ops [⟨some 8, none, none, false, .mov (.v (.int .i64 0))⟩]) (.seq (.ops [⟨some 52, none, none, false, .mov (.t 0)⟩,
  ⟨some 53, none, none, false, .lenS (.t 52)⟩,
  ⟨some 54, none, none, false, .mov (.t 5)⟩,
  ⟨some 55, none, none, false, .bin .sub 3 false (.t 53) (.t 54)⟩,
  ⟨some 56, none, none, false, .bin .add 3 true (.t 55) (.v (.int .i64 1))⟩,
  ⟨some 9, none, none, false, .mov (.t 56)⟩]) (.seq (.ops [⟨some 10, none, none, false, .mov (.v (.int .i64 0))⟩]) (.seq (.block 1 (.loop r220_l0)) (.seq (.ops [⟨some 4, none, none, false, .mov (.v (.int .i64 (-1)))⟩]) .ret))))))))))
theorem k220 : fnRC 220 = some ([.tmp 4], r220) := by kernel_rfl

/-- strings.Index; results .tmp 4 -/
def r181 : RC := (.seq (.ops [⟨some 4, none, none, false, .mov (.v (.int .i64 0))⟩]) (.seq (.ops [⟨some 5, none, none, false, .mov (.t 0)⟩,
  ⟨some 6, none, none, false, .mov (.t 1)⟩,
  ⟨some 7, none, none, false, .call 220 [(.t 5), (.t 6)]⟩,
  ⟨some 4, none, none, false, .mov (.t 7)⟩]) .ret))
theorem k181 : fnRC 181 = some ([.tmp 4], r181) := by kernel_rfl


end Go.Am

set_option linter.unusedSimpArgs false
set_option linter.unusedVariables false
set_option linter.unusedSectionVars false
namespace Go.Am
open Go

/-! # Drawn regions with reads whose place among the writes is open: such a read is looked at in each state that it may find -/

/-- a read to be looked at again: in the states lo to hi, with its value -/
structure Pb where
  lo : Nat
  hi : Nat
  e : Env
  op : ROp
  v : AV

def pb1 (v : AV) (x : Option (AV × St)) : Bool := match x with
  | some (u, _) => same u v
  | none => false

section
variable (X : Cx)
noncomputable def pbL (base : Nat) (e : Env) (op : ROp) (v : AV) : List St → Bool
  | [] => true
  | s :: l => pb1 v (rop X base none e s op) && pbL base e op v l
noncomputable def pbsOk (base : Nat) (H : List St) : List Pb → Bool
  | [] => true
  | p :: P => pbL X base p.e p.op p.v ((H.take (p.hi + 1)).drop p.lo) && pbsOk base H P

abbrev ROC := RO × Option (Nat × Nat)
def noneC (base : Nat) (s : St) (l : List ROC) : Bool := noneR base s (l.map Prod.fst)
def addP (c : Option (Nat × Nat)) (e : Env) (op : ROp) (v : AV) (P : List Pb) : List Pb := match c with
  | some (lo, hi) => ⟨lo, hi, e, op, v⟩ :: P
  | none => P

noncomputable def ropsC (base : Nat) : List ROC → Env → St → List St → List Pb → Option (Env × St)
  | [], e, s, H, P => bif pbsOk X base H P then some (e, s) else none
  | (o, c) :: l, e, s, H, P => match (bif wantR e o.g then rop X base o.at_ e s o.op else some (undef, s)) with
    | some (v, s') => bif !o.w || noneC base s' l then ropsC base l (setDst e o.d v) s' (bif o.w then H ++ [s'] else H) (addP c e o.op v P) else none
    | none => none

def calmI (ops : Array Oper) (i : Nat) : Bool :=
  (aIdx X 0 ops.toList).all (fun k => !decide (k < i) || bef ops k i) && (wIdx X ops 0 ops.toList).all (fun k => bef ops k i || bef ops i k)
def opC (ops : Array Oper) (i : Nat) : Option (Nat × Nat) := match ops[i]? with
  | some o => if ((cls X o.op).isR || (match cls X o.op with | .q => true | _ => false)) && !calmI X ops i then
      some (countL (fun j => bef ops j i) (wIdx X ops 0 ops.toList), countL (fun j => !bef ops i j) (wIdx X ops 0 ops.toList)) else none
  | none => none
def csD (ops : Array Oper) : List (Option (Nat × Nat)) := (List.range ops.size).map (opC X ops)
def openD (ops : Array Oper) : Bool :=
  !lateReg X ops && (List.range ops.size).all fun i => match ops[i]? with
    | some o => !((cls X o.op).isR || (match cls X o.op with | .q => true | _ => false)) || calmI X ops i ||
      ((cls X o.op).isR && (o.guard.isNone && (aIdx X 0 ops.toList).all fun k => !bef ops k i))
    | none => true

def rcDrc : Code → Option (Nat × List ROC)
  | .region _ ops d => if d && openD X ops && okD X ops then match rcOps X ops true 0 ops.toList with
      | some l => some (ops.size, l.zip (csD X ops))
      | none => none
      else none
  | _ => none
end

section
variable [Stat]
variable {X : Cx} {ops : Array Oper} {base : Nat}

theorem rcOps_length {b : Bool} : ∀ (l : List Oper) (i : Nat) (r : List RO), rcOps X ops b i l = some r → r.length = l.length
  | [], i, r, h => by simp only [rcOps] at h; cases h; rfl
  | o :: l, i, r, h => by
    simp only [rcOps] at h
    split at h
    · rename_i g r' h1 h2
      cases h
      simp [rcOps_length l (i + 1) r' h2]
    · cases h

theorem ropsC_D {r : Env × St} : ∀ (l : List ROC) (e : Env) (s : St) (H : List St) (P : List Pb), ropsC X base l e s H P = some r → ropsD X base (l.map Prod.fst) e s = some r
  | [], e, s, H, P, h => by
    simp only [ropsC] at h
    cases hb : pbsOk X base H P with
    | true => rw [hb] at h; exact h
    | false => rw [hb] at h; cases h
  | (o, c) :: l, e, s, H, P, h => by
    simp only [ropsC] at h
    simp only [List.map_cons, ropsD]
    split at h
    · rename_i v s' hv
      rw [hv]
      simp only
      cases hb : (!o.w || noneC base s' l) with
      | false => rw [hb] at h; cases h
      | true =>
        rw [hb] at h
        rw [if_pos (by exact hb)]
        exact ropsC_D l _ _ _ _ h
    · cases h

/-- the resolved step is the step -/
theorem roStep {i : Nat} {o : Oper} {g : Option (Nat × Bool)} {e : Env} {s s1 : St} {v : AV} (h1 : rcG ops o.guard = some g)
    (hr : (bif wantR e g then rop X base (if true && (cls X o.op).isA then some i else none) e s (rcOp X o.op) else some (undef, s)) = some (v, s1)) :
    stepD X (execL X) ops base i o e s = some (setDst e o.dst v, s1) := by
  have hwant := rcG_spec h1 e
  cases hw : wantR e g with
  | false =>
    rw [hw] at hr hwant
    simp only [cond_false] at hr
    cases hr
    simp only [stepD, ← hwant, Bool.false_eq_true, if_false]
  | true =>
    rw [hw] at hr hwant
    simp only [cond_true, Bool.true_and] at hr
    simp only [stepD, ← hwant, if_true]
    by_cases ha : (cls X o.op).isA = true
    · rw [if_pos ha] at hr
      obtain ⟨s2, e1, e2⟩ := rop_at (isA_iff.1 ha) hr
      rw [isA_iff.1 ha]
      simp only [e1, e2]
    · rw [if_neg ha] at hr
      have := rop_spec hr
      cases hk : cls X o.op <;> rw [hk] at ha <;> first | exact absurd rfl ha | simp only [this]

theorem addA_no {i m : Nat} {tr : List (Env × St)} {s : St} : ∀ (l : List Nat), (∀ k ∈ l, bef ops k i = false) → addA ops base i m tr l s = s
  | [], _ => rfl
  | j :: l, h => by
    unfold addA
    rw [if_neg (by simp [h j (List.mem_cons_self ..)])]
    exact addA_no l fun k hk => h k (List.mem_cons_of_mem _ hk)

theorem pbsOk_mem {H : List St} : ∀ (P : List Pb), pbsOk X base H P = true → ∀ p ∈ P, pbL X base p.e p.op p.v ((H.take (p.hi + 1)).drop p.lo) = true
  | [], _, p, hp => by simp at hp
  | q :: P, h, p, hp => by
    simp only [pbsOk, Bool.and_eq_true] at h
    rcases List.mem_cons.1 hp with rfl | hp
    · exact h.1
    · exact pbsOk_mem P h.2 p hp

theorem pbL_mem {e : Env} {op : ROp} {v : AV} : ∀ (l : List St), pbL X base e op v l = true → ∀ s ∈ l, pb1 v (rop X base none e s op) = true
  | [], _, s, hs => by simp at hs
  | x :: l, h, s, hs => by
    simp only [pbL, Bool.and_eq_true] at h
    rcases List.mem_cons.1 hs with rfl | hs
    · exact h.1
    · exact pbL_mem l h.2 s hs

theorem probes (hlr : lateReg X ops = false) : ∀ (l : List Oper) (i : Nat) (l' : List ROC) (e : Env) (s : St) (H : List St) (P : List Pb) (r : Env × St) (tr : List (Env × St)),
    rcOps X ops true i l = some (l'.map Prod.fst) → ropsC X base l' e s H P = some r → goD X (execL X) ops base i l e s = some tr →
    ∃ P', pbsOk X base (H ++ (wIdx X ops i l).map (fun j => trS tr (j + 1 - i))) P' = true ∧ (∀ p ∈ P, p ∈ P') ∧
      ∀ (k : Nat) o q lo hi, l[k]? = some o → l'[k]? = some (q, some (lo, hi)) → o.guard = none → cls X o.op = .r →
        ∃ v, opA X (execL X) (trE tr k) o.op (trS tr k) = some (v, trS tr (k + 1)) ∧ (⟨lo, hi, trE tr k, rcOp X o.op, v⟩ : Pb) ∈ P'
  | [], i, l', e, s, H, P, r, tr, h1, h2, h3 => by
    have hl' : l' = [] := by
      simp only [rcOps] at h1
      cases l' with
      | nil => rfl
      | cons x y => simp at h1
    subst hl'
    simp only [ropsC] at h2
    refine ⟨P, ?_, fun p hp => hp, fun k o q lo hi hk => by simp at hk⟩
    simp only [wIdx, List.map_nil, List.append_nil]
    cases hb : pbsOk X base H P with
    | true => rfl
    | false => rw [hb] at h2; cases h2
  | o :: l, i, l', e, s, H, P, r, tr, h1, h2, h3 => by
    simp only [rcOps] at h1
    split at h1
    · rename_i g r' e1 e2
      cases l' with
      | nil => simp at h1
      | cons x l2 =>
        obtain ⟨ro, c⟩ := x
        simp only [List.map_cons, Option.some.injEq, List.cons.injEq] at h1
        obtain ⟨rfl, rfl⟩ := h1
        simp only [ropsC] at h2
        split at h2
        · rename_i v s1 hv
          have hst := roStep e1 hv
          simp only [goD, hst] at h3
          split at h3
          · rename_i tr' g1
            cases h3
            cases hb : (!(true && (cls X o.op).isW) || noneC base s1 l2) with
            | false => rw [hb] at h2; cases h2
            | true =>
              rw [hb] at h2
              simp only [cond_true] at h2
              obtain ⟨P', q1, q2, q3⟩ := probes hlr l (i + 1) l2 _ s1 _ _ r tr' e2 h2 g1
              obtain ⟨k1, k2, _⟩ := goD_spec _ _ _ _ _ g1
              have hts : ∀ n, trS ((e, s) :: tr') (n + 1) = trS tr' n := fun n => by simp [trS]
              have hte : ∀ n, trE ((e, s) :: tr') (n + 1) = trE tr' n := fun n => by simp [trE]
              have hs1 : trS tr' 0 = s1 := by simp [trS, k2]
              have hmap : (wIdx X ops (i + 1) l).map (fun j => trS ((e, s) :: tr') (j + 1 - i)) = (wIdx X ops (i + 1) l).map (fun j => trS tr' (j + 1 - (i + 1))) := by
                refine List.map_congr_left fun j hj => ?_
                obtain ⟨k, _, _, hjk, _⟩ := (wIdx_mem l (i + 1) j).1 hj
                rw [show j + 1 - i = (j + 1 - (i + 1)) + 1 by omega, hts]
              refine ⟨P', ?_, fun p hp => q2 p (by unfold addP; split <;> simp [hp]), fun k o' q lo hi hk1 hk2 hg hc => ?_⟩
              · have hlt : late X ops i = false := by simp [late, hlr]
                simp only [wIdx, hlt, Bool.not_false, Bool.and_true]
                cases hw : (cls X o.op).isW with
                | true =>
                  rw [hw] at q1
                  simp only [if_true, List.map_cons]
                  rw [hmap, show i + 1 - i = 0 + 1 by omega, hts, hs1]
                  simpa using q1
                | false =>
                  rw [hw] at q1
                  simp only [Bool.false_eq_true, if_false]
                  rw [hmap]
                  simpa using q1
              · cases k with
                | zero =>
                  simp at hk1 hk2
                  obtain ⟨_, rfl⟩ := hk2
                  subst hk1
                  have hgn : g = none := by rw [hg] at e1; simp [rcG] at e1; exact e1.symm
                  subst hgn
                  simp only [wantR, cond_true, hc, Cls.isA, Bool.and_false, Bool.false_eq_true, if_false] at hv
                  have := rop_spec hv
                  refine ⟨v, ?_, ?_⟩
                  · rw [hts, hs1]; exact this
                  · exact q2 _ (by simp [addP, trE])
                | succ k =>
                  obtain ⟨v', w1, w2⟩ := q3 k o' q lo hi (by simpa using hk1) (by simpa using hk2) hg hc
                  refine ⟨v', ?_, ?_⟩
                  · rw [hte, hts, hts]; exact w1
                  · rw [hte]; exact w2
          · cases h3
        · cases h2
    · cases h1

theorem drc_spec {l : List RO} {e : Env} {s : St} {r : Env × St} (hrc : rcOps X ops true 0 ops.toList = some l) (hopen : openD X ops = true) (hokd : okD X ops = true) (hn : noneR s.next s l = true)
    (hrC : ropsC X s.next (l.zip (csD X ops)) e { s with next := s.next + ops.size } [{ s with next := s.next + ops.size }] [] = some r) : drawA X (execL X) ops e s = some r := by
  have hok := okD_ok hokd
  have hlen : l.length = ops.size := by rw [rcOps_length _ _ _ hrc]; simp
  have hz1 : (l.zip (csD X ops)).map Prod.fst = l := by rw [List.map_fst_zip]; rw [hlen]; simp [csD]
  have hr : ropsD X s.next l e { s with next := s.next + ops.size } = some r := by
    have := ropsC_D _ _ _ _ _ hrC
    rw [hz1] at this; exact this
  unfold openD at hopen
  simp only [Bool.and_eq_true, Bool.not_eq_true', List.all_eq_true, List.mem_range] at hopen
  obtain ⟨hlr, hall⟩ := hopen
  obtain ⟨tr, g1, g2, g3⟩ := ropsD_go _ _ _ _ _ hrc hr
  obtain ⟨P', hP1, _, hP2⟩ := probes hlr ops.toList 0 (l.zip (csD X ops)) e _ _ [] r tr (by rw [hz1]; exact hrc) hrC g1
  obtain ⟨k1, k2, k3⟩ := goD_spec _ _ _ _ _ g1
  have k1 : tr.length = ops.size + 1 := by simpa using k1
  have ht : Tr0 X (execL X) ops s.next (trE tr) (trS tr) := ⟨fun i o ho => by
    have := k3 i o (by simpa using ho)
    simpa using this⟩
  have hS0 : trS tr 0 = { s with next := s.next + ops.size } := by simp [trS, k2]
  have hlate : ∀ i, late X ops i = false := fun i => by simp [late, hlr]
  have wmem : ∀ j, j ∈ wIdx X ops 0 ops.toList ↔ ∃ o, ops[j]? = some o ∧ cls X o.op = .w := by
    intro j
    rw [wIdx_mem]
    constructor
    · rintro ⟨k, o, h1, rfl, h3⟩
      simp only [Bool.and_eq_true] at h3
      exact ⟨o, by simpa using h1, isW_iff.1 h3.1⟩
    · rintro ⟨o, h1, h3⟩
      exact ⟨j, o, by simpa using h1, by omega, by simp [isW_iff.2 h3, hlate]⟩
  have amem : ∀ j, kA X ops j → j ∈ aIdx X 0 ops.toList := by
    have : ∀ (l : List Oper) (i k : Nat) o, l[k]? = some o → cls X o.op = .a → i + k ∈ aIdx X i l := by
      intro l
      induction l with
      | nil => intro i k o h; simp at h
      | cons x l ih =>
        intro i k o h hc
        unfold aIdx
        cases k with
        | zero => simp at h; subst h; rw [if_pos (isA_iff.2 hc)]; exact List.mem_cons_self ..
        | succ k =>
          have := ih (i + 1) k o (by simpa using h) hc
          rw [show i + (k + 1) = i + 1 + k by omega]
          split
          · exact List.mem_cons_of_mem _ this
          · exact this
    rintro j ⟨o, ho, hc⟩
    have := this ops.toList 0 j o (by simpa using ho) hc
    simpa using this
  have hsts := statesD_ok (tr := tr) (wIdx X ops 0 ops.toList) fun j hj => by
    obtain ⟨o, ho, _⟩ := (wmem j).1 hj
    have := (Array.getElem?_eq_some_iff.1 ho).1
    omega
  unfold drawA
  rw [g1]
  simp only [hsts]
  -- no block stands where one is to be made
  have hnoneM : ∀ m, m = 0 ∨ (∃ j, m = j + 1 ∧ j ∈ wIdx X ops 0 ops.toList) → ∀ i, m ≤ i → kA X ops i → (trS tr m).get (s.next + i) = none := by
    rintro m (rfl | ⟨j, rfl, hj⟩) i hi ⟨o, ho, hc⟩
    · rw [hS0]
      have := noneR_start _ _ _ hrc hn i o (by simpa using ho) (isA_iff.2 hc)
      rw [Nat.zero_add] at this
      exact this
    · obtain ⟨oj, hoj, hcj⟩ := (wmem j).1 hj
      have := g3 j oj (by simpa using hoj) (isW_iff.2 hcj) i (by omega) o (by simpa using ho) (isA_iff.2 hc)
      simpa using this
  have hss : ∀ m s1, (m, s1) ∈ (0, ({ s with next := s.next + ops.size } : St)) :: ((wIdx X ops 0 ops.toList).map fun j => (j + 1, trS tr (j + 1))) → (m = 0 ∨ ∃ j, m = j + 1 ∧ j ∈ wIdx X ops 0 ops.toList) ∧ s1 = trS tr m := by
    intro m s1 hm
    rcases List.mem_cons.1 hm with e | hm
    · cases e; exact ⟨.inl rfl, hS0.symm⟩
    · obtain ⟨j, hj, e⟩ := List.mem_map.1 hm
      cases e
      exact ⟨.inr ⟨j, rfl, hj⟩, rfl⟩
  have hnA : noneAll X ops s.next ((0, ({ s with next := s.next + ops.size } : St)) :: ((wIdx X ops 0 ops.toList).map fun j => (j + 1, trS tr (j + 1)))) = true := noneAll_of _ fun m s1 hm i hi hk => by
    obtain ⟨h1, rfl⟩ := hss m s1 hm
    exact hnoneM m h1 i hi hk
  have hchk : checkR X (execL X) ops s.next (wIdx X ops 0 ops.toList) (aIdx X 0 ops.toList) ((0, ({ s with next := s.next + ops.size } : St)) :: ((wIdx X ops 0 ops.toList).map fun j => (j + 1, trS tr (j + 1)))) tr 0 ops.toList tr = true := by
    refine checkR_of _ _ _ fun i o es ho htr hw => ?_
    have ho' : ops[i]? = some o := by simpa using ho
    have hi : i < ops.size := (Array.getElem?_eq_some_iff.1 ho').1
    have hes : es = (trE tr i, trS tr i) := by simp [trE, trS, htr]
    subst hes
    simp only at hw
    rw [Nat.zero_add]
    -- the step
    have hop : cls X o.op ≠ .a → ∃ v, opA X (execL X) (trE tr i) o.op (trS tr i) = some (v, trS tr (i + 1)) := fun hne => by
      rcases stepD_cases (ht.step i o ho') with ⟨h1, _⟩ | ⟨_, v, _, ⟨hc, _⟩ | ⟨_, h3⟩⟩
      · rw [hw] at h1; cases h1
      · exact absurd (isA_iff.1 hc) hne
      · exact ⟨v, h3⟩
    -- the one state
    have hone : (cls X o.op = .r ∨ cls X o.op = .q) → calmI X ops i = true → ∃ m, rangeR ops (wIdx X ops 0 ops.toList) ((0, ({ s with next := s.next + ops.size } : St)) :: ((wIdx X ops 0 ops.toList).map fun j => (j + 1, trS tr (j + 1)))) i = [(m, trS tr m)] ∧
        addA ops s.next i m tr (aIdx X 0 ops.toList) (trS tr m) = trS tr i := by
      intro hk hst'
      unfold calmI at hst'
      rw [Bool.and_eq_true] at hst'
      obtain ⟨ha, hwb⟩ := hst'
      rw [List.all_eq_true] at ha hwb
      have hab : ∀ k, k < i → kA X ops k → bef ops k i = true := fun k hki hka => by
        have := ha k (amem k hka)
        simpa [hki] using this
      have hbw : ∀ k ∈ wIdx X ops 0 ops.toList, (bef ops k i = true ↔ k < i) ∧ (bef ops i k = true ↔ i < k) := by
        intro k hkm
        have := hwb k hkm
        simp only [Bool.or_eq_true] at this
        rcases this with h1 | h1
        · have := hok.bef_lt i k h1
          refine ⟨⟨fun _ => this, fun _ => h1⟩, ⟨fun h2 => ?_, fun h2 => by omega⟩⟩
          have := hok.bef_lt k i h2; omega
        · have := hok.bef_lt k i h1
          refine ⟨⟨fun h2 => ?_, fun h2 => by omega⟩, ⟨fun _ => this, fun _ => h1⟩⟩
          have := hok.bef_lt i k h2; omega
      have hne : ∀ k ∈ wIdx X ops 0 ops.toList, k ≠ i := fun k hkm e => by
        obtain ⟨o2, ho2, hc2⟩ := (wmem k).1 hkm
        rw [e, ho'] at ho2; cases ho2
        rcases hk with hk | hk <;> rw [hk] at hc2 <;> cases hc2
      have hcnt : countL (fun j => !bef ops i j) (wIdx X ops 0 ops.toList) = countL (fun j => bef ops j i) (wIdx X ops 0 ops.toList) := by
        refine Nat.le_antisymm (countL_mono _ fun x hx h => ?_) (countL_mono _ fun x hx h => ?_)
        · have h1 : bef ops i x = false := by simpa using h
          refine ((hbw x hx).1).2 (Nat.lt_of_not_le fun hle => ?_)
          have := ((hbw x hx).2).2 (by have := hne x hx; omega)
          rw [h1] at this; cases this
        · have h1 := ((hbw x hx).1).1 h
          simp only [Bool.not_eq_true']
          cases hb : bef ops i x with
          | false => rfl
          | true => have := ((hbw x hx).2).1 hb; omega
      unfold rangeR
      rw [hcnt]
      -- how many stand ahead
      generalize hq : countL (fun j => bef ops j i) (wIdx X ops 0 ops.toList) = q
      have hsort := List.pairwise_iff_getElem.1 (wIdx_sorted (X := X) (ops := ops) ops.toList 0)
      have hql : q ≤ (wIdx X ops 0 ops.toList).length := by
        rw [← hq]
        generalize wIdx X ops 0 ops.toList = L
        induction L with
        | nil => exact Nat.le_refl _
        | cons x L ih => simp only [countL, List.length_cons]; split <;> omega
      -- the first q are those ahead of i
      have hfirst : ∀ n (hn : n < (wIdx X ops 0 ops.toList).length), (n < q ↔ (wIdx X ops 0 ops.toList)[n] < i) := by
        -- the point where they part
        obtain ⟨p, hp1, hp2, hp3⟩ : ∃ p, p ≤ (wIdx X ops 0 ops.toList).length ∧ (∀ n (hn : n < (wIdx X ops 0 ops.toList).length), n < p → (wIdx X ops 0 ops.toList)[n] < i) ∧ (∀ n (hn : n < (wIdx X ops 0 ops.toList).length), p ≤ n → ¬ (wIdx X ops 0 ops.toList)[n] < i) := by
          rcases last_of (fun n => ∃ hn : n < (wIdx X ops 0 ops.toList).length, (wIdx X ops 0 ops.toList)[n] < i) (wIdx X ops 0 ops.toList).length with h | ⟨n0, h1, ⟨h2, h3⟩, h4⟩
          · exact ⟨0, Nat.zero_le _, fun n _ hn => by omega, fun n hn _ hlt => h n hn ⟨hn, hlt⟩⟩
          · refine ⟨n0 + 1, h1, fun n hn hlt => ?_, fun n hn hle hlt => h4 n (by omega) hn ⟨hn, hlt⟩⟩
            by_cases e : n = n0
            · subst e; exact h3
            · have := hsort n n0 hn h2 (by omega); omega
        have hpq : p = q := by
          rw [← hq]
          refine (countL_split _ p hp1 (fun x hx => ?_) (fun x hx => ?_)).symm
          · obtain ⟨n, hn, rfl⟩ := List.mem_iff_getElem.1 hx
            rw [List.getElem_take]
            have hn' : n < p ∧ n < (wIdx X ops 0 ops.toList).length := by rw [List.length_take] at hn; omega
            exact ((hbw _ (List.getElem_mem hn'.2)).1).2 (hp2 n hn'.2 hn'.1)
          · obtain ⟨n, hn, rfl⟩ := List.mem_iff_getElem.1 hx
            rw [List.getElem_drop]
            rw [List.length_drop] at hn
            have := hp3 (p + n) (by omega) (by omega)
            cases hb : bef ops (wIdx X ops 0 ops.toList)[p + n] i with
            | false => rfl
            | true => exact absurd (((hbw _ (List.getElem_mem (by omega))).1).1 hb) this
        subst hpq
        exact fun n hn => ⟨hp2 n hn, fun hlt => Nat.lt_of_not_le fun hle => hp3 n hn hle hlt⟩
      have fin : ∀ m, (m = 0 ∨ ∃ j, m = j + 1 ∧ j ∈ wIdx X ops 0 ops.toList) → m ≤ i → (∀ k ∈ wIdx X ops 0 ops.toList, k < i → k < m) →
          addA ops s.next i m tr (aIdx X 0 ops.toList) (trS tr m) = trS tr i := fun m hm hmi hwm =>
        addA_here ht k1 hok hi hmi (fun k ok h1 h2 hok' hc => by
          have := hwm k ((wmem k).2 ⟨ok, hok', hc⟩) h2; omega) hab (fun k h1 h2 => hnoneM m hm k h1 h2)
      cases q with
      | zero =>
        refine ⟨0, by simp [hS0], fin 0 (.inl rfl) (Nat.zero_le _) fun k hkm hki => ?_⟩
        obtain ⟨n, hn, rfl⟩ := List.mem_iff_getElem.1 hkm
        have := (hfirst n hn).2 hki; omega
      | succ q =>
        have hqn : q < (wIdx X ops 0 ops.toList).length := by omega
        have hqi := (hfirst q hqn).1 (by omega)
        refine ⟨(wIdx X ops 0 ops.toList)[q] + 1, ?_, fin _ (.inr ⟨_, rfl, List.getElem_mem _⟩) (by omega) fun k hkm hki => ?_⟩
        · rw [List.drop_take]
          rw [show q + 1 + 1 - (q + 1) = 1 by omega, List.drop_succ_cons, List.drop_eq_getElem_cons (by simpa using hqn)]
          simp
        · obtain ⟨n, hn, rfl⟩ := List.mem_iff_getElem.1 hkm
          have hnq := (hfirst n hn).2 hki
          by_cases e : n = q
          · subst e; omega
          · have := hsort n q hn hqn (by omega); omega
    have hcase := hall i hi
    rw [ho'] at hcase
    simp only at hcase
    refine ⟨fun hk => ?_, fun hk => ?_⟩
    · cases hcm : calmI X ops i with
      | true =>
        obtain ⟨v, hv⟩ := hop (by rw [hk]; simp)
        obtain ⟨m, hm1, hm2⟩ := hone (.inl hk) hcm
        refine ⟨v, _, hv, ?_⟩
        rw [hm1]
        simp only [readsSame, hm2, hv, same_refl, Bool.and_self]
      | false =>
        rw [hk, hcm] at hcase
        simp only [Cls.isR, Bool.true_or, Bool.not_true, Bool.false_or, Bool.true_and, Bool.and_eq_true, Option.isNone_iff_eq_none, List.all_eq_true, Bool.not_eq_true'] at hcase
        obtain ⟨hgn, hno⟩ := hcase
        have hcs : (l.zip (csD X ops))[i]? = some ((l[i]'(by omega)), some (countL (fun j => bef ops j i) (wIdx X ops 0 ops.toList), countL (fun j => !bef ops i j) (wIdx X ops 0 ops.toList))) := by
          rw [List.getElem?_zip_eq_some]
          refine ⟨by simp [List.getElem?_eq_getElem (show i < l.length by omega)], ?_⟩
          simp only [csD, List.getElem?_map, List.getElem?_range hi, Option.map_some, opC, ho', hk, hcm, Cls.isR]
          rfl
        obtain ⟨v, hv, hmem⟩ := hP2 i o _ _ _ (by simpa using ho') hcs hgn hk
        refine ⟨v, _, hv, ?_⟩
        have hpl := pbsOk_mem _ hP1 _ hmem
        simp only at hpl
        -- the states
        have hrng : ∀ x ∈ rangeR ops (wIdx X ops 0 ops.toList) ((0, ({ s with next := s.next + ops.size } : St)) :: ((wIdx X ops 0 ops.toList).map fun j => (j + 1, trS tr (j + 1)))) i, pb1 v (rop X s.next none (trE tr i) x.2 (rcOp X o.op)) = true := by
          intro x hx
          refine pbL_mem _ hpl x.2 ?_
          have : (([{ s with next := s.next + ops.size }] : List St) ++ (wIdx X ops 0 ops.toList).map (fun j => trS tr (j + 1 - 0))) = ((0, ({ s with next := s.next + ops.size } : St)) :: ((wIdx X ops 0 ops.toList).map fun j => (j + 1, trS tr (j + 1)))).map Prod.snd := by
            simp [Function.comp_def]
          rw [this, ← List.map_take, ← List.map_drop]
          exact List.mem_map_of_mem hx
        generalize rangeR ops (wIdx X ops 0 ops.toList) ((0, ({ s with next := s.next + ops.size } : St)) :: ((wIdx X ops 0 ops.toList).map fun j => (j + 1, trS tr (j + 1)))) i = L at hrng
        induction L with
        | nil => rfl
        | cons x L ih =>
          obtain ⟨m, s1⟩ := x
          have h0 := hrng (m, s1) (List.mem_cons_self ..)
          simp only [readsSame]
          rw [addA_no _ hno]
          unfold pb1 at h0
          split at h0
          · rename_i u s2 hu
            simp only at hu
            simp only [rop_spec hu, h0, Bool.true_and]
            exact ih fun x hx => hrng x (List.mem_cons_of_mem _ hx)
          · cases h0
    · cases hcm : calmI X ops i with
      | true =>
        obtain ⟨v, hv⟩ := hop (by rw [hk]; simp)
        obtain ⟨m, hm1, hm2⟩ := hone (.inr hk) hcm
        obtain ⟨_, c, vs, us, e1, e2, e3, _⟩ := cls_c hk hv
        refine ⟨c, vs, us, e1, e2, e3, ?_⟩
        rw [hm1]
        simp only [argsSame, hm2, e3, sames_refl, Bool.and_self]
      | false =>
        rw [hk, hcm] at hcase
        simp [Cls.isR] at hcase
  rw [lateIds_nil hlr]
  simp only [lateOk, hchk, hnA, Bool.and_self, if_true]
  exact g2


end

/-! ### Read by simp -/

section
variable (X : Cx) {β : Type} (back : β) (fin : Fl → β) (ks : List K)

noncomputable def goC (base : Nat) (l : List ROC) (e : Env) (s : St) (H : List St) (P : List Pb) : β := match ropsC X base l e s H P with
  | some (e, s) => goN X fin ks e s
  | none => back
noncomputable def bndC (base : Nat) (x : Option (AV × St)) (d : Option Nat) (w : Bool) (c : Option (Nat × Nat)) (op : ROp) (l : List ROC) (e : Env) (H : List St) (P : List Pb) : β := match x with
  | some (v, s) => bif !w || noneC base s l then goC X back fin ks base l (setDst e d v) s (bif w then H ++ [s] else H) (addP c e op v P) else back
  | none => back
/-- the code itself, left unread -/
noncomputable def backC (c : Code) (e : Env) (s : St) : β := pop X fin ks (execL X c e s)

variable (base : Nat) (e : Env) (s : St) (H : List St) (P : List Pb) (l : List ROC)
theorem goC_nil : goC X back fin ks base [] e s H P = bif pbsOk X base H P then goN X fin ks e s else back := by
  simp only [goC, ropsC]
  cases pbsOk X base H P <;> rfl
theorem goC_cons (d : Option Nat) (a : Option Nat) (w : Bool) (op : ROp) (c : Option (Nat × Nat)) :
    goC X back fin ks base ((⟨d, none, a, w, op⟩, c) :: l) e s H P = bndC X back fin ks base (rop X base a e s op) d w c op l e H P := by
  simp only [goC, ropsC, bndC, wantR, cond_true]
  cases rop X base a e s op with
  | none => rfl
  | some x =>
    simp only
    cases (!w || noneC base x.2 l) <;> rfl
theorem goC_consG (d : Option Nat) (t : Nat) (b : Bool) (a : Option Nat) (w : Bool) (op : ROp) (c : Option (Nat × Nat)) :
    goC X back fin ks base ((⟨d, some (t, b), a, w, op⟩, c) :: l) e s H P = bndC X back fin ks base (gateR X (gBool (Env.get e t) b) base a e s op) d w c op l e H P := by
  simp only [goC, ropsC, bndC, gateR]
  have : wantR e (some (t, b)) = gBool (Env.get e t) b := rfl
  rw [this]
  cases (bif gBool (Env.get e t) b then rop X base a e s op else some (undef, s)) with
  | none => rfl
  | some x =>
    simp only
    cases (!w || noneC base x.2 l) <;> rfl
theorem bndC_some0 (v : AV) (d : Option Nat) (op : ROp) : bndC X back fin ks base (some (v, s)) d false none op l e H P = goC X back fin ks base l (setDst e d v) s H P := (fun h => h) rfl
theorem bndC_some0c (v : AV) (d : Option Nat) (lo hi : Nat) (op : ROp) : bndC X back fin ks base (some (v, s)) d false (some (lo, hi)) op l e H P = goC X back fin ks base l (setDst e d v) s H (⟨lo, hi, e, op, v⟩ :: P) := (fun h => h) rfl
theorem bndC_some1 (v : AV) (d : Option Nat) (op : ROp) : bndC X back fin ks base (some (v, s)) d true none op l e H P = bif noneC base s l then goC X back fin ks base l (setDst e d v) s (H ++ [s]) P else back := (fun h => h) rfl
theorem noneC_nil : noneC base s [] = true := (fun h => h) rfl
theorem noneC_cons0 (d : Option Nat) (g : Option (Nat × Bool)) (w : Bool) (op : ROp) (c : Option (Nat × Nat)) : noneC base s ((⟨d, g, none, w, op⟩, c) :: l) = noneC base s l := by
  simp [noneC, noneR]
theorem noneC_cons1 (i : Nat) (d : Option Nat) (g : Option (Nat × Bool)) (w : Bool) (op : ROp) (c : Option (Nat × Nat)) : noneC base s ((⟨d, g, some i, w, op⟩, c) :: l) = ((s.get (base + i)).isNone && noneC base s l) := by
  simp [noneC, noneR]
theorem pbsOk_nil : pbsOk X base H [] = true := (fun h => h) rfl
theorem pbsOk_cons (lo hi : Nat) (op : ROp) (v : AV) : pbsOk X base H (⟨lo, hi, e, op, v⟩ :: P) = (pbL X base e op v ((H.take (hi + 1)).drop lo) && pbsOk X base H P) := (fun h => h) rfl
theorem pbL_nil (op : ROp) (v : AV) : pbL X base e op v [] = true := (fun h => h) rfl
theorem pbL_cons (op : ROp) (v : AV) (L : List St) : pbL X base e op v (s :: L) = (pb1 v (rop X base none e s op) && pbL X base e op v L) := (fun h => h) rfl
def pbO (v : AV) (x : Option AV) : Bool := match x with
  | some u => same u v
  | none => false
theorem pb1_pure (v : AV) (x : Option AV) : pb1 v (pureO x s) = pbO v x := by cases x <;> rfl
theorem pbO_some (u v : AV) : pbO v (some u) = same u v := (fun h => h) rfl
theorem pb_ld1 (v : AV) (x : Opd) : pb1 v (rop X base none e s (.ld1 x)) = pbO v (ld1 (evO e x) s) := pb1_pure s v _
theorem pb_ldn (v : AV) (n : Nat) (x : Opd) : pb1 v (rop X base none e s (.ldn n x)) = pbO v (ldn n (evO e x) s) := pb1_pure s v _
theorem pb_lenL (v : AV) (x : Opd) : pb1 v (rop X base none e s (.lenL x)) = pbO v (lenRL (evO e x)) := pb1_pure s v _
theorem pb_lenS (v : AV) (x : Opd) : pb1 v (rop X base none e s (.lenS x)) = pbO v (lenRS (evO e x)) := pb1_pure s v _
theorem pb_lenM (v : AV) (x : Opd) : pb1 v (rop X base none e s (.lenM x)) = pbO v (lenRM s (evO e x)) := pb1_pure s v _
theorem app_cons {α : Type} (x : α) (l m : List α) : (x :: l) ++ m = x :: (l ++ m) := (fun h => h) rfl
theorem app_nil {α : Type} (m : List α) : ([] : List α) ++ m = m := (fun h => h) rfl

theorem go_drc [Stat] {c : Code} {n : Nat} {l : List ROC} (h : rcDrc X c = some (n, l)) (fin : Fl → β) (ks : List K) (e : Env) (s : St) : go X fin ks (.raw c) e s =
    bif noneC s.next s l then goC X (backC X fin ks c e s) fin ks s.next l e { s with next := s.next + n } [{ s with next := s.next + n }] [] else backC X fin ks c e s := by
  unfold rcDrc at h
  split at h
  · rename_i id ops d
    split at h
    · rename_i hc
      simp only [Bool.and_eq_true] at hc
      split at h
      · rename_i l0 hl
        cases h
        have hz : noneC s.next s (l0.zip (csD X ops)) = noneR s.next s l0 := by
          unfold noneC
          rw [List.map_fst_zip]
          rw [rcOps_length _ _ _ hl]; simp [csD]
        rw [hz]
        cases hn : noneR s.next s l0 with
        | false => rfl
        | true =>
          simp only [cond_true, goC]
          split
          · rename_i e1 s1 h1
            have := drc_spec hl hc.1.2 hc.2 hn h1
            simp only [go, den, goN]
            rw [execL_eq]
            simp only [stepA, hc.1.1, if_true, this]
          · rfl
      · cases h
    · cases h
  · cases h
end

@[congr] theorem bndC_congr {X : Cx} {β : Type} {back : β} {fin : Fl → β} {ks : List K} {base : Nat} {x x' : Option (AV × St)} {d : Option Nat} {w : Bool} {c : Option (Nat × Nat)} {op : ROp} {l : List ROC} {e : Env} {H : List St} {P : List Pb} (h : x = x') : bndC X back fin ks base x d w c op l e H P = bndC X back fin ks base x' d w c op l e H P := by rw [h]

attribute [go_sem ↓] goC_nil goC_cons goC_consG bndC_some0 bndC_some0c bndC_some1 noneC_nil noneC_cons0 noneC_cons1 pbsOk_nil pbsOk_cons pbL_nil pbL_cons pb_ld1 pb_ldn pb_lenL pb_lenS pb_lenM app_cons app_nil List.take_succ_cons List.take_zero List.drop_succ_cons List.drop_zero
attribute [go_sem] pbO_some same_refl

end Go.Am

set_option linter.all false
namespace Go.Am
open Go
variable [MaxLen]
set_option maxRecDepth 100000
set_option maxHeartbeats 8000000

/-- strobe/stroberef04.bit; results .tmp 4 -/
def r164 : RC := (.seq (.ops [⟨some 4, none, none, false, .mov (.v (.int .i64 0))⟩]) (.seq (.ops [⟨some 5, none, none, false, .mov (.t 0)⟩,
  ⟨some 6, none, none, false, .mov (.t 1)⟩,
  ⟨some 7, none, none, false, .bin .shr 3 false (.t 5) (.t 6)⟩,
  ⟨some 8, none, none, false, .bin .and 3 true (.t 7) (.v (.int .i64 1))⟩,
  ⟨some 4, none, none, false, .mov (.t 8)⟩]) .ret))
theorem k164 : fnRC 164 = some ([.tmp 4], r164) := by kernel_rfl

/-- strobe/stroberef04.before; results .tmp 4 -/
def r163 : RC := (.seq (.ops [⟨some 4, none, none, false, .mov (.v (.int .i64 0))⟩]) (.seq (.ops [⟨some 5, none, none, false, .mov (.t 0)⟩,
  ⟨some 6, none, none, false, .mov (.t 1)⟩,
  ⟨some 7, none, none, false, .bin .sub 3 true (.t 6) (.v (.int .i64 1))⟩,
  ⟨some 8, none, none, false, .raw (.call { callee := .builtin .max, args := #[(.const (.int .i64 0)), (.tmp 7)], argTypes := #[3, 3] })⟩,
  ⟨some 9, none, none, false, .ixa 1 (.t 5) (.t 8)⟩,
  ⟨some 10, none, none, false, .ld1 (.t 9)⟩,
  ⟨some 4, none, none, false, .mov (.t 10)⟩]) .ret))
theorem k163 : fnRC 163 = some ([.tmp 4], r163) := by kernel_rfl

def r165_l0 : RC := (.seq (.seq (.ops [⟨some 6, none, none, false, .mov (.t 5)⟩,
  ⟨some 7, none, none, false, .mov (.t 0)⟩,
  ⟨some 8, none, none, false, .lenS (.t 7)⟩,
  ⟨some 9, none, none, false, .bin .lss 3 false (.t 6) (.t 8)⟩]) (.cond (.t 9) .skip (.exit 0))) (.seq (.block 1 (.seq (.ops [⟨some 12, none, none, false, .mov (.t 0)⟩,
  ⟨some 13, none, none, false, .mov (.t 5)⟩,
  ⟨some 14, none, none, false, .ixs (.t 12) (.t 13)⟩,
  ⟨some 15, none, none, false, .bin .eql 5 true (.t 14) (.v (.int .u8 48))⟩,
  ⟨some 16, none, none, false, .mov (.t 15)⟩,
  ⟨some 17, some (16, true), none, false, .mov (.t 1)⟩,
  ⟨some 18, some (16, true), none, false, .mov (.t 5)⟩,
  ⟨some 19, some (16, true), none, false, .call 164 [(.t 17), (.t 18)]⟩,
  ⟨some 20, some (16, true), none, false, .bin .neq 3 true (.t 19) (.v (.int .i64 0))⟩,
  ⟨some 21, none, none, false, .pick (.t 16) (.t 20) (.v (.bool false))⟩,
  ⟨some 22, none, none, false, .mov (.t 21)⟩,
  ⟨some 23, some (22, false), none, false, .mov (.t 0)⟩,
  ⟨some 24, some (22, false), none, false, .mov (.t 5)⟩,
  ⟨some 25, some (22, false), none, false, .ixs (.t 23) (.t 24)⟩,
  ⟨some 26, some (22, false), none, false, .bin .eql 5 true (.t 25) (.v (.int .u8 49))⟩,
  ⟨some 27, some (22, false), none, false, .mov (.t 26)⟩,
  ⟨some 28, some (27, true), none, false, .mov (.t 1)⟩,
  ⟨some 29, some (27, true), none, false, .mov (.t 5)⟩,
  ⟨some 30, some (27, true), none, false, .call 164 [(.t 28), (.t 29)]⟩,
  ⟨some 31, some (27, true), none, false, .bin .neq 3 true (.t 30) (.v (.int .i64 1))⟩,
  ⟨some 32, some (22, false), none, false, .pick (.t 27) (.t 31) (.v (.bool false))⟩,
  ⟨some 33, none, none, false, .pick (.t 22) (.v (.bool true)) (.t 32)⟩]) (.cond (.t 33) (.seq (.ops [⟨some 4, none, none, false, .mov (.v (.bool false))⟩]) .ret) .skip))) (.ops [⟨some 10, none, none, false, .mov (.t 5)⟩,
  ⟨some 11, none, none, false, .bin .add 3 true (.t 10) (.v (.int .i64 1))⟩,
  ⟨some 5, none, none, false, .mov (.t 11)⟩])))
/-- strobe/stroberef04.matches; results .tmp 4 -/
def r165 : RC := (.seq (.ops [⟨some 4, none, none, false, .mov (.v (.bool false))⟩]) (.seq (.seq (.ops [⟨some 5, none, none, false, .mov (.v (.int .i64 0))⟩]) (.block 0 (.loop r165_l0))) (.seq (.ops [⟨some 4, none, none, false, .mov (.v (.bool true))⟩]) .ret)))
theorem k165 : fnRC 165 = some ([.tmp 4], r165) := by kernel_rfl

def r167_l0 : RC := (.seq (.seq (.drw 18 [⟨some 7, none, none, false, .mov (.t 2)⟩,
  ⟨some 8, none, none, false, .bin .gtr 3 true (.t 7) (.v (.int .i64 0))⟩,
  ⟨some 9, none, none, false, .mov (.t 8)⟩,
  ⟨some 10, some (9, true), none, false, .mov (.t 0)⟩,
  ⟨some 11, some (9, true), none, false, .mov (.t 2)⟩,
  ⟨some 12, some (9, true), none, false, .bin .sub 3 true (.t 11) (.v (.int .i64 1))⟩,
  ⟨some 13, some (9, true), none, false, .ixa 1 (.t 10) (.t 12)⟩,
  ⟨some 14, some (9, true), none, false, .ld1 (.t 13)⟩,
  ⟨some 15, some (9, true), none, false, .mov (.t 1)⟩,
  ⟨some 16, some (9, true), none, false, .call 164 [(.t 14), (.t 15)]⟩,
  ⟨some 17, some (9, true), none, false, .mov (.t 0)⟩,
  ⟨some 18, some (9, true), none, false, .mov (.t 2)⟩,
  ⟨some 19, some (9, true), none, false, .ixa 1 (.t 17) (.t 18)⟩,
  ⟨some 20, some (9, true), none, false, .ld1 (.t 19)⟩,
  ⟨some 21, some (9, true), none, false, .mov (.t 1)⟩,
  ⟨some 22, some (9, true), none, false, .call 164 [(.t 20), (.t 21)]⟩,
  ⟨some 23, some (9, true), none, false, .bin .eql 3 false (.t 16) (.t 22)⟩,
  ⟨some 24, none, none, false, .pick (.t 9) (.t 23) (.v (.bool false))⟩]) (.cond (.t 24) .skip (.exit 0))) (.block 1 (.ops [⟨some 25, none, none, false, .mov (.t 2)⟩,
  ⟨some 26, none, none, false, .bin .sub 3 true (.t 25) (.v (.int .i64 1))⟩,
  ⟨some 2, none, none, false, .mov (.t 26)⟩])))
/-- strobe/stroberef04.run; results .tmp 6 -/
def r167 : RC := (.seq (.ops [⟨some 6, none, none, false, .mov (.v (.int .i64 0))⟩]) (.seq (.block 0 (.loop r167_l0)) (.seq (.ops [⟨some 27, none, none, false, .mov (.t 2)⟩,
  ⟨some 6, none, none, false, .mov (.t 27)⟩]) .ret)))
theorem k167 : fnRC 167 = some ([.tmp 6], r167) := by kernel_rfl

/-- strobe/stroberef04.ended; results .tmp 8,.tmp 9 -/
def r166 : RC := (.seq (.ops [⟨some 8, none, none, false, .mov (.v (.int .i64 0))⟩,
  ⟨some 9, none, none, false, .mov (.v (.bool false))⟩]) (.seq (.seq (.ops [⟨some 11, none, none, false, .mov (.t 3)⟩,
  ⟨some 12, none, none, false, .bin .eql 3 true (.t 11) (.v (.int .i64 0))⟩,
  ⟨some 13, none, none, false, .mov (.t 12)⟩,
  ⟨some 14, some (13, false), none, false, .mov (.t 0)⟩,
  ⟨some 15, some (13, false), none, false, .mov (.t 3)⟩,
  ⟨some 16, some (13, false), none, false, .ixa 1 (.t 14) (.t 15)⟩,
  ⟨some 17, some (13, false), none, false, .ld1 (.t 16)⟩,
  ⟨some 18, some (13, false), none, false, .mov (.t 1)⟩,
  ⟨some 19, some (13, false), none, false, .call 164 [(.t 17), (.t 18)]⟩,
  ⟨some 20, some (13, false), none, false, .mov (.t 2)⟩,
  ⟨some 21, some (13, false), none, false, .bin .eql 3 false (.t 19) (.t 20)⟩,
  ⟨some 22, none, none, false, .pick (.t 13) (.v (.bool true)) (.t 21)⟩,
  ⟨some 23, none, none, false, .mov (.t 22)⟩,
  ⟨some 24, some (23, false), none, false, .mov (.t 0)⟩,
  ⟨some 25, some (23, false), none, false, .mov (.t 3)⟩,
  ⟨some 26, some (23, false), none, false, .bin .sub 3 true (.t 25) (.v (.int .i64 1))⟩,
  ⟨some 27, some (23, false), none, false, .ixa 1 (.t 24) (.t 26)⟩,
  ⟨some 28, some (23, false), none, false, .ld1 (.t 27)⟩,
  ⟨some 29, some (23, false), none, false, .mov (.t 1)⟩,
  ⟨some 30, some (23, false), none, false, .call 164 [(.t 28), (.t 29)]⟩,
  ⟨some 31, some (23, false), none, false, .mov (.t 2)⟩,
  ⟨some 32, some (23, false), none, false, .bin .neq 3 false (.t 30) (.t 31)⟩,
  ⟨some 33, none, none, false, .pick (.t 23) (.v (.bool true)) (.t 32)⟩]) (.cond (.t 33) (.seq (.ops [⟨some 8, none, none, false, .mov (.v (.int .i64 0))⟩,
  ⟨some 9, none, none, false, .mov (.v (.bool false))⟩]) .ret) .skip)) (.seq (.ops [⟨some 34, none, none, false, .mov (.t 0)⟩,
  ⟨some 35, none, none, false, .mov (.t 1)⟩,
  ⟨some 36, none, none, false, .mov (.t 3)⟩,
  ⟨some 37, none, none, false, .bin .sub 3 true (.t 36) (.v (.int .i64 1))⟩,
  ⟨some 38, none, none, false, .call 167 [(.t 34), (.t 35), (.t 37)]⟩,
  ⟨some 10, none, none, false, .mov (.t 38)⟩]) (.seq (.ops [⟨some 39, none, none, false, .mov (.t 10)⟩,
  ⟨some 40, none, none, false, .mov (.t 10)⟩,
  ⟨some 41, none, none, false, .bin .gtr 3 true (.t 40) (.v (.int .i64 0))⟩,
  ⟨some 8, none, none, false, .mov (.t 39)⟩,
  ⟨some 9, none, none, false, .mov (.t 41)⟩]) .ret))))
theorem k166 : fnRC 166 = some ([.tmp 8, .tmp 9], r166) := by kernel_rfl

/-- strobe/strobelaw04.shortSignal; results .tmp 4 -/
def r22 : RC := (.seq (.ops [⟨some 4, none, none, false, .mov (.v (.bool false))⟩]) (.seq (.ops [⟨some 5, none, none, false, .mov (.t 0)⟩,
  ⟨some 6, none, none, false, .lenL (.t 5)⟩,
  ⟨some 7, none, none, false, .mov (.t 1)⟩,
  ⟨some 8, none, none, false, .bin .leq 3 false (.t 6) (.t 7)⟩,
  ⟨some 9, none, none, false, .mov (.t 8)⟩,
  ⟨some 10, some (9, false), none, false, .mov (.t 0)⟩,
  ⟨some 11, some (9, false), none, false, .lenL (.t 10)⟩,
  ⟨some 12, some (9, false), none, false, .bin .gtr 3 true (.t 11) (.v (.int .i64 4096))⟩,
  ⟨some 13, some (9, false), none, false, .mov (.t 12)⟩,
  ⟨some 14, some (13, true), none, false, .mov (.t 0)⟩,
  ⟨some 15, some (13, true), none, false, .lenL (.t 14)⟩,
  ⟨some 16, some (13, true), none, false, .bin .leq 3 true (.t 15) (.v (.int .i64 4098))⟩,
  ⟨some 17, some (9, false), none, false, .pick (.t 13) (.t 16) (.v (.bool false))⟩,
  ⟨some 18, none, none, false, .pick (.t 9) (.v (.bool true)) (.t 17)⟩,
  ⟨some 4, none, none, false, .mov (.t 18)⟩]) .ret))
theorem k22 : fnRC 22 = some ([.tmp 4], r22) := by kernel_rfl

def r25_l0 : RC := (.seq (.seq (.ops [⟨some 4, none, none, false, .mov (.t 3)⟩,
  ⟨some 5, none, none, false, .mov (.t 0)⟩,
  ⟨some 6, none, none, false, .lenL (.t 5)⟩,
  ⟨some 7, none, none, false, .bin .lss 3 false (.t 4) (.t 6)⟩]) (.cond (.t 7) .skip (.exit 0))) (.seq (.block 1 (.seq (.ops [⟨some 10, none, none, false, .mov (.t 0)⟩,
  ⟨some 11, none, none, false, .mov (.t 3)⟩,
  ⟨some 12, none, none, false, .ixa 1 (.t 10) (.t 11)⟩,
  ⟨some 13, none, none, false, .ld1 (.t 12)⟩,
  ⟨some 14, none, none, false, .bin .neq 3 true (.t 13) (.v (.int .i64 0))⟩]) (.cond (.t 14) (.seq (.ops [⟨some 15, none, none, false, .mov (.t 0)⟩,
  ⟨some 16, none, none, false, .mov (.t 3)⟩,
  ⟨some 17, none, none, false, .ixa 1 (.t 15) (.t 16)⟩,
  ⟨some 18, none, none, false, .ld1 (.t 17)⟩,
  ⟨some 2, none, none, false, .mov (.t 18)⟩]) .ret) .skip))) (.ops [⟨some 8, none, none, false, .mov (.t 3)⟩,
  ⟨some 9, none, none, false, .bin .add 3 true (.t 8) (.v (.int .i64 1))⟩,
  ⟨some 3, none, none, false, .mov (.t 9)⟩])))
/-- strobe/strobelaw04.first; results .tmp 2 -/
def r25 : RC := (.seq (.ops [⟨some 2, none, none, false, .mov (.v (.int .i64 0))⟩]) (.seq (.seq (.ops [⟨some 3, none, none, false, .mov (.v (.int .i64 0))⟩]) (.block 0 (.loop r25_l0))) (.seq (.ops [⟨some 2, none, none, false, .mov (.v (.int .i64 0))⟩]) .ret)))
theorem k25 : fnRC 25 = some ([.tmp 2], r25) := by kernel_rfl

def r29_l0 : RC := (.seq (.seq (.ops [⟨some 11, none, none, false, .mov (.t 5)⟩,
  ⟨some 12, none, none, false, .mov (.t 0)⟩,
  ⟨some 13, none, none, false, .lenL (.t 12)⟩,
  ⟨some 14, none, none, false, .bin .lss 3 false (.t 11) (.t 13)⟩]) (.cond (.t 14) .skip (.exit 0))) (.seq (.block 1 (.seq (.drw 9 [⟨some 17, none, none, false, .mov (.t 0)⟩,
  ⟨some 18, none, none, false, .mov (.t 5)⟩,
  ⟨some 19, none, none, false, .ixa 1 (.t 17) (.t 18)⟩,
  ⟨some 20, none, none, false, .ld1 (.t 19)⟩,
  ⟨some 21, none, none, false, .mov (.t 1)⟩,
  ⟨some 22, none, none, false, .mov (.t 5)⟩,
  ⟨some 23, none, none, false, .ixa 1 (.t 21) (.t 22)⟩,
  ⟨some 24, none, none, false, .ld1 (.t 23)⟩,
  ⟨some 25, none, none, false, .bin .neq 4 false (.t 20) (.t 24)⟩]) (.cond (.t 25) (.seq (.ops [⟨some 4, none, none, false, .mov (.v (.bool false))⟩]) .ret) .skip))) (.ops [⟨some 15, none, none, false, .mov (.t 5)⟩,
  ⟨some 16, none, none, false, .bin .add 3 true (.t 15) (.v (.int .i64 1))⟩,
  ⟨some 5, none, none, false, .mov (.t 16)⟩])))
/-- strobe/strobelaw04.sameFlags; results .tmp 4 -/
def r29 : RC := (.seq (.ops [⟨some 4, none, none, false, .mov (.v (.bool false))⟩]) (.seq (.seq (.ops [⟨some 6, none, none, false, .mov (.t 0)⟩,
  ⟨some 7, none, none, false, .lenL (.t 6)⟩,
  ⟨some 8, none, none, false, .mov (.t 1)⟩,
  ⟨some 9, none, none, false, .lenL (.t 8)⟩,
  ⟨some 10, none, none, false, .bin .neq 3 false (.t 7) (.t 9)⟩]) (.cond (.t 10) (.seq (.ops [⟨some 4, none, none, false, .mov (.v (.bool false))⟩]) .ret) .skip)) (.seq (.seq (.ops [⟨some 5, none, none, false, .mov (.v (.int .i64 0))⟩]) (.block 0 (.loop r29_l0))) (.seq (.ops [⟨some 4, none, none, false, .mov (.v (.bool true))⟩]) .ret))))
theorem k29 : fnRC 29 = some ([.tmp 4], r29) := by kernel_rfl

def r28_l0 : RC := (.seq (.seq (.ops [⟨some 9, none, none, false, .mov (.t 5)⟩,
  ⟨some 10, none, none, false, .mov (.t 1)⟩,
  ⟨some 11, none, none, false, .lenL (.t 10)⟩,
  ⟨some 12, none, none, false, .bin .lss 3 false (.t 9) (.t 11)⟩]) (.cond (.t 12) .skip (.exit 0))) (.seq (.block 1 (.seq (.drw 8 [⟨some 15, none, none, false, .mov (.t 1)⟩,
  ⟨some 16, none, none, false, .mov (.t 5)⟩,
  ⟨some 17, none, none, false, .ixa 1 (.t 15) (.t 16)⟩,
  ⟨some 18, none, none, false, .ld1 (.t 17)⟩,
  ⟨some 19, none, none, false, .mov (.t 0)⟩,
  ⟨some 20, none, none, false, .bin .shl 3 true (.v (.int .i64 1)) (.t 19)⟩,
  ⟨some 21, none, none, false, .bin .sub 3 true (.t 20) (.v (.int .i64 1))⟩,
  ⟨some 22, none, none, false, .call 94 [(.t 18), (.v (.int .i64 0)), (.t 21)]⟩]) (.cond (.t 22) (.seq (.ops [⟨some 4, none, none, false, .mov (.v (.int .i64 3))⟩]) .ret) .skip))) (.ops [⟨some 13, none, none, false, .mov (.t 5)⟩,
  ⟨some 14, none, none, false, .bin .add 3 true (.t 13) (.v (.int .i64 1))⟩,
  ⟨some 5, none, none, false, .mov (.t 14)⟩])))
/-- strobe/stroberef04.CheckSignal; results .tmp 4 -/
def r28 : RC := (.seq (.ops [⟨some 4, none, none, false, .mov (.v (.int .i64 0))⟩]) (.seq (.seq (.ops [⟨some 6, none, none, false, .mov (.t 1)⟩,
  ⟨some 7, none, none, false, .lenL (.t 6)⟩,
  ⟨some 8, none, none, false, .bin .gtr 3 true (.t 7) (.v (.int .i64 4096))⟩]) (.cond (.t 8) (.seq (.ops [⟨some 4, none, none, false, .mov (.v (.int .i64 5))⟩]) .ret) .skip)) (.seq (.seq (.ops [⟨some 5, none, none, false, .mov (.v (.int .i64 0))⟩]) (.block 0 (.loop r28_l0))) (.seq (.ops [⟨some 4, none, none, false, .mov (.v (.int .i64 0))⟩]) .ret))))
theorem k28 : fnRC 28 = some ([.tmp 4], r28) := by kernel_rfl

def r97_l0 : RC := (.seq (.seq (.ops [⟨some 155, none, none, false, .mov (.t 14)⟩,
  ⟨some 156, none, none, false, .mov (.t 2)⟩,
  ⟨some 157, none, none, false, .bin .leq 3 false (.t 155) (.t 156)⟩]) (.cond (.t 157) .skip (.exit 1))) (.seq (.block 2 (.drw 20 [⟨some 160, none, none, false, .mov (.t 13)⟩,
  ⟨some 161, none, none, false, .mov (.t 160)⟩,
  ⟨some 162, some (161, false), none, false, .mov (.t 1)⟩,
  ⟨some 163, some (161, false), none, false, .mov (.t 14)⟩,
  ⟨some 164, some (161, false), none, false, .ixa 1 (.t 162) (.t 163)⟩,
  ⟨some 165, some (161, false), none, false, .ld1 (.t 164)⟩,
  ⟨some 166, some (161, false), none, false, .fa 1 (.t 3)⟩,
  ⟨some 167, some (161, false), none, false, .ld1 (.t 166)⟩,
  ⟨some 168, some (161, false), none, false, .call 164 [(.t 165), (.t 167)]⟩,
  ⟨some 169, some (161, false), none, false, .mov (.t 1)⟩,
  ⟨some 170, some (161, false), none, false, .mov (.t 14)⟩,
  ⟨some 171, some (161, false), none, false, .bin .sub 3 true (.t 170) (.v (.int .i64 1))⟩,
  ⟨some 172, some (161, false), none, false, .ixa 1 (.t 169) (.t 171)⟩,
  ⟨some 173, some (161, false), none, false, .ld1 (.t 172)⟩,
  ⟨some 174, some (161, false), none, false, .fa 1 (.t 3)⟩,
  ⟨some 175, some (161, false), none, false, .ld1 (.t 174)⟩,
  ⟨some 176, some (161, false), none, false, .call 164 [(.t 173), (.t 175)]⟩,
  ⟨some 177, some (161, false), none, false, .bin .neq 3 false (.t 168) (.t 176)⟩,
  ⟨some 178, none, none, false, .pick (.t 161) (.v (.bool true)) (.t 177)⟩,
  ⟨some 13, none, none, false, .mov (.t 178)⟩])) (.ops [⟨some 158, none, none, false, .mov (.t 14)⟩,
  ⟨some 159, none, none, false, .bin .add 3 true (.t 158) (.v (.int .i64 1))⟩,
  ⟨some 14, none, none, false, .mov (.t 159)⟩])))
def r97_l1 : RC := (.seq (.seq (.ops [⟨some 205, none, none, false, .mov (.t 17)⟩,
  ⟨some 206, none, none, false, .mov (.t 2)⟩,
  ⟨some 207, none, none, false, .bin .lss 3 false (.t 205) (.t 206)⟩,
  ⟨some 208, none, none, false, .mov (.t 207)⟩,
  ⟨some 209, some (208, true), none, false, .mov (.t 16)⟩,
  ⟨some 210, none, none, false, .pick (.t 208) (.t 209) (.v (.bool false))⟩]) (.cond (.t 210) .skip (.exit 3))) (.seq (.block 4 (.drw 9 [⟨some 213, none, none, false, .mov (.t 1)⟩,
  ⟨some 214, none, none, false, .mov (.t 17)⟩,
  ⟨some 215, none, none, false, .ixa 1 (.t 213) (.t 214)⟩,
  ⟨some 216, none, none, false, .ld1 (.t 215)⟩,
  ⟨some 217, none, none, false, .fa 2 (.t 3)⟩,
  ⟨some 218, none, none, false, .ld1 (.t 217)⟩,
  ⟨some 219, none, none, false, .call 164 [(.t 216), (.t 218)]⟩,
  ⟨some 220, none, none, false, .bin .eql 3 true (.t 219) (.v (.int .i64 0))⟩,
  ⟨some 16, none, none, false, .mov (.t 220)⟩])) (.ops [⟨some 211, none, none, false, .mov (.t 17)⟩,
  ⟨some 212, none, none, false, .bin .add 3 true (.t 211) (.v (.int .i64 1))⟩,
  ⟨some 17, none, none, false, .mov (.t 212)⟩])))
def r97_l2 : RC := (.seq (.seq (.ops [⟨some 232, none, none, false, .mov (.t 19)⟩,
  ⟨some 233, none, none, false, .fa 6 (.t 3)⟩,
  ⟨some 234, none, none, false, .ld1 (.t 233)⟩,
  ⟨some 235, none, none, false, .lenL (.t 234)⟩,
  ⟨some 236, none, none, false, .bin .lss 3 false (.t 232) (.t 235)⟩]) (.cond (.t 236) .skip (.exit 5))) (.seq (.block 6 (.seq (.ops [⟨some 239, none, none, false, .fa 6 (.t 3)⟩,
  ⟨some 240, none, none, false, .ld1 (.t 239)⟩,
  ⟨some 241, none, none, false, .mov (.t 19)⟩,
  ⟨some 242, none, none, false, .ixa 7 (.t 240) (.t 241)⟩,
  ⟨some 243, none, none, false, .ldn 7 (.t 242)⟩,
  ⟨some 244, none, none, false, .mov (.t 1)⟩,
  ⟨some 245, none, none, false, .mov (.t 2)⟩,
  ⟨some 246, none, none, false, .call 97 [(.t 243), (.t 244), (.t 245)]⟩]) (.cond (.t 246) (.ops [⟨some 247, none, none, false, .mov (.t 18)⟩,
  ⟨some 248, none, none, false, .bin .add 3 true (.t 247) (.v (.int .i64 1))⟩,
  ⟨some 18, none, none, false, .mov (.t 248)⟩]) .skip))) (.ops [⟨some 237, none, none, false, .mov (.t 19)⟩,
  ⟨some 238, none, none, false, .bin .add 3 true (.t 237) (.v (.int .i64 1))⟩,
  ⟨some 19, none, none, false, .mov (.t 238)⟩])))
/-- strobe/stroberef04.At; results .tmp 6 -/
def r97 : RC := (.seq (.ops [⟨some 3, none, none, false, .box 39 (.t 0)⟩,
  ⟨some 6, none, none, false, .mov (.v (.bool false))⟩]) (.seq (.drw 9 [⟨some 20, none, none, false, .mov (.t 1)⟩,
  ⟨some 21, none, none, false, .mov (.t 2)⟩,
  ⟨some 22, none, none, false, .ixa 1 (.t 20) (.t 21)⟩,
  ⟨some 23, none, none, false, .ld1 (.t 22)⟩,
  ⟨some 24, none, none, false, .mov (.t 1)⟩,
  ⟨some 25, none, none, false, .mov (.t 2)⟩,
  ⟨some 26, none, none, false, .call 163 [(.t 24), (.t 25)]⟩,
  ⟨some 7, none, none, false, .mov (.t 23)⟩,
  ⟨some 8, none, none, false, .mov (.t 26)⟩]) (.seq (.seq (.ops [⟨some 27, none, none, false, .fa 0 (.t 3)⟩,
  ⟨some 28, none, none, false, .ld1 (.t 27)⟩]) (.block 0 (.seq (.ops [⟨some 30, none, none, false, .bin .eql 9 true (.t 28) (.v (.str [104, 105, 103, 104]))⟩,
  ⟨some 29, none, none, false, .mov (.t 30)⟩]) (.cond (.t 29) (.seq (.ops [⟨some 31, none, none, false, .mov (.t 7)⟩,
  ⟨some 32, none, none, false, .fa 1 (.t 3)⟩,
  ⟨some 33, none, none, false, .ld1 (.t 32)⟩,
  ⟨some 34, none, none, false, .call 164 [(.t 31), (.t 33)]⟩,
  ⟨some 35, none, none, false, .bin .eql 3 true (.t 34) (.v (.int .i64 1))⟩,
  ⟨some 6, none, none, false, .mov (.t 35)⟩]) .ret) (.seq (.ops [⟨some 37, none, none, false, .bin .eql 9 true (.t 28) (.v (.str [108, 111, 119]))⟩,
  ⟨some 36, none, none, false, .mov (.t 37)⟩]) (.cond (.t 36) (.seq (.ops [⟨some 38, none, none, false, .mov (.t 7)⟩,
  ⟨some 39, none, none, false, .fa 1 (.t 3)⟩,
  ⟨some 40, none, none, false, .ld1 (.t 39)⟩,
  ⟨some 41, none, none, false, .call 164 [(.t 38), (.t 40)]⟩,
  ⟨some 42, none, none, false, .bin .eql 3 true (.t 41) (.v (.int .i64 0))⟩,
  ⟨some 6, none, none, false, .mov (.t 42)⟩]) .ret) (.seq (.ops [⟨some 44, none, none, false, .bin .eql 9 true (.t 28) (.v (.str [114, 105, 115, 101]))⟩,
  ⟨some 43, none, none, false, .mov (.t 44)⟩]) (.cond (.t 43) (.seq (.ops [⟨some 45, none, none, false, .mov (.t 7)⟩,
  ⟨some 46, none, none, false, .fa 1 (.t 3)⟩,
  ⟨some 47, none, none, false, .ld1 (.t 46)⟩,
  ⟨some 48, none, none, false, .call 164 [(.t 45), (.t 47)]⟩,
  ⟨some 49, none, none, false, .bin .eql 3 true (.t 48) (.v (.int .i64 1))⟩,
  ⟨some 50, none, none, false, .mov (.t 49)⟩,
  ⟨some 51, some (50, true), none, false, .mov (.t 8)⟩,
  ⟨some 52, some (50, true), none, false, .fa 1 (.t 3)⟩,
  ⟨some 53, some (50, true), none, false, .ld1 (.t 52)⟩,
  ⟨some 54, some (50, true), none, false, .call 164 [(.t 51), (.t 53)]⟩,
  ⟨some 55, some (50, true), none, false, .bin .eql 3 true (.t 54) (.v (.int .i64 0))⟩,
  ⟨some 56, none, none, false, .pick (.t 50) (.t 55) (.v (.bool false))⟩,
  ⟨some 6, none, none, false, .mov (.t 56)⟩]) .ret) (.seq (.ops [⟨some 58, none, none, false, .bin .eql 9 true (.t 28) (.v (.str [102, 97, 108, 108]))⟩,
  ⟨some 57, none, none, false, .mov (.t 58)⟩]) (.cond (.t 57) (.seq (.ops [⟨some 59, none, none, false, .mov (.t 7)⟩,
  ⟨some 60, none, none, false, .fa 1 (.t 3)⟩,
  ⟨some 61, none, none, false, .ld1 (.t 60)⟩,
  ⟨some 62, none, none, false, .call 164 [(.t 59), (.t 61)]⟩,
  ⟨some 63, none, none, false, .bin .eql 3 true (.t 62) (.v (.int .i64 0))⟩,
  ⟨some 64, none, none, false, .mov (.t 63)⟩,
  ⟨some 65, some (64, true), none, false, .mov (.t 8)⟩,
  ⟨some 66, some (64, true), none, false, .fa 1 (.t 3)⟩,
  ⟨some 67, some (64, true), none, false, .ld1 (.t 66)⟩,
  ⟨some 68, some (64, true), none, false, .call 164 [(.t 65), (.t 67)]⟩,
  ⟨some 69, some (64, true), none, false, .bin .eql 3 true (.t 68) (.v (.int .i64 1))⟩,
  ⟨some 70, none, none, false, .pick (.t 64) (.t 69) (.v (.bool false))⟩,
  ⟨some 6, none, none, false, .mov (.t 70)⟩]) .ret) (.seq (.ops [⟨some 72, none, none, false, .bin .eql 9 true (.t 28) (.v (.str [112, 97, 116, 116, 101, 114, 110]))⟩,
  ⟨some 71, none, none, false, .mov (.t 72)⟩]) (.cond (.t 71) (.seq (.ops [⟨some 73, none, none, false, .fa 5 (.t 3)⟩,
  ⟨some 74, none, none, false, .ld1 (.t 73)⟩,
  ⟨some 75, none, none, false, .mov (.t 7)⟩,
  ⟨some 76, none, none, false, .call 165 [(.t 74), (.t 75)]⟩,
  ⟨some 6, none, none, false, .mov (.t 76)⟩]) .ret) (.seq (.ops [⟨some 78, none, none, false, .bin .eql 9 true (.t 28) (.v (.str [101, 110, 116, 101, 114]))⟩,
  ⟨some 77, none, none, false, .mov (.t 78)⟩]) (.cond (.t 77) (.seq (.ops [⟨some 79, none, none, false, .fa 5 (.t 3)⟩,
  ⟨some 80, none, none, false, .ld1 (.t 79)⟩,
  ⟨some 81, none, none, false, .mov (.t 7)⟩,
  ⟨some 82, none, none, false, .call 165 [(.t 80), (.t 81)]⟩,
  ⟨some 83, none, none, false, .mov (.t 82)⟩,
  ⟨some 84, some (83, true), none, false, .fa 5 (.t 3)⟩,
  ⟨some 85, some (83, true), none, false, .ld1 (.t 84)⟩,
  ⟨some 86, some (83, true), none, false, .mov (.t 8)⟩,
  ⟨some 87, some (83, true), none, false, .call 165 [(.t 85), (.t 86)]⟩,
  ⟨some 88, some (83, true), none, false, .un .not (.t 87)⟩,
  ⟨some 89, none, none, false, .pick (.t 83) (.t 88) (.v (.bool false))⟩,
  ⟨some 6, none, none, false, .mov (.t 89)⟩]) .ret) (.seq (.ops [⟨some 91, none, none, false, .bin .eql 9 true (.t 28) (.v (.str [112, 117, 108, 115, 101]))⟩,
  ⟨some 90, none, none, false, .mov (.t 91)⟩]) (.cond (.t 90) (.seq (.ops [⟨some 93, none, none, false, .mov (.t 1)⟩,
  ⟨some 94, none, none, false, .fa 1 (.t 3)⟩,
  ⟨some 95, none, none, false, .ld1 (.t 94)⟩,
  ⟨some 96, none, none, false, .mov (.t 2)⟩,
  ⟨some 97, none, none, false, .call 166 [(.t 93), (.t 95), (.v (.int .i64 1)), (.t 96)]⟩,
  ⟨some 92, none, none, false, .mov (.t 97)⟩,
  ⟨some 98, none, none, false, .ext (.t 92) 0⟩,
  ⟨some 99, none, none, false, .ext (.t 92) 1⟩,
  ⟨some 9, none, none, false, .mov (.t 98)⟩,
  ⟨some 10, none, none, false, .mov (.t 99)⟩]) (.seq (.ops [⟨some 100, none, none, false, .mov (.t 10)⟩,
  ⟨some 101, none, none, false, .mov (.t 100)⟩,
  ⟨some 102, some (101, true), none, false, .mov (.t 2)⟩,
  ⟨some 103, some (101, true), none, false, .mov (.t 9)⟩,
  ⟨some 104, some (101, true), none, false, .bin .sub 3 false (.t 102) (.t 103)⟩,
  ⟨some 105, some (101, true), none, false, .fa 3 (.t 3)⟩,
  ⟨some 106, some (101, true), none, false, .ld1 (.t 105)⟩,
  ⟨some 107, some (101, true), none, false, .fa 4 (.t 3)⟩,
  ⟨some 108, some (101, true), none, false, .ld1 (.t 107)⟩,
  ⟨some 109, some (101, true), none, false, .call 94 [(.t 104), (.t 106), (.t 108)]⟩,
  ⟨some 110, some (101, true), none, false, .un .not (.t 109)⟩,
  ⟨some 111, none, none, false, .pick (.t 101) (.t 110) (.v (.bool false))⟩,
  ⟨some 6, none, none, false, .mov (.t 111)⟩]) .ret)) (.seq (.ops [⟨some 113, none, none, false, .bin .eql 9 true (.t 28) (.v (.str [103, 97, 112]))⟩,
  ⟨some 112, none, none, false, .mov (.t 113)⟩]) (.cond (.t 112) (.seq (.ops [⟨some 115, none, none, false, .mov (.t 1)⟩,
  ⟨some 116, none, none, false, .fa 1 (.t 3)⟩,
  ⟨some 117, none, none, false, .ld1 (.t 116)⟩,
  ⟨some 118, none, none, false, .mov (.t 2)⟩,
  ⟨some 119, none, none, false, .call 166 [(.t 115), (.t 117), (.v (.int .i64 0)), (.t 118)]⟩,
  ⟨some 114, none, none, false, .mov (.t 119)⟩,
  ⟨some 120, none, none, false, .ext (.t 114) 0⟩,
  ⟨some 121, none, none, false, .ext (.t 114) 1⟩,
  ⟨some 11, none, none, false, .mov (.t 120)⟩,
  ⟨some 12, none, none, false, .mov (.t 121)⟩]) (.seq (.ops [⟨some 122, none, none, false, .mov (.t 12)⟩,
  ⟨some 123, none, none, false, .mov (.t 122)⟩,
  ⟨some 124, some (123, true), none, false, .mov (.t 2)⟩,
  ⟨some 125, some (123, true), none, false, .mov (.t 11)⟩,
  ⟨some 126, some (123, true), none, false, .bin .sub 3 false (.t 124) (.t 125)⟩,
  ⟨some 127, some (123, true), none, false, .fa 3 (.t 3)⟩,
  ⟨some 128, some (123, true), none, false, .ld1 (.t 127)⟩,
  ⟨some 129, some (123, true), none, false, .fa 4 (.t 3)⟩,
  ⟨some 130, some (123, true), none, false, .ld1 (.t 129)⟩,
  ⟨some 131, some (123, true), none, false, .call 94 [(.t 126), (.t 128), (.t 130)]⟩,
  ⟨some 132, some (123, true), none, false, .un .not (.t 131)⟩,
  ⟨some 133, none, none, false, .pick (.t 123) (.t 132) (.v (.bool false))⟩,
  ⟨some 6, none, none, false, .mov (.t 133)⟩]) .ret)) (.seq (.ops [⟨some 135, none, none, false, .bin .eql 9 true (.t 28) (.v (.str [105, 100, 108, 101]))⟩,
  ⟨some 134, none, none, false, .mov (.t 135)⟩]) (.cond (.t 134) (.seq (.drw 12 [⟨some 136, none, none, false, .mov (.t 2)⟩,
  ⟨some 137, none, none, false, .mov (.t 1)⟩,
  ⟨some 138, none, none, false, .fa 1 (.t 3)⟩,
  ⟨some 139, none, none, false, .ld1 (.t 138)⟩,
  ⟨some 140, none, none, false, .mov (.t 2)⟩,
  ⟨some 141, none, none, false, .call 167 [(.t 137), (.t 139), (.t 140)]⟩,
  ⟨some 142, none, none, false, .bin .sub 3 false (.t 136) (.t 141)⟩,
  ⟨some 143, none, none, false, .bin .add 3 true (.t 142) (.v (.int .i64 1))⟩,
  ⟨some 144, none, none, false, .fa 3 (.t 3)⟩,
  ⟨some 145, none, none, false, .ld1 (.t 144)⟩,
  ⟨some 146, none, none, false, .bin .eql 3 false (.t 143) (.t 145)⟩,
  ⟨some 6, none, none, false, .mov (.t 146)⟩]) .ret) (.seq (.ops [⟨some 148, none, none, false, .bin .eql 9 true (.t 28) (.v (.str [115, 101, 116, 117, 112]))⟩,
  ⟨some 147, none, none, false, .mov (.t 148)⟩]) (.cond (.t 147) (.seq (.ops [⟨some 13, none, none, false, .mov (.v (.bool false))⟩]) (.seq (.seq (.ops [⟨some 149, none, none, false, .mov (.t 2)⟩,
  ⟨some 150, none, none, false, .fa 3 (.t 3)⟩,
  ⟨some 151, none, none, false, .ld1 (.t 150)⟩,
  ⟨some 152, none, none, false, .bin .sub 3 false (.t 149) (.t 151)⟩,
  ⟨some 153, none, none, false, .bin .add 3 true (.t 152) (.v (.int .i64 1))⟩,
  ⟨some 154, none, none, false, .raw (.call { callee := .builtin .max, args := #[(.const (.int .i64 1)), (.tmp 153)], argTypes := #[3, 3] })⟩,
  ⟨some 14, none, none, false, .mov (.t 154)⟩]) (.block 1 (.loop r97_l0))) (.seq (.ops [⟨some 179, none, none, false, .mov (.t 13)⟩,
  ⟨some 180, none, none, false, .mov (.t 179)⟩,
  ⟨some 181, some (180, true), none, false, .mov (.t 7)⟩,
  ⟨some 182, some (180, true), none, false, .fa 2 (.t 3)⟩,
  ⟨some 183, some (180, true), none, false, .ld1 (.t 182)⟩,
  ⟨some 184, some (180, true), none, false, .call 164 [(.t 181), (.t 183)]⟩,
  ⟨some 185, some (180, true), none, false, .bin .eql 3 true (.t 184) (.v (.int .i64 1))⟩,
  ⟨some 186, none, none, false, .pick (.t 180) (.t 185) (.v (.bool false))⟩,
  ⟨some 187, none, none, false, .mov (.t 186)⟩,
  ⟨some 188, some (187, true), none, false, .mov (.t 8)⟩,
  ⟨some 189, some (187, true), none, false, .fa 2 (.t 3)⟩,
  ⟨some 190, some (187, true), none, false, .ld1 (.t 189)⟩,
  ⟨some 191, some (187, true), none, false, .call 164 [(.t 188), (.t 190)]⟩,
  ⟨some 192, some (187, true), none, false, .bin .eql 3 true (.t 191) (.v (.int .i64 0))⟩,
  ⟨some 193, none, none, false, .pick (.t 187) (.t 192) (.v (.bool false))⟩,
  ⟨some 6, none, none, false, .mov (.t 193)⟩]) .ret))) (.seq (.ops [⟨some 195, none, none, false, .bin .eql 9 true (.t 28) (.v (.str [114, 117, 110, 116]))⟩,
  ⟨some 194, none, none, false, .mov (.t 195)⟩]) (.cond (.t 194) (.seq (.ops [⟨some 197, none, none, false, .mov (.t 1)⟩,
  ⟨some 198, none, none, false, .fa 1 (.t 3)⟩,
  ⟨some 199, none, none, false, .ld1 (.t 198)⟩,
  ⟨some 200, none, none, false, .mov (.t 2)⟩,
  ⟨some 201, none, none, false, .call 166 [(.t 197), (.t 199), (.v (.int .i64 1)), (.t 200)]⟩,
  ⟨some 196, none, none, false, .mov (.t 201)⟩,
  ⟨some 202, none, none, false, .ext (.t 196) 0⟩,
  ⟨some 203, none, none, false, .ext (.t 196) 1⟩,
  ⟨some 15, none, none, false, .mov (.t 202)⟩,
  ⟨some 16, none, none, false, .mov (.t 203)⟩]) (.seq (.seq (.ops [⟨some 204, none, none, false, .mov (.t 15)⟩,
  ⟨some 17, none, none, false, .mov (.t 204)⟩]) (.block 3 (.loop r97_l1))) (.seq (.ops [⟨some 221, none, none, false, .mov (.t 16)⟩,
  ⟨some 6, none, none, false, .mov (.t 221)⟩]) .ret))) (.seq (.ops [⟨some 223, none, none, false, .bin .eql 9 true (.t 28) (.v (.str [110, 111, 116]))⟩,
  ⟨some 222, none, none, false, .mov (.t 223)⟩]) (.cond (.t 222) (.seq (.ops [⟨some 224, none, none, false, .fa 6 (.t 3)⟩,
  ⟨some 225, none, none, false, .ld1 (.t 224)⟩,
  ⟨some 226, none, none, false, .ixa 7 (.t 225) (.v (.int .i64 0))⟩,
  ⟨some 227, none, none, false, .ldn 7 (.t 226)⟩,
  ⟨some 228, none, none, false, .mov (.t 1)⟩,
  ⟨some 229, none, none, false, .mov (.t 2)⟩,
  ⟨some 230, none, none, false, .call 97 [(.t 227), (.t 228), (.t 229)]⟩,
  ⟨some 231, none, none, false, .un .not (.t 230)⟩,
  ⟨some 6, none, none, false, .mov (.t 231)⟩]) .ret) .skip)))))))))))))))))))))))))) (.seq (.ops [⟨some 18, none, none, false, .mov (.v (.int .i64 0))⟩]) (.seq (.seq (.ops [⟨some 19, none, none, false, .mov (.v (.int .i64 0))⟩]) (.block 5 (.loop r97_l2))) (.seq (.ops [⟨some 249, none, none, false, .mov (.t 18)⟩,
  ⟨some 250, none, none, false, .fa 6 (.t 3)⟩,
  ⟨some 251, none, none, false, .ld1 (.t 250)⟩,
  ⟨some 252, none, none, false, .lenL (.t 251)⟩,
  ⟨some 253, none, none, false, .bin .eql 3 false (.t 249) (.t 252)⟩,
  ⟨some 254, none, none, false, .mov (.t 253)⟩,
  ⟨some 255, some (254, false), none, false, .fa 0 (.t 3)⟩,
  ⟨some 256, some (254, false), none, false, .ld1 (.t 255)⟩,
  ⟨some 257, some (254, false), none, false, .bin .eql 9 true (.t 256) (.v (.str [97, 110, 121]))⟩,
  ⟨some 258, some (254, false), none, false, .mov (.t 257)⟩,
  ⟨some 259, some (258, true), none, false, .mov (.t 18)⟩,
  ⟨some 260, some (258, true), none, false, .bin .gtr 3 true (.t 259) (.v (.int .i64 0))⟩,
  ⟨some 261, some (254, false), none, false, .pick (.t 258) (.t 260) (.v (.bool false))⟩,
  ⟨some 262, none, none, false, .pick (.t 254) (.v (.bool true)) (.t 261)⟩,
  ⟨some 6, none, none, false, .mov (.t 262)⟩]) .ret))))))
theorem k97 : fnRC 97 = some ([.tmp 6], r97) := by kernel_rfl

def r30_l0 : RC := (.seq (.seq (.ops [⟨some 7, none, none, false, .mov (.t 6)⟩,
  ⟨some 8, none, none, false, .mov (.t 1)⟩,
  ⟨some 9, none, none, false, .lenL (.t 8)⟩,
  ⟨some 10, none, none, false, .bin .lss 3 false (.t 7) (.t 9)⟩]) (.cond (.t 10) .skip (.exit 0))) (.seq (.block 1 (.ops [⟨some 13, none, none, false, .mov (.t 5)⟩,
  ⟨some 14, none, none, false, .ldn 7 (.t 2)⟩,
  ⟨some 15, none, none, false, .mov (.t 1)⟩,
  ⟨some 16, none, none, false, .mov (.t 6)⟩,
  ⟨some 17, none, none, false, .call 97 [(.t 14), (.t 15), (.t 16)]⟩,
  ⟨some 18, none, none, false, .bsl 4 1 1 [(.bool false)] [(0, 1, (.t 17))]⟩,
  ⟨some 19, none, none, false, .app 4 1 1 (.t 13) (.t 18)⟩,
  ⟨some 5, none, none, false, .mov (.t 19)⟩])) (.ops [⟨some 11, none, none, false, .mov (.t 6)⟩,
  ⟨some 12, none, none, false, .bin .add 3 true (.t 11) (.v (.int .i64 1))⟩,
  ⟨some 6, none, none, false, .mov (.t 12)⟩])))
/-- strobe/stroberef04.Holds; results .tmp 4 -/
def r30 : RC := (.seq (.ops [⟨some 2, none, none, false, .box 39 (.t 0)⟩,
  ⟨some 4, none, none, false, .mov (.v .nils)⟩]) (.seq (.ops [⟨some 5, none, none, false, .mov (.v .nils)⟩]) (.seq (.seq (.ops [⟨some 6, none, none, false, .mov (.v (.int .i64 0))⟩]) (.block 0 (.loop r30_l0))) (.seq (.ops [⟨some 20, none, none, false, .mov (.t 5)⟩,
  ⟨some 4, none, none, false, .mov (.t 20)⟩]) .ret))))
theorem k30 : fnRC 30 = some ([.tmp 4], r30) := by kernel_rfl


end Go.Am

set_option linter.all false
namespace Go.Am
open Go
variable [MaxLen]
set_option maxRecDepth 100000
set_option maxHeartbeats 8000000

/-- (strobe/trigger.sample).high; results .tmp 4 -/
def r198 : RC := (.seq (.ops [⟨some 2, none, none, false, .box 158 (.t 0)⟩,
  ⟨some 4, none, none, false, .mov (.v (.bool false))⟩]) (.seq (.ops [⟨some 5, none, none, false, .fa 0 (.t 2)⟩,
  ⟨some 6, none, none, false, .ld1 (.t 5)⟩,
  ⟨some 7, none, none, false, .mov (.t 1)⟩,
  ⟨some 8, none, none, false, .bin .shr 3 false (.t 6) (.t 7)⟩,
  ⟨some 9, none, none, false, .bin .and 3 true (.t 8) (.v (.int .i64 1))⟩,
  ⟨some 10, none, none, false, .bin .eql 3 true (.t 9) (.v (.int .i64 1))⟩,
  ⟨some 4, none, none, false, .mov (.t 10)⟩]) .ret))
theorem k198 : fnRC 198 = some ([.tmp 4], r198) := by kernel_rfl

/-- (strobe/trigger.sample).was; results .tmp 4 -/
def r201 : RC := (.seq (.ops [⟨some 2, none, none, false, .box 158 (.t 0)⟩,
  ⟨some 4, none, none, false, .mov (.v (.bool false))⟩]) (.seq (.ops [⟨some 5, none, none, false, .fa 1 (.t 2)⟩,
  ⟨some 6, none, none, false, .ld1 (.t 5)⟩,
  ⟨some 7, none, none, false, .mov (.t 1)⟩,
  ⟨some 8, none, none, false, .bin .shr 3 false (.t 6) (.t 7)⟩,
  ⟨some 9, none, none, false, .bin .and 3 true (.t 8) (.v (.int .i64 1))⟩,
  ⟨some 10, none, none, false, .bin .eql 3 true (.t 9) (.v (.int .i64 1))⟩,
  ⟨some 4, none, none, false, .mov (.t 10)⟩]) .ret))
theorem k201 : fnRC 201 = some ([.tmp 4], r201) := by kernel_rfl

/-- strobe/trigger.kinds$3; results .tmp 4 -/
def r197 : RC := (.seq (.ops [⟨some 2, none, none, false, .box 48 (.t 0)⟩,
  ⟨some 3, none, none, false, .box 158 (.t 1)⟩,
  ⟨some 4, none, none, false, .mov (.v (.bool false))⟩]) (.seq (.ops [⟨some 5, none, none, false, .ldn 3 (.t 3)⟩,
  ⟨some 6, none, none, false, .fa 1 (.t 2)⟩,
  ⟨some 7, none, none, false, .ld1 (.t 6)⟩,
  ⟨some 8, none, none, false, .call 198 [(.t 5), (.t 7)]⟩,
  ⟨some 4, none, none, false, .mov (.t 8)⟩]) .ret))
theorem k197 : fnRC 197 = some ([.tmp 4], r197) := by kernel_rfl

/-- strobe/trigger.kinds$4; results .tmp 4 -/
def r199 : RC := (.seq (.ops [⟨some 2, none, none, false, .box 48 (.t 0)⟩,
  ⟨some 3, none, none, false, .box 158 (.t 1)⟩,
  ⟨some 4, none, none, false, .mov (.v (.bool false))⟩]) (.seq (.ops [⟨some 5, none, none, false, .ldn 3 (.t 3)⟩,
  ⟨some 6, none, none, false, .fa 1 (.t 2)⟩,
  ⟨some 7, none, none, false, .ld1 (.t 6)⟩,
  ⟨some 8, none, none, false, .call 198 [(.t 5), (.t 7)]⟩,
  ⟨some 9, none, none, false, .un .not (.t 8)⟩,
  ⟨some 4, none, none, false, .mov (.t 9)⟩]) .ret))
theorem k199 : fnRC 199 = some ([.tmp 4], r199) := by kernel_rfl

/-- strobe/trigger.kinds$5; results .tmp 4 -/
def r200 : RC := (.seq (.ops [⟨some 2, none, none, false, .box 48 (.t 0)⟩,
  ⟨some 3, none, none, false, .box 158 (.t 1)⟩,
  ⟨some 4, none, none, false, .mov (.v (.bool false))⟩]) (.seq (.ops [⟨some 5, none, none, false, .ldn 3 (.t 3)⟩,
  ⟨some 6, none, none, false, .fa 1 (.t 2)⟩,
  ⟨some 7, none, none, false, .ld1 (.t 6)⟩,
  ⟨some 8, none, none, false, .call 198 [(.t 5), (.t 7)]⟩,
  ⟨some 9, none, none, false, .mov (.t 8)⟩,
  ⟨some 10, some (9, true), none, false, .ldn 3 (.t 3)⟩,
  ⟨some 11, some (9, true), none, false, .fa 1 (.t 2)⟩,
  ⟨some 12, some (9, true), none, false, .ld1 (.t 11)⟩,
  ⟨some 13, some (9, true), none, false, .call 201 [(.t 10), (.t 12)]⟩,
  ⟨some 14, some (9, true), none, false, .un .not (.t 13)⟩,
  ⟨some 15, none, none, false, .pick (.t 9) (.t 14) (.v (.bool false))⟩,
  ⟨some 4, none, none, false, .mov (.t 15)⟩]) .ret))
theorem k200 : fnRC 200 = some ([.tmp 4], r200) := by kernel_rfl

/-- strobe/trigger.kinds$6; results .tmp 4 -/
def r202 : RC := (.seq (.ops [⟨some 2, none, none, false, .box 48 (.t 0)⟩,
  ⟨some 3, none, none, false, .box 158 (.t 1)⟩,
  ⟨some 4, none, none, false, .mov (.v (.bool false))⟩]) (.seq (.ops [⟨some 5, none, none, false, .ldn 3 (.t 3)⟩,
  ⟨some 6, none, none, false, .fa 1 (.t 2)⟩,
  ⟨some 7, none, none, false, .ld1 (.t 6)⟩,
  ⟨some 8, none, none, false, .call 198 [(.t 5), (.t 7)]⟩,
  ⟨some 9, none, none, false, .un .not (.t 8)⟩,
  ⟨some 10, none, none, false, .mov (.t 9)⟩,
  ⟨some 11, some (10, true), none, false, .ldn 3 (.t 3)⟩,
  ⟨some 12, some (10, true), none, false, .fa 1 (.t 2)⟩,
  ⟨some 13, some (10, true), none, false, .ld1 (.t 12)⟩,
  ⟨some 14, some (10, true), none, false, .call 201 [(.t 11), (.t 13)]⟩,
  ⟨some 15, none, none, false, .pick (.t 10) (.t 14) (.v (.bool false))⟩,
  ⟨some 4, none, none, false, .mov (.t 15)⟩]) .ret))
theorem k202 : fnRC 202 = some ([.tmp 4], r202) := by kernel_rfl

/-- strobe/trigger.kinds$7; results .tmp 4 -/
def r203 : RC := (.seq (.ops [⟨some 2, none, none, false, .box 48 (.t 0)⟩,
  ⟨some 3, none, none, false, .box 158 (.t 1)⟩,
  ⟨some 4, none, none, false, .mov (.v (.bool false))⟩]) (.seq (.ops [⟨some 5, none, none, false, .fa 5 (.t 2)⟩,
  ⟨some 6, none, none, false, .ld1 (.t 5)⟩,
  ⟨some 7, none, none, false, .fa 0 (.t 3)⟩,
  ⟨some 8, none, none, false, .ld1 (.t 7)⟩,
  ⟨some 9, none, none, false, .call 204 [(.t 6), (.t 8)]⟩,
  ⟨some 4, none, none, false, .mov (.t 9)⟩]) .ret))
theorem k203 : fnRC 203 = some ([.tmp 4], r203) := by kernel_rfl

/-- strobe/trigger.kinds$8; results .tmp 4 -/
def r205 : RC := (.seq (.ops [⟨some 2, none, none, false, .box 48 (.t 0)⟩,
  ⟨some 3, none, none, false, .box 158 (.t 1)⟩,
  ⟨some 4, none, none, false, .mov (.v (.bool false))⟩]) (.seq (.ops [⟨some 5, none, none, false, .fa 5 (.t 2)⟩,
  ⟨some 6, none, none, false, .ld1 (.t 5)⟩,
  ⟨some 7, none, none, false, .fa 0 (.t 3)⟩,
  ⟨some 8, none, none, false, .ld1 (.t 7)⟩,
  ⟨some 9, none, none, false, .call 204 [(.t 6), (.t 8)]⟩,
  ⟨some 10, none, none, false, .mov (.t 9)⟩,
  ⟨some 11, some (10, true), none, false, .fa 5 (.t 2)⟩,
  ⟨some 12, some (10, true), none, false, .ld1 (.t 11)⟩,
  ⟨some 13, some (10, true), none, false, .fa 1 (.t 3)⟩,
  ⟨some 14, some (10, true), none, false, .ld1 (.t 13)⟩,
  ⟨some 15, some (10, true), none, false, .call 204 [(.t 12), (.t 14)]⟩,
  ⟨some 16, some (10, true), none, false, .un .not (.t 15)⟩,
  ⟨some 17, none, none, false, .pick (.t 10) (.t 16) (.v (.bool false))⟩,
  ⟨some 4, none, none, false, .mov (.t 17)⟩]) .ret))
theorem k205 : fnRC 205 = some ([.tmp 4], r205) := by kernel_rfl

/-- strobe/trigger.idle; results .tmp 6,.tmp 7 -/
def r207 : RC := (.seq (.ops [⟨some 3, none, none, false, .box 48 (.t 0)⟩,
  ⟨some 5, none, none, false, .box 158 (.t 2)⟩,
  ⟨some 6, none, none, false, .mov (.v (.int .i64 0))⟩,
  ⟨some 7, none, none, false, .mov (.v (.bool false))⟩]) (.seq (.seq (.drw 13 [⟨some 8, none, none, false, .fa 2 (.t 5)⟩,
  ⟨some 9, none, none, false, .ld1 (.t 8)⟩,
  ⟨some 10, none, none, false, .mov (.t 9)⟩,
  ⟨some 11, some (10, false), none, false, .ldn 3 (.t 5)⟩,
  ⟨some 12, some (10, false), none, false, .fa 1 (.t 3)⟩,
  ⟨some 13, some (10, false), none, false, .ld1 (.t 12)⟩,
  ⟨some 14, some (10, false), none, false, .call 198 [(.t 11), (.t 13)]⟩,
  ⟨some 15, some (10, false), none, false, .ldn 3 (.t 5)⟩,
  ⟨some 16, some (10, false), none, false, .fa 1 (.t 3)⟩,
  ⟨some 17, some (10, false), none, false, .ld1 (.t 16)⟩,
  ⟨some 18, some (10, false), none, false, .call 201 [(.t 15), (.t 17)]⟩,
  ⟨some 19, some (10, false), none, false, .bin .neq 4 false (.t 14) (.t 18)⟩,
  ⟨some 20, none, none, false, .pick (.t 10) (.v (.bool true)) (.t 19)⟩]) (.cond (.t 20) (.ops [⟨some 1, none, none, false, .mov (.v (.int .i64 0))⟩]) .skip)) (.seq (.ops [⟨some 21, none, none, false, .mov (.t 1)⟩,
  ⟨some 22, none, none, false, .bin .add 3 true (.t 21) (.v (.int .i64 1))⟩,
  ⟨some 23, none, none, false, .fa 3 (.t 3)⟩,
  ⟨some 24, none, none, false, .ld1 (.t 23)⟩,
  ⟨some 25, none, none, false, .bin .add 3 true (.t 24) (.v (.int .i64 1))⟩,
  ⟨some 26, none, none, false, .raw (.call { callee := .builtin .min, args := #[(.tmp 22), (.tmp 25)], argTypes := #[3, 3] })⟩,
  ⟨some 1, none, none, false, .mov (.t 26)⟩]) (.seq (.drw 7 [⟨some 27, none, none, false, .mov (.t 1)⟩,
  ⟨some 28, none, none, false, .mov (.t 1)⟩,
  ⟨some 29, none, none, false, .fa 3 (.t 3)⟩,
  ⟨some 30, none, none, false, .ld1 (.t 29)⟩,
  ⟨some 31, none, none, false, .bin .eql 3 false (.t 28) (.t 30)⟩,
  ⟨some 6, none, none, false, .mov (.t 27)⟩,
  ⟨some 7, none, none, false, .mov (.t 31)⟩]) .ret))))
theorem k207 : fnRC 207 = some ([.tmp 6, .tmp 7], r207) := by kernel_rfl

/-- strobe/trigger.setup; results .tmp 6,.tmp 7 -/
def r209 : RC := (.seq (.ops [⟨some 3, none, none, false, .box 48 (.t 0)⟩,
  ⟨some 5, none, none, false, .box 158 (.t 2)⟩,
  ⟨some 6, none, none, false, .mov (.v (.int .i64 0))⟩,
  ⟨some 7, none, none, false, .mov (.v (.bool false))⟩]) (.seq (.ops [⟨some 8, none, none, false, .mov (.t 1)⟩,
  ⟨some 9, none, none, false, .bin .add 3 true (.t 8) (.v (.int .i64 1))⟩,
  ⟨some 10, none, none, false, .fa 3 (.t 3)⟩,
  ⟨some 11, none, none, false, .ld1 (.t 10)⟩,
  ⟨some 12, none, none, false, .raw (.call { callee := .builtin .min, args := #[(.tmp 9), (.tmp 11)], argTypes := #[3, 3] })⟩,
  ⟨some 1, none, none, false, .mov (.t 12)⟩]) (.seq (.seq (.drw 9 [⟨some 13, none, none, false, .ldn 3 (.t 5)⟩,
  ⟨some 14, none, none, false, .fa 1 (.t 3)⟩,
  ⟨some 15, none, none, false, .ld1 (.t 14)⟩,
  ⟨some 16, none, none, false, .call 198 [(.t 13), (.t 15)]⟩,
  ⟨some 17, none, none, false, .ldn 3 (.t 5)⟩,
  ⟨some 18, none, none, false, .fa 1 (.t 3)⟩,
  ⟨some 19, none, none, false, .ld1 (.t 18)⟩,
  ⟨some 20, none, none, false, .call 201 [(.t 17), (.t 19)]⟩,
  ⟨some 21, none, none, false, .bin .neq 4 false (.t 16) (.t 20)⟩]) (.cond (.t 21) (.ops [⟨some 1, none, none, false, .mov (.v (.int .i64 0))⟩]) .skip)) (.seq (.drw 20 [⟨some 22, none, none, false, .mov (.t 1)⟩,
  ⟨some 23, none, none, false, .ldn 3 (.t 5)⟩,
  ⟨some 24, none, none, false, .fa 2 (.t 3)⟩,
  ⟨some 25, none, none, false, .ld1 (.t 24)⟩,
  ⟨some 26, none, none, false, .call 198 [(.t 23), (.t 25)]⟩,
  ⟨some 27, none, none, false, .mov (.t 26)⟩,
  ⟨some 28, some (27, true), none, false, .ldn 3 (.t 5)⟩,
  ⟨some 29, some (27, true), none, false, .fa 2 (.t 3)⟩,
  ⟨some 30, some (27, true), none, false, .ld1 (.t 29)⟩,
  ⟨some 31, some (27, true), none, false, .call 201 [(.t 28), (.t 30)]⟩,
  ⟨some 32, some (27, true), none, false, .un .not (.t 31)⟩,
  ⟨some 33, none, none, false, .pick (.t 27) (.t 32) (.v (.bool false))⟩,
  ⟨some 34, none, none, false, .mov (.t 33)⟩,
  ⟨some 35, some (34, true), none, false, .mov (.t 1)⟩,
  ⟨some 36, some (34, true), none, false, .fa 3 (.t 3)⟩,
  ⟨some 37, some (34, true), none, false, .ld1 (.t 36)⟩,
  ⟨some 38, some (34, true), none, false, .bin .lss 3 false (.t 35) (.t 37)⟩,
  ⟨some 39, none, none, false, .pick (.t 34) (.t 38) (.v (.bool false))⟩,
  ⟨some 6, none, none, false, .mov (.t 22)⟩,
  ⟨some 7, none, none, false, .mov (.t 39)⟩]) .ret))))
theorem k209 : fnRC 209 = some ([.tmp 6, .tmp 7], r209) := by kernel_rfl

/-- strobe/trigger.runt; results .tmp 6,.tmp 7 -/
def r211 : RC := (.seq (.ops [⟨some 3, none, none, false, .box 48 (.t 0)⟩,
  ⟨some 5, none, none, false, .box 158 (.t 2)⟩,
  ⟨some 6, none, none, false, .mov (.v (.int .i64 0))⟩,
  ⟨some 7, none, none, false, .mov (.v (.bool false))⟩]) (.seq (.block 0 (.seq (.ops [⟨some 9, none, none, false, .ldn 3 (.t 5)⟩,
  ⟨some 10, none, none, false, .fa 1 (.t 3)⟩,
  ⟨some 11, none, none, false, .ld1 (.t 10)⟩,
  ⟨some 12, none, none, false, .call 198 [(.t 9), (.t 11)]⟩,
  ⟨some 13, none, none, false, .un .not (.t 12)⟩,
  ⟨some 8, none, none, false, .mov (.t 13)⟩]) (.cond (.t 8) (.seq (.ops [⟨some 14, none, none, false, .ldn 3 (.t 5)⟩,
  ⟨some 15, none, none, false, .fa 1 (.t 3)⟩,
  ⟨some 16, none, none, false, .ld1 (.t 15)⟩,
  ⟨some 17, none, none, false, .call 201 [(.t 14), (.t 16)]⟩,
  ⟨some 18, none, none, false, .mov (.t 17)⟩,
  ⟨some 19, some (18, true), none, false, .mov (.t 1)⟩,
  ⟨some 20, some (18, true), none, false, .bin .eql 3 true (.t 19) (.v (.int .i64 2))⟩,
  ⟨some 21, none, none, false, .pick (.t 18) (.t 20) (.v (.bool false))⟩,
  ⟨some 6, none, none, false, .mov (.v (.int .i64 0))⟩,
  ⟨some 7, none, none, false, .mov (.t 21)⟩]) .ret) (.seq (.ops [⟨some 23, none, none, false, .fa 2 (.t 5)⟩,
  ⟨some 24, none, none, false, .ld1 (.t 23)⟩,
  ⟨some 25, none, none, false, .un .not (.t 24)⟩,
  ⟨some 26, none, none, false, .mov (.t 25)⟩,
  ⟨some 27, some (26, true), none, false, .ldn 3 (.t 5)⟩,
  ⟨some 28, some (26, true), none, false, .fa 2 (.t 3)⟩,
  ⟨some 29, some (26, true), none, false, .ld1 (.t 28)⟩,
  ⟨some 30, some (26, true), none, false, .call 198 [(.t 27), (.t 29)]⟩,
  ⟨some 31, some (26, true), none, false, .un .not (.t 30)⟩,
  ⟨some 32, none, none, false, .pick (.t 26) (.t 31) (.v (.bool false))⟩,
  ⟨some 33, none, none, false, .mov (.t 32)⟩,
  ⟨some 34, some (33, true), none, false, .ldn 3 (.t 5)⟩,
  ⟨some 35, some (33, true), none, false, .fa 1 (.t 3)⟩,
  ⟨some 36, some (33, true), none, false, .ld1 (.t 35)⟩,
  ⟨some 37, some (33, true), none, false, .call 201 [(.t 34), (.t 36)]⟩,
  ⟨some 38, some (33, true), none, false, .un .not (.t 37)⟩,
  ⟨some 39, some (33, true), none, false, .mov (.t 38)⟩,
  ⟨some 40, some (39, false), none, false, .mov (.t 1)⟩,
  ⟨some 41, some (39, false), none, false, .bin .eql 3 true (.t 40) (.v (.int .i64 2))⟩,
  ⟨some 42, some (33, true), none, false, .pick (.t 39) (.v (.bool true)) (.t 41)⟩,
  ⟨some 43, none, none, false, .pick (.t 33) (.t 42) (.v (.bool false))⟩,
  ⟨some 22, none, none, false, .mov (.t 43)⟩]) (.cond (.t 22) (.seq (.ops [⟨some 6, none, none, false, .mov (.v (.int .i64 2))⟩,
  ⟨some 7, none, none, false, .mov (.v (.bool false))⟩]) .ret) .skip))))) (.seq (.ops [⟨some 6, none, none, false, .mov (.v (.int .i64 1))⟩,
  ⟨some 7, none, none, false, .mov (.v (.bool false))⟩]) .ret)))
theorem k211 : fnRC 211 = some ([.tmp 6, .tmp 7], r211) := by kernel_rfl

/-- strobe/trigger.plain$1; results .tmp 7,.tmp 8 -/
def r235 : RC := (.seq (.ops [⟨some 4, none, none, false, .box 48 (.t 0)⟩,
  ⟨some 6, none, none, false, .box 158 (.t 2)⟩,
  ⟨some 7, none, none, false, .mov (.v (.int .i64 0))⟩,
  ⟨some 8, none, none, false, .mov (.v (.bool false))⟩]) (.seq (.ops [⟨some 9, none, none, false, .mov (.t 1)⟩,
  ⟨some 10, none, none, false, .ld1 (.t 3)⟩,
  ⟨some 11, none, none, false, .ldn 7 (.t 4)⟩,
  ⟨some 12, none, none, false, .ldn 3 (.t 6)⟩,
  ⟨some 13, none, none, false, .callv (.t 10) [(.t 11), (.t 12)]⟩,
  ⟨some 7, none, none, false, .mov (.t 9)⟩,
  ⟨some 8, none, none, false, .mov (.t 13)⟩]) .ret))
theorem k235 : fnRC 235 = some ([.tmp 7, .tmp 8], r235) := by kernel_rfl

/-- strobe/trigger.run$1; results .tmp 7,.tmp 8 -/
def r236 : RC := (.seq (.ops [⟨some 4, none, none, false, .box 48 (.t 0)⟩,
  ⟨some 6, none, none, false, .box 158 (.t 2)⟩,
  ⟨some 7, none, none, false, .mov (.v (.int .i64 0))⟩,
  ⟨some 8, none, none, false, .mov (.v (.bool false))⟩]) (.seq (.drw 14 [⟨some 11, none, none, false, .ldn 3 (.t 6)⟩,
  ⟨some 12, none, none, false, .fa 1 (.t 4)⟩,
  ⟨some 13, none, none, false, .ld1 (.t 12)⟩,
  ⟨some 14, none, none, false, .call 198 [(.t 11), (.t 13)]⟩,
  ⟨some 15, none, none, false, .ld1 (.t 3)⟩,
  ⟨some 16, none, none, false, .bin .eql 4 false (.t 14) (.t 15)⟩,
  ⟨some 17, none, none, false, .ldn 3 (.t 6)⟩,
  ⟨some 18, none, none, false, .fa 1 (.t 4)⟩,
  ⟨some 19, none, none, false, .ld1 (.t 18)⟩,
  ⟨some 20, none, none, false, .call 201 [(.t 17), (.t 19)]⟩,
  ⟨some 21, none, none, false, .ld1 (.t 3)⟩,
  ⟨some 22, none, none, false, .bin .eql 4 false (.t 20) (.t 21)⟩,
  ⟨some 9, none, none, false, .mov (.t 16)⟩,
  ⟨some 10, none, none, false, .mov (.t 22)⟩]) (.seq (.block 0 (.seq (.ops [⟨some 24, none, none, false, .mov (.t 9)⟩,
  ⟨some 25, none, none, false, .un .not (.t 24)⟩,
  ⟨some 23, none, none, false, .mov (.t 25)⟩]) (.cond (.t 23) (.seq (.drw 15 [⟨some 26, none, none, false, .mov (.t 10)⟩,
  ⟨some 27, none, none, false, .mov (.t 26)⟩,
  ⟨some 28, some (27, true), none, false, .mov (.t 1)⟩,
  ⟨some 29, some (27, true), none, false, .fa 3 (.t 4)⟩,
  ⟨some 30, some (27, true), none, false, .ld1 (.t 29)⟩,
  ⟨some 31, some (27, true), none, false, .bin .geq 3 false (.t 28) (.t 30)⟩,
  ⟨some 32, none, none, false, .pick (.t 27) (.t 31) (.v (.bool false))⟩,
  ⟨some 33, none, none, false, .mov (.t 32)⟩,
  ⟨some 34, some (33, true), none, false, .mov (.t 1)⟩,
  ⟨some 35, some (33, true), none, false, .fa 4 (.t 4)⟩,
  ⟨some 36, some (33, true), none, false, .ld1 (.t 35)⟩,
  ⟨some 37, some (33, true), none, false, .bin .leq 3 false (.t 34) (.t 36)⟩,
  ⟨some 38, none, none, false, .pick (.t 33) (.t 37) (.v (.bool false))⟩,
  ⟨some 7, none, none, false, .mov (.v (.int .i64 0))⟩,
  ⟨some 8, none, none, false, .mov (.t 38)⟩]) .ret) (.seq (.ops [⟨some 40, none, none, false, .fa 2 (.t 6)⟩,
  ⟨some 41, none, none, false, .ld1 (.t 40)⟩,
  ⟨some 39, none, none, false, .mov (.t 41)⟩]) (.cond (.t 39) (.seq (.ops [⟨some 42, none, none, false, .fa 4 (.t 4)⟩,
  ⟨some 43, none, none, false, .ld1 (.t 42)⟩,
  ⟨some 44, none, none, false, .bin .add 3 true (.t 43) (.v (.int .i64 1))⟩,
  ⟨some 7, none, none, false, .mov (.t 44)⟩,
  ⟨some 8, none, none, false, .mov (.v (.bool false))⟩]) .ret) (.seq (.ops [⟨some 46, none, none, false, .mov (.t 10)⟩,
  ⟨some 47, none, none, false, .un .not (.t 46)⟩,
  ⟨some 45, none, none, false, .mov (.t 47)⟩]) (.cond (.t 45) (.seq (.ops [⟨some 7, none, none, false, .mov (.v (.int .i64 1))⟩,
  ⟨some 8, none, none, false, .mov (.v (.bool false))⟩]) .ret) .skip))))))) (.seq (.ops [⟨some 48, none, none, false, .mov (.t 1)⟩,
  ⟨some 49, none, none, false, .bin .add 3 true (.t 48) (.v (.int .i64 1))⟩,
  ⟨some 50, none, none, false, .fa 4 (.t 4)⟩,
  ⟨some 51, none, none, false, .ld1 (.t 50)⟩,
  ⟨some 52, none, none, false, .bin .add 3 true (.t 51) (.v (.int .i64 1))⟩,
  ⟨some 53, none, none, false, .raw (.call { callee := .builtin .min, args := #[(.tmp 49), (.tmp 52)], argTypes := #[3, 3] })⟩,
  ⟨some 7, none, none, false, .mov (.t 53)⟩,
  ⟨some 8, none, none, false, .mov (.v (.bool false))⟩]) .ret))))
theorem k236 : fnRC 236 = some ([.tmp 7, .tmp 8], r236) := by kernel_rfl

def r160_l0 : RC := (.seq (.ops [⟨some 15, none, none, false, .bin .lss 3 false (.t 14) (.t 13)⟩]) (.seq (.cond (.t 15) .skip (.exit 0)) (.seq (.block 1 (.seq (.ops [⟨some 16, none, none, false, .ixa 7 (.t 12) (.t 14)⟩,
  ⟨some 17, none, none, false, .ldn 7 (.t 16)⟩,
  ⟨some 5, none, none, false, .al [(.str []), (.int .i64 0), (.int .i64 0), (.int .i64 0), (.int .i64 0), (.str []), .nils] 48⟩,
  ⟨none, none, none, false, .st 7 (.t 5) (.t 17)⟩]) (.ops [⟨some 18, none, none, false, .mov (.t 3)⟩,
  ⟨some 19, none, none, false, .ldn 7 (.t 5)⟩,
  ⟨some 20, none, none, false, .call 160 [(.t 19)]⟩,
  ⟨some 21, none, none, false, .app 48 7 88 (.t 18) (.t 20)⟩,
  ⟨some 3, none, none, false, .mov (.t 21)⟩]))) (.ops [⟨some 22, none, none, false, .bin .add 3 true (.t 14) (.v (.int .i64 1))⟩,
  ⟨some 14, none, none, false, .mov (.t 22)⟩]))))
/-- (strobe/trigger.Cond).leaves; results .tmp 2 -/
def r160 : RC := (.seq (.ops [⟨some 1, none, none, false, .box 48 (.t 0)⟩,
  ⟨some 2, none, none, false, .mov (.v .nils)⟩]) (.seq (.seq (.ops [⟨some 6, none, none, false, .ldn 7 (.t 1)⟩,
  ⟨some 7, none, none, false, .call 213 [(.t 6)]⟩,
  ⟨some 8, none, none, false, .un .not (.t 7)⟩]) (.cond (.t 8) (.seq (.ops [⟨some 9, none, none, false, .ldn 7 (.t 1)⟩,
  ⟨some 10, none, none, false, .bsl 48 7 1 [(.str []), (.int .i64 0), (.int .i64 0), (.int .i64 0), (.int .i64 0), (.str []), .nils] [(0, 7, (.t 9))]⟩,
  ⟨some 2, none, none, false, .mov (.t 10)⟩]) .ret) .skip)) (.seq (.ops [⟨some 3, none, none, false, .mov (.v .nils)⟩]) (.seq (.seq (.ops [⟨some 11, none, none, false, .fa 6 (.t 1)⟩,
  ⟨some 12, none, none, false, .ld1 (.t 11)⟩,
  ⟨some 13, none, none, false, .lenL (.t 12)⟩,
  ⟨some 14, none, none, false, .mov (.v (.int .i64 0))⟩]) (.block 0 (.loop r160_l0))) (.seq (.ops [⟨some 23, none, none, false, .mov (.t 3)⟩,
  ⟨some 2, none, none, false, .mov (.t 23)⟩]) .ret)))))
theorem k160 : fnRC 160 = some ([.tmp 2], r160) := by kernel_rfl

def r161_l0 : RC := (.seq (.ops [⟨some 19, none, none, false, .bin .lss 3 false (.t 18) (.t 17)⟩]) (.seq (.cond (.t 19) .skip (.exit 0)) (.seq (.block 1 (.seq (.ops [⟨some 20, none, none, false, .ixa 7 (.t 16) (.t 18)⟩,
  ⟨some 21, none, none, false, .ldn 7 (.t 20)⟩,
  ⟨some 8, none, none, false, .al [(.str []), (.int .i64 0), (.int .i64 0), (.int .i64 0), (.int .i64 0), (.str []), .nils] 48⟩,
  ⟨none, none, none, false, .st 7 (.t 8) (.t 21)⟩]) (.seq (.ops [⟨some 22, none, none, false, .ldn 7 (.t 8)⟩,
  ⟨some 23, none, none, false, .mov (.t 1)⟩,
  ⟨some 24, none, none, false, .call 161 [(.t 22), (.t 23)]⟩,
  ⟨some 9, none, none, false, .mov (.t 24)⟩]) (.ops [⟨some 25, none, none, false, .mov (.t 5)⟩,
  ⟨some 26, none, none, false, .mov (.t 25)⟩,
  ⟨some 27, some (26, false), none, false, .mov (.t 9)⟩,
  ⟨some 28, none, none, false, .pick (.t 26) (.v (.bool true)) (.t 27)⟩,
  ⟨some 29, none, none, false, .mov (.t 6)⟩,
  ⟨some 30, none, none, false, .mov (.t 29)⟩,
  ⟨some 31, some (30, true), none, false, .mov (.t 9)⟩,
  ⟨some 32, none, none, false, .pick (.t 30) (.t 31) (.v (.bool false))⟩,
  ⟨some 5, none, none, false, .mov (.t 28)⟩,
  ⟨some 6, none, none, false, .mov (.t 32)⟩])))) (.ops [⟨some 33, none, none, false, .bin .add 3 true (.t 18) (.v (.int .i64 1))⟩,
  ⟨some 18, none, none, false, .mov (.t 33)⟩]))))
/-- (strobe/trigger.Cond).judge; results .tmp 4 -/
def r161 : RC := (.seq (.ops [⟨some 2, none, none, false, .box 48 (.t 0)⟩,
  ⟨some 4, none, none, false, .mov (.v (.bool false))⟩]) (.seq (.seq (.ops [⟨some 10, none, none, false, .ldn 7 (.t 2)⟩,
  ⟨some 11, none, none, false, .call 213 [(.t 10)]⟩,
  ⟨some 12, none, none, false, .un .not (.t 11)⟩]) (.cond (.t 12) (.seq (.ops [⟨some 13, none, none, false, .mov (.t 1)⟩,
  ⟨some 14, none, none, false, .callv (.t 13) []⟩,
  ⟨some 4, none, none, false, .mov (.t 14)⟩]) .ret) .skip)) (.seq (.ops [⟨some 5, none, none, false, .mov (.v (.bool false))⟩,
  ⟨some 6, none, none, false, .mov (.v (.bool true))⟩]) (.seq (.seq (.ops [⟨some 15, none, none, false, .fa 6 (.t 2)⟩,
  ⟨some 16, none, none, false, .ld1 (.t 15)⟩,
  ⟨some 17, none, none, false, .lenL (.t 16)⟩,
  ⟨some 18, none, none, false, .mov (.v (.int .i64 0))⟩]) (.block 0 (.loop r161_l0))) (.seq (.seq (.ops [⟨some 34, none, none, false, .fa 0 (.t 2)⟩,
  ⟨some 35, none, none, false, .ld1 (.t 34)⟩]) (.block 2 (.seq (.ops [⟨some 37, none, none, false, .bin .eql 9 true (.t 35) (.v (.str [110, 111, 116]))⟩,
  ⟨some 36, none, none, false, .mov (.t 37)⟩]) (.cond (.t 36) (.seq (.ops [⟨some 38, none, none, false, .mov (.t 5)⟩,
  ⟨some 39, none, none, false, .un .not (.t 38)⟩,
  ⟨some 4, none, none, false, .mov (.t 39)⟩]) .ret) (.seq (.ops [⟨some 41, none, none, false, .bin .eql 9 true (.t 35) (.v (.str [97, 110, 121]))⟩,
  ⟨some 40, none, none, false, .mov (.t 41)⟩]) (.cond (.t 40) (.seq (.ops [⟨some 42, none, none, false, .mov (.t 5)⟩,
  ⟨some 4, none, none, false, .mov (.t 42)⟩]) .ret) .skip)))))) (.seq (.ops [⟨some 43, none, none, false, .mov (.t 6)⟩,
  ⟨some 4, none, none, false, .mov (.t 43)⟩]) .ret))))))
theorem k161 : fnRC 161 = some ([.tmp 4], r161) := by kernel_rfl

/-- (strobe/trigger.machine).step$1; results .tmp 2 -/
def r162 : RC := (.seq (.ops [⟨some 2, none, none, false, .mov (.v (.bool false))⟩]) (.seq (.ops [⟨some 3, none, none, false, .ld1 (.t 0)⟩,
  ⟨some 4, none, none, false, .bin .add 3 true (.t 3) (.v (.int .i64 1))⟩,
  ⟨none, none, none, false, .st 1 (.t 0) (.t 4)⟩]) (.seq (.ops [⟨some 5, none, none, false, .ld1 (.t 1)⟩,
  ⟨some 6, none, none, false, .ld1 (.t 0)⟩,
  ⟨some 7, none, none, false, .ixa 1 (.t 5) (.t 6)⟩,
  ⟨some 8, none, none, false, .ld1 (.t 7)⟩,
  ⟨some 2, none, none, false, .mov (.t 8)⟩]) .ret)))
theorem k162 : fnRC 162 = some ([.tmp 2], r162) := by kernel_rfl

/-- strobe/trigger.checkSignal; results .tmp 4 -/
def r91 : RC := (.seq (.ops [⟨some 2, none, none, false, .box 3 (.t 0)⟩,
  ⟨some 4, none, none, false, .mov (.v (.int .i64 0))⟩]) (.seq (.seq (.ops [⟨some 5, none, none, false, .mov (.t 1)⟩,
  ⟨some 6, none, none, false, .lenL (.t 5)⟩,
  ⟨some 7, none, none, false, .bin .gtr 3 true (.t 6) (.v (.int .i64 4096))⟩]) (.cond (.t 7) (.seq (.ops [⟨some 4, none, none, false, .mov (.v (.int .i64 5))⟩]) .ret) .skip)) (.seq (.ops [⟨some 8, none, none, false, .mov (.t 1)⟩,
  ⟨some 9, none, none, false, .mkf 159 [] [(.t 2)]⟩,
  ⟨some 10, none, none, false, .call 125 [(.t 8), (.t 9)]⟩,
  ⟨some 11, none, none, false, .call 116 [(.t 10), (.v (.int .i64 3))]⟩,
  ⟨some 4, none, none, false, .mov (.t 11)⟩]) .ret)))
theorem k91 : fnRC 91 = some ([.tmp 4], r91) := by kernel_rfl

/-- slices.ContainsFunc[[]int,int]; results .tmp 4 -/
def r125 : RC := (.seq (.ops [⟨some 4, none, none, false, .mov (.v (.bool false))⟩]) (.seq (.ops [⟨some 5, none, none, false, .mov (.t 0)⟩,
  ⟨some 6, none, none, false, .mov (.t 1)⟩,
  ⟨some 7, none, none, false, .call 179 [(.t 5), (.t 6)]⟩,
  ⟨some 8, none, none, false, .bin .geq 3 true (.t 7) (.v (.int .i64 0))⟩,
  ⟨some 4, none, none, false, .mov (.t 8)⟩]) .ret))
theorem k125 : fnRC 125 = some ([.tmp 4], r125) := by kernel_rfl

/-- strobe/trigger.checkSignal$1; results .tmp 3 -/
def r159 : RC := (.seq (.ops [⟨some 3, none, none, false, .mov (.v (.bool false))⟩]) (.seq (.ops [⟨some 4, none, none, false, .mov (.t 0)⟩,
  ⟨some 5, none, none, false, .bin .lss 3 true (.t 4) (.v (.int .i64 0))⟩,
  ⟨some 6, none, none, false, .mov (.t 5)⟩,
  ⟨some 7, some (6, false), none, false, .mov (.t 0)⟩,
  ⟨some 8, some (6, false), none, false, .ld1 (.t 1)⟩,
  ⟨some 9, some (6, false), none, false, .bin .shl 3 true (.v (.int .i64 1)) (.t 8)⟩,
  ⟨some 10, some (6, false), none, false, .bin .geq 3 false (.t 7) (.t 9)⟩,
  ⟨some 11, none, none, false, .pick (.t 6) (.v (.bool true)) (.t 10)⟩,
  ⟨some 3, none, none, false, .mov (.t 11)⟩]) .ret))
theorem k159 : fnRC 159 = some ([.tmp 3], r159) := by kernel_rfl

def r179_l0 : RC := (.seq (.ops [⟨some 9, none, none, false, .bin .lss 3 false (.t 8) (.t 7)⟩]) (.seq (.cond (.t 9) .skip (.exit 0)) (.seq (.block 1 (.seq (.ops [⟨some 10, none, none, false, .mov (.t 8)⟩,
  ⟨some 5, none, none, false, .mov (.t 10)⟩]) (.seq (.ops [⟨some 11, none, none, false, .mov (.t 1)⟩,
  ⟨some 12, none, none, false, .mov (.t 0)⟩,
  ⟨some 13, none, none, false, .mov (.t 5)⟩,
  ⟨some 14, none, none, false, .ixa 1 (.t 12) (.t 13)⟩,
  ⟨some 15, none, none, false, .ld1 (.t 14)⟩,
  ⟨some 16, none, none, false, .callv (.t 11) [(.t 15)]⟩]) (.cond (.t 16) (.seq (.ops [⟨some 17, none, none, false, .mov (.t 5)⟩,
  ⟨some 4, none, none, false, .mov (.t 17)⟩]) .ret) .skip)))) (.ops [⟨some 18, none, none, false, .bin .add 3 true (.t 8) (.v (.int .i64 1))⟩,
  ⟨some 8, none, none, false, .mov (.t 18)⟩]))))
/-- slices.IndexFunc[[]int,int]; results .tmp 4 -/
def r179 : RC := (.seq (.ops [⟨some 4, none, none, false, .mov (.v (.int .i64 0))⟩]) (.seq (.seq (.ops [⟨some 6, none, none, false, .mov (.t 0)⟩,
  ⟨some 7, none, none, false, .lenL (.t 6)⟩,
  ⟨some 8, none, none, false, .mov (.v (.int .i64 0))⟩]) (.block 0 (.loop r179_l0))) (.seq (.ops [⟨some 4, none, none, false, .mov (.v (.int .i64 (-1)))⟩]) .ret)))
theorem k179 : fnRC 179 = some ([.tmp 4], r179) := by kernel_rfl


def r204_l0 : RC := (.seq (.ops [⟨some 9, none, none, false, .raw (.next (.tmp 8) true)⟩,
  ⟨some 10, none, none, false, .ext (.t 9) 0⟩]) (.seq (.cond (.t 10) .skip (.exit 0)) (.block 1 (.seq (.ops [⟨some 11, none, none, false, .ext (.t 9) 1⟩,
  ⟨some 12, none, none, false, .ext (.t 9) 2⟩,
  ⟨some 5, none, none, false, .mov (.t 11)⟩,
  ⟨some 6, none, none, false, .mov (.t 12)⟩]) (.seq (.ops [⟨some 13, none, none, false, .mov (.t 6)⟩]) (.block 2 (.seq (.seq (.ops [⟨some 15, none, none, false, .bin .eql 21 true (.t 13) (.v (.int .i32 48))⟩,
  ⟨some 14, none, none, false, .mov (.t 15)⟩]) (.cond (.t 14) .skip (.ops [⟨some 16, none, none, false, .bin .eql 21 true (.t 13) (.v (.int .i32 49))⟩,
  ⟨some 14, none, none, false, .mov (.t 16)⟩]))) (.cond (.t 14) (.seq (.ops [⟨some 17, none, none, false, .mov (.t 1)⟩,
  ⟨some 18, none, none, false, .mov (.t 5)⟩,
  ⟨some 19, none, none, false, .bin .shr 3 false (.t 17) (.t 18)⟩,
  ⟨some 20, none, none, false, .bin .and 3 true (.t 19) (.v (.int .i64 1))⟩,
  ⟨some 21, none, none, false, .bin .add 3 true (.v (.int .i64 48)) (.t 20)⟩,
  ⟨some 22, none, none, false, .raw (.convert 3 21 (.tmp 21))⟩,
  ⟨some 23, none, none, false, .mov (.t 6)⟩,
  ⟨some 24, none, none, false, .bin .neq 21 false (.t 22) (.t 23)⟩]) (.cond (.t 24) (.seq (.ops [⟨some 4, none, none, false, .mov (.v (.bool false))⟩]) .ret) .skip)) .skip))))))))
/-- strobe/trigger.matches; results .tmp 4 -/
def r204 : RC := (.seq (.ops [⟨some 4, none, none, false, .mov (.v (.bool false))⟩]) (.seq (.seq (.ops [⟨some 7, none, none, false, .mov (.t 0)⟩,
  ⟨some 8, none, none, false, .raw (.range 9 (.tmp 7))⟩]) (.block 0 (.loop r204_l0))) (.seq (.ops [⟨some 4, none, none, false, .mov (.v (.bool true))⟩]) .ret)))
theorem k204 : fnRC 204 = some ([.tmp 4], r204) := by kernel_rfl


end Go.Am

set_option linter.all false
namespace Go.Am
open Go
variable [MaxLen]
set_option maxRecDepth 100000
set_option maxHeartbeats 8000000

/-! # Signals: what the reference reads of them -/

/-- the level of a line -/
def bitI (n k : Int) : Int := n / 2 ^ k.toNat % 2
theorem bitI_le (n k : Int) : bitI n k = 0 ∨ bitI n k = 1 := by unfold bitI; omega
theorem bin_shr (t : TypeId) (cst : Bool) (a b : Int) (h0 : 0 ≤ b) (h1 : b ≤ 64) : binA U .shr t cst (.int .i64 a) (.int .i64 b) = some (.int .i64 (a / 2 ^ b.toNat)) := by
  have : min b.toNat IntKind.i64.bits = b.toNat := by
    have : IntKind.i64.bits = 64 := rfl
    omega
  simp only [binA, shiftA, if_neg (show ¬ b < 0 by omega), this]
  rw [Int.fdiv_eq_ediv_of_nonneg]
  exact Int.pow_nonneg (by decide)
theorem bin_and1 (t : TypeId) (cst : Bool) (a : Int) (h0 : 0 ≤ a) (h1 : a < 2 ^ 62) : binA U .and t cst (.int .i64 a) (.int .i64 1) = some (.int .i64 (a % 2)) := by
  simp only [binA, if_true, intA]
  have h2 : IntKind.i64.bits = 64 := rfl
  rw [h2]
  have : ((BitVec.ofInt 64 a &&& BitVec.ofInt 64 1).toNat : Int) = a % 2 := by
    rw [BitVec.toNat_and, BitVec.toNat_ofInt, BitVec.toNat_ofInt]
    have e1 : (1 % ((2 ^ 64 : Nat) : Int)).toNat = 1 := by decide
    have e2 : (a % ((2 ^ 64 : Nat) : Int)).toNat = a.toNat := by
      rw [Int.emod_eq_of_lt h0 (by omega)]
    rw [e1, e2, Nat.and_one_is_mod]
    omega
  rw [this, wrap_i64] <;> omega
theorem div_le {n : Int} (k : Nat) (h : 0 ≤ n) : 0 ≤ n / 2 ^ k ∧ n / 2 ^ k ≤ n := by
  have : (0 : Int) < 2 ^ k := Int.pow_pos (by decide)
  refine ⟨Int.ediv_nonneg h (by omega), ?_⟩
  exact Int.ediv_le_self _ h
theorem c164 (n k : Int) (h0 : 0 ≤ n) (h1 : n < 2 ^ 62) (h2 : 0 ≤ k) (h3 : k ≤ 64) : calV U 164 [.int .i64 n, .int .i64 k] = some (.int .i64 (bitI n k)) := by
  refine pure_go k164 (by kernel_rfl) rfl ?_
  have := div_le k.toNat h0
  simp +contextual only [go_sem, ↓reduceIte, r164, bin_shr _ _ _ _ h2 h3, bin_and1 _ _ _ this.1 (by omega)]
  rfl

/-- a signal: symbols below 2^16, not too many -/
def okSig (l : List Int) : Prop := l.length ≤ 4096 ∧ ∀ x ∈ l, 0 ≤ x ∧ x < 65536
def atI (l : List Int) (t : Int) : Int := l.getD t.toNat 0
theorem atI_get {l : List Int} {t : Int} (h1 : t.toNat < l.length) : l[t.toNat]? = some (atI l t) := by
  unfold atI; rw [List.getD_eq_getElem?_getD, List.getElem?_eq_getElem h1]; rfl
theorem atI_ok {l : List Int} (h : okSig l) (t : Int) : 0 ≤ atI l t ∧ atI l t < 65536 := by
  unfold atI
  rw [List.getD_eq_getElem?_getD]
  cases hg : l[t.toNat]? with
  | none => simp
  | some x => exact h.2 x (List.mem_of_getElem? hg)
theorem intsE_get {l : List Int} {t : Int} (h : t.toNat < l.length) : (ints l)[t.toNat]? = some (.int .i64 (atI l t)) := by
  rw [ints_get, atI_get h]; rfl
theorem ixa_sig {nl : Bool} {l : List Int} {t : Int} (h0 : 0 ≤ t) (h1 : t.toNat < l.length) : ixRA 1 (encS nl (ints l)) (.int .i64 t) = some (.fp [.int .i64 (atI l t)] 0) :=
  ixa_encS 1 nl (ints l) .i64 t (.int .i64 (atI l t)) h0 (intsE_get h1) rfl (by decide)
theorem bit_sig {l : List Int} (h : okSig l) (t k : Int) (h2 : 0 ≤ k) (h3 : k < 64) : calV U 164 [.int .i64 (atI l t), .int .i64 k] = some (.int .i64 (bitI (atI l t) k)) := by
  have := atI_ok h t
  exact c164 _ _ this.1 (by omega) h2 (by omega)

def befI (l : List Int) (t : Int) : Int := atI l (max 0 (t - 1))
theorem max_lit (t s : St) (a b : Int) : maxA .i64 a [.int .i64 b] = some (.int .i64 (max a b)) := by
  simp only [maxA]
  congr 2
  split <;> omega
theorem c163 (nl : Bool) (l : List Int) (t : Int) (h0 : 0 ≤ t) (h1 : t.toNat < l.length) (h2 : l.length < 2 ^ 40) : calV U 163 [encS nl (ints l), .int .i64 t] = some (.int .i64 (befI l t)) := by
  refine pure_go k163 (by kernel_rfl) (by simp [stills, still_encS, still]) ?_
  have hw : IntKind.i64.wrap (t - 1) = t - 1 := by rw [wrap_i64] <;> omega
  have hm : ∀ e s, Env.get e 7 = .int .i64 (t - 1) → opA U (execL U) e (.call { callee := .builtin .max, args := #[(.const (.int .i64 0)), (.tmp 7)], argTypes := #[3, 3] }) s = some (.int .i64 (max 0 (t - 1)), s) := by
    intro e s h
    simp only [opA, evals, eval, ofV, h, builtinA, maxA]
    congr 3
    split <;> omega
  have hb : (max 0 (t - 1)).toNat < l.length := by omega
  simp +contextual only [go_sem, ↓reduceIte, r163, hw, hm, ixa_sig (nl := nl) (l := l) (t := max 0 (t - 1)) (by omega) hb]
  rfl
end Go.Am

set_option linter.all false
namespace Go.Am
open Go
variable [MaxLen]
set_option maxRecDepth 100000
set_option maxHeartbeats 8000000

/-- where the run of a line begins that holds a time -/
def runN (l : List Int) (k : Int) : Nat → Nat
  | 0 => 0
  | t + 1 => bif bitI (atI l (t : Int)) k == bitI (atI l ((t + 1 : Nat) : Int)) k then runN l k t else t + 1
theorem runN_le (l : List Int) (k : Int) : ∀ t, runN l k t ≤ t
  | 0 => Nat.le_refl _
  | t + 1 => by
    unfold runN
    cases bitI (atI l (t : Int)) k == bitI (atI l ((t + 1 : Nat) : Int)) k with
    | true => have := runN_le l k t; show runN l k t ≤ t + 1; omega
    | false => exact Nat.le_refl _
theorem ixa_sigN {nl : Bool} {l : List Int} {t : Nat} (h1 : t < l.length) : ixRA 1 (encS nl (ints l)) (.int .i64 (t : Int)) = some (.fp [.int .i64 (atI l (t : Int))] 0) :=
  ixa_sig (by omega) (by omega)

theorem c167 (nl : Bool) (l : List Int) (k : Int) (t : Nat) (hl : okSig l) (h2 : 0 ≤ k) (h3 : k < 64) (ht : t < l.length) :
    calV U 167 [encS nl (ints l), .int .i64 k, .int .i64 (t : Int)] = some (.int .i64 (runN l k t : Nat)) := by
  refine pure_go k167 (by kernel_rfl) (by simp [stills, still_encS, still]) ?_
  have hlen := hl.1
  have hbit := fun t => bit_sig hl t k h2 h3
  simp +contextual only [go_sem, ↓reduceIte, r167]
  refine loop_to (σ := Nat) (fun i => i) (fun i => some (AV.int .i64 (runN l k i : Nat))) (fun i e s => i < l.length ∧ Env.get e 0 = encS nl (ints l) ∧ Env.get e 1 = .int .i64 k ∧ Env.get e 2 = .int .i64 (i : Int)) t ?_ rfl ?_
  · rintro L i e s ⟨hi, g0, g1, g2⟩ ih
    cases i with
    | zero =>
      have hp : decide (((0 : Nat) : Int) > 0) = false := by decide
      simp +contextual only [go_sem, ↓reduceIte, r167_l0, g0, g1, g2, hp]
      rfl
    | succ i =>
      have hp : decide (((i + 1 : Nat) : Int) > 0) = true := decide_eq_true (by omega)
      have hw : IntKind.i64.wrap (((i + 1 : Nat) : Int) - 1) = (i : Int) := by rw [wrap_i64] <;> omega
      simp +contextual only [go_sem, ↓reduceIte, r167_l0, g0, g1, g2, hp, hw, ixa_sigN (nl := nl) (show i < l.length by omega), ixa_sigN (nl := nl) hi, hbit]
      rw [runN]
      cases hb : bitI (atI l (i : Int)) k == bitI (atI l ((i + 1 : Nat) : Int)) k with
      | true =>
        simp +contextual only [go_sem, ↓reduceIte, hb]
        refine ih i _ _ (by omega) ⟨by omega, ?_, ?_, ?_⟩ <;> simp +contextual only [go_sem, ↓reduceIte, g0, g1, g2, hw]
      | false =>
        simp +contextual only [go_sem, ↓reduceIte, hb]
  · refine ⟨ht, ?_, ?_, ?_⟩ <;> simp +contextual only [go_sem, ↓reduceIte]
end Go.Am

set_option linter.all false
namespace Go.Am
open Go
variable [MaxLen]
set_option maxRecDepth 100000
set_option maxHeartbeats 8000000

/-- no end of a run of a level at a time -/
def noEnd (l : List Int) (k lev : Int) (t : Nat) : Bool := (t : Int) == 0 || bitI (atI l (t : Int)) k == lev || bitI (atI l ((t - 1 : Nat) : Int)) k != lev
def endFrom (l : List Int) (k lev : Int) (t : Nat) : Nat := bif noEnd l k lev t then 0 else runN l k (t - 1)
def endIs (l : List Int) (k lev : Int) (t : Nat) : Bool := bif noEnd l k lev t then false else decide (0 < runN l k (t - 1))

theorem c166 (nl : Bool) (l : List Int) (k lev : Int) (t : Nat) (hl : okSig l) (h2 : 0 ≤ k) (h3 : k < 64) (ht : t < l.length) :
    calV U 166 [encS nl (ints l), .int .i64 k, .int .i64 lev, .int .i64 (t : Int)] = some (.tup [.int .i64 (endFrom l k lev t : Nat), .bool (endIs l k lev t)]) := by
  refine pure_go k166 (by kernel_rfl) (by simp [stills, still_encS, still]) ?_
  have hlen := hl.1
  have hbit := fun t => bit_sig hl t k h2 h3
  cases t with
  | zero =>
    have hp : (((0 : Nat) : Int) == 0) = true := by decide
    simp +contextual only [go_sem, ↓reduceIte, r166, hp]
    rfl
  | succ i =>
    have hp : (((i + 1 : Nat) : Int) == 0) = false := by simp; omega
    have hw : IntKind.i64.wrap (((i + 1 : Nat) : Int) - 1) = (i : Int) := by rw [wrap_i64] <;> omega
    have hi : i < l.length := by omega
    have hr := c167 nl l k i hl h2 h3 hi
    have hg : decide (((runN l k i : Nat) : Int) > 0) = decide (0 < runN l k i) := by congr 1; apply propext; omega
    rw [endFrom, endIs, noEnd, hp, Nat.add_sub_cancel, Bool.false_or]
    cases ha : bitI (atI l ((i + 1 : Nat) : Int)) k == lev with
    | true =>
      simp +contextual only [go_sem, ↓reduceIte, r166, hp, hw, ixa_sigN (nl := nl) hi, ixa_sigN (nl := nl) ht, hbit, ha, Bool.true_or]
      rfl
    | false =>
      cases hb : bitI (atI l (i : Int)) k != lev with
      | true =>
        simp +contextual only [go_sem, ↓reduceIte, r166, hp, hw, ixa_sigN (nl := nl) hi, ixa_sigN (nl := nl) ht, hbit, ha, hb]
        rfl
      | false =>
        simp +contextual only [go_sem, ↓reduceIte, r166, hp, hw, ixa_sigN (nl := nl) hi, ixa_sigN (nl := nl) ht, hbit, ha, hb, hr, hg]
        rfl

/-- a byte of a pattern that a symbol does not meet -/
def mtBad (sym : Int) (i : Nat) (c : UInt8) : Bool := c == 48 && bitI sym (i : Int) != 0 || c == 49 && bitI sym (i : Int) != 1
def mtR (sym : Int) : Nat → Str → Bool
  | _, [] => true
  | i, c :: l => bif mtBad sym i c then false else mtR sym (i + 1) l

theorem c165 (pat : Str) (sym : Int) (hs : 0 ≤ sym ∧ sym < 65536) (hp : pat.length ≤ 64) : calV U 165 [.str pat, .int .i64 sym] = some (.bool (mtR sym 0 pat)) := by
  refine pure_go k165 (by kernel_rfl) rfl ?_
  simp +contextual only [go_sem, ↓reduceIte, r165]
  refine loop_to (σ := Nat) (fun i => pat.length - i) (fun i => some (AV.bool (mtR sym i (pat.drop i)))) (fun i e s => i ≤ pat.length ∧ Env.get e 0 = .str pat ∧ Env.get e 1 = .int .i64 sym ∧ Env.get e 5 = .int .i64 i) 0 ?_ rfl ?_
  · rintro L i e s ⟨hi, h0, h1, h5⟩ ih
    by_cases hd : i < pat.length
    · have hx : pat[i]? = some pat[i] := List.getElem?_eq_getElem hd
      have hw := wrap_succ hd (by omega)
      have hb := c164 sym (i : Int) hs.1 (by omega) (by omega) (by omega)
      rw [List.drop_eq_getElem_cons hd, mtR, mtBad]
      simp +contextual only [go_sem, ↓reduceIte, r165_l0, h0, h1, h5, nat_lt_dec, hd, hx, byte_eq _ 48 48 rfl, byte_eq _ 49 49 rfl, hb]
      cases hc : (pat[i] == 48 && bitI sym (i : Int) != 0 || pat[i] == 49 && bitI sym (i : Int) != 1)
      · simp +contextual only [go_sem, ↓reduceIte, hc, hw, br_false]
        refine ih (i + 1) _ _ (by omega) ⟨by omega, ?_, ?_, ?_⟩ <;> simp +contextual only [go_sem, ↓reduceIte, h0, h1, h5, hw]
      · simp +contextual only [go_sem, ↓reduceIte, hc]
    · have : i = pat.length := by omega
      subst this
      simp +contextual only [go_sem, ↓reduceIte, r165_l0, h0, h1, h5, nat_lt_dec, Nat.lt_irrefl]
      rw [List.drop_length]; rfl
  · refine ⟨Nat.zero_le _, ?_, ?_, ?_⟩ <;> simp +contextual only [go_sem, ↓reduceIte] <;> rfl
end Go.Am

set_option linter.all false
namespace Go.Am
open Go
variable [MaxLen]

/-! # A valid condition, and what it means at a time -/

def Cond.wf : Cond → Prop
  | .mk k a b mi ma pat _ kids => (0 ≤ a ∧ a < 16) ∧ (0 ≤ b ∧ b < 16) ∧ (0 ≤ mi ∧ mi ≤ 255) ∧ (0 ≤ ma ∧ ma ≤ 255) ∧ pat.length ≤ 16 ∧ (∀ c ∈ pat, c = 48 ∨ c = 49 ∨ c = 120) ∧
    (kdOf k).known = true ∧ (kdOf k = .not_ → kids.length = 1) ∧ ((usesOf (kdOf k)).kids = false → kids = []) ∧ ((usesOf (kdOf k)).kids = true → kids ≠ []) ∧ ((usesOf (kdOf k)).mi = true → 1 ≤ mi) ∧ kids.length ≤ 8 ∧ ∀ x ∈ kids, x.wf

theorem br_zeroH {p : Bool} {e x : Int} (h : br p e x = 0) (he : e ≠ 0) : p = false ∧ x = 0 := by
  cases p
  · exact ⟨rfl, h⟩
  · exact absurd h he
theorem ckRL_zero {lines d : Int} : ∀ {l : List Cond}, ckRL lines l d = 0 → ∀ x ∈ l, ckR lines x d = 0
  | [], _, x, hx => by cases hx
  | c :: l, h, x, hx => by
    rw [ckRL] at h
    cases hb : ckR lines c d != 0 with
    | true =>
      rw [hb] at h
      have h : ckR lines c d = 0 := h
      rw [h] at hb; cases hb
    | false =>
      rw [hb] at h
      rcases List.mem_cons.1 hx with rfl | hx
      · simpa using hb
      · exact ckRL_zero h x hx
theorem badPat_okH {pat : Str} {lines : Int} (h : badPat pat lines = false) : (pat.length : Int) = lines ∧ ∀ c ∈ pat, c = 48 ∨ c = 49 ∨ c = 120 := by
  unfold badPat at h
  rw [Bool.or_eq_false_iff] at h
  refine ⟨by simpa using h.1, fun c hc => ?_⟩
  have := List.any_eq_false.1 h.2 c hc
  by_cases h1 : c = 48
  · exact .inl h1
  · by_cases h2 : c = 49
    · exact .inr (.inl h2)
    · by_cases h3 : c = 120
      · exact .inr (.inr h3)
      · exact absurd (by simp [h1, h2, h3]) this
theorem outside_ok {n a b : Int} (h : outside n a b = false) : a ≤ n ∧ n ≤ b := by
  unfold outside at h
  simp only [Bool.or_eq_false_iff, decide_eq_false_iff_not] at h
  omega
theorem wf_of_ck {lines : Int} (h1 : 1 ≤ lines) (h2 : lines ≤ 16) : ∀ (c : Cond) (d : Int), ckR lines c d = 0 → c.wf := by
  intro c
  induction c using Cond.ind with
  | h k a b mi ma pat nl kids ih =>
  intro d h
  rw [ckR] at h
  obtain ⟨-, h⟩ := br_zeroH h (by decide)
  obtain ⟨q1, h⟩ := br_zeroH h (by decide)
  obtain ⟨q2, h⟩ := br_zeroH h (by decide)
  obtain ⟨q3, h⟩ := br_zeroH h (by decide)
  obtain ⟨-, h⟩ := br_zeroH h (by decide)
  obtain ⟨q5, h⟩ := br_zeroH h (by decide)
  obtain ⟨-, h⟩ := br_zeroH h (by decide)
  obtain ⟨q7, h⟩ := br_zeroH h (by decide)
  obtain ⟨q8, h⟩ := br_zeroH h (by decide)
  obtain ⟨q9, h⟩ := br_zeroH h (by decide)
  obtain ⟨q10, h⟩ := br_zeroH h (by decide)
  have hk := fun x hx => ih x hx _ (ckRL_zero h x hx)
  rw [wrap_i64 (by omega) (by omega)] at q3
  simp only [Bool.or_eq_false_iff, Bool.and_eq_false_iff] at q2 q3 q5 q7 q8 q9 q10
  rw [kdOf_not] at q8
  rw [Cond.wf]
  generalize kdOf k = dd at *
  have ha : 0 ≤ a ∧ a < 16 := by
    cases hu : (usesOf dd).a with
    | true => rcases q3.1 with h | h; (rw [hu] at h; cases h); have := outside_ok h; omega
    | false => rcases q2.1.1.1.1.1 with h | h; (rw [hu] at h; cases h); have : a = 0 := by simpa using h
               omega
  have hb : 0 ≤ b ∧ b < 16 := by
    cases hu : (usesOf dd).b with
    | true => rcases q3.2 with h | h; (rw [hu] at h; cases h); have := outside_ok h; omega
    | false => rcases q2.1.1.1.1.2 with h | h; (rw [hu] at h; cases h); have : b = 0 := by simpa using h
               omega
  have hm : 0 ≤ mi ∧ mi ≤ 255 ∧ ((usesOf dd).mi = true → 1 ≤ mi) := by
    cases hu : (usesOf dd).mi with
    | true => rcases q5.1 with h | h; (rw [hu] at h; cases h); have := outside_ok h; omega
    | false => rcases q2.1.1.1.2 with h | h; (rw [hu] at h; cases h); have : mi = 0 := by simpa using h
               subst this; exact ⟨by omega, by omega, fun h => by cases h⟩
  have hM : 0 ≤ ma ∧ ma ≤ 255 := by
    cases hu : (usesOf dd).ma with
    | true => rcases q5.2 with h | h; (rw [hu] at h; cases h); have := outside_ok h; omega
    | false => rcases q2.1.1.2 with h | h; (rw [hu] at h; cases h); have : ma = 0 := by simpa using h
               omega
  have hp : pat.length ≤ 16 ∧ ∀ c ∈ pat, c = 48 ∨ c = 49 ∨ c = 120 := by
    cases hu : (usesOf dd).pat with
    | true => rcases q7 with h | h; (rw [hu] at h; cases h); have := badPat_okH h; exact ⟨by omega, this.2⟩
    | false => rcases q2.1.2 with h | h; (rw [hu] at h; cases h); have : pat = [] := by simpa using h
               subst this; exact ⟨by simp, by simp⟩
  refine ⟨ha, hb, ⟨hm.1, hm.2.1⟩, hM, hp.1, hp.2, by simpa using q1, fun hd => ?_, fun hu => ?_, fun hu => ?_, hm.2.2, ?_, hk⟩
  · rcases q8 with h | h
    · simp [hd] at h
    · have : (kids.length : Int) = 1 := by simpa using h
      omega
  · rcases q2.2 with h | h
    · rw [hu] at h; cases h
    · have : ¬ (kids.length : Int) > 0 := by simpa using h
      exact List.eq_nil_of_length_eq_zero (by omega)
  · rcases q9 with h | h
    · rw [hu] at h; cases h
    · intro e; subst e; simp at h
  · cases hu : (usesOf dd).kids with
    | true =>
      rcases q10 with h | h
      · rw [hu] at h; cases h
      · have : ¬ (kids.length : Int) > 8 := by simpa using h
        omega
    | false =>
      rcases q2.2 with h | h
      · rw [hu] at h; cases h
      · have : ¬ (kids.length : Int) > 0 := by simpa using h
        omega

/-- whether a line changes at one of n times from u on -/
def chg (l : List Int) (k : Int) : Nat → Nat → Bool → Bool
  | _, 0, p => p
  | u, n + 1, p => chg l k (u + 1) n (p || bitI (atI l (u : Int)) k != bitI (atI l ((u - 1 : Nat) : Int)) k)
/-- whether a line is low from u on, n times -/
def low (l : List Int) (k : Int) : Nat → Nat → Bool → Bool
  | _, 0, p => p
  | u, n + 1, p => bif p then low l k (u + 1) n (bitI (atI l (u : Int)) k == 0) else false
def setupFrom (t : Nat) (mi : Int) : Nat := (max 1 ((t : Int) - mi + 1)).toNat

mutual
/-- whether a condition holds at a time -/
def atR (l : List Int) (t : Nat) : Cond → Bool
  | .mk k a b mi ma pat nl kids =>
    let now := atI l (t : Int)
    let was := befI l (t : Int)
    match kdOf k with
    | .high => bitI now a == 1
    | .low => bitI now a == 0
    | .rise => bitI now a == 1 && bitI was a == 0
    | .fall => bitI now a == 0 && bitI was a == 1
    | .pattern => mtR now 0 pat
    | .enter => mtR now 0 pat && !mtR was 0 pat
    | .pulse => endIs l a 1 t && !outside ((t : Int) - (endFrom l a 1 t : Nat)) mi ma
    | .gap => endIs l a 0 t && !outside ((t : Int) - (endFrom l a 0 t : Nat)) mi ma
    | .idle => (t : Int) - (runN l a t : Nat) + 1 == mi
    | .setup => chg l a (setupFrom t mi) (t + 1 - setupFrom t mi) false && bitI now b == 1 && bitI was b == 0
    | .runt => low l b (endFrom l a 1 t) (t - endFrom l a 1 t) (endIs l a 1 t)
    | .not_ => !atR1 l t kids
    | d => ((atRL l t kids : Nat) : Int) == ((kids.length : Nat) : Int) || decide (d = .any_) && decide (((atRL l t kids : Nat) : Int) > 0)
def atR1 (l : List Int) (t : Nat) : List Cond → Bool
  | [] => false
  | c :: _ => atR l t c
def atRL (l : List Int) (t : Nat) : List Cond → Nat
  | [] => 0
  | c :: k => (bif atR l t c then 1 else 0) + atRL l t k
end
end Go.Am

set_option linter.all false
namespace Go.Am
open Go
variable [MaxLen]
set_option maxRecDepth 100000
set_option maxHeartbeats 8000000

theorem maxOp_1 (x : Nat) (n : Int) (e : Env) (s : St) (h : Env.get e x = .int .i64 n) (c : Int) (tys : Array TypeId) : opA U (execL U) e (.call { callee := .builtin .max, args := #[(.const (.int .i64 c)), (.tmp x)], argTypes := tys }) s = some (.int .i64 (max c n), s) := by
  simp only [opA, evals, eval, ofV, h, builtinA, maxA]
  congr 3
  split <;> omega

theorem nat_le_dec (a b : Nat) : decide ((a : Int) ≤ (b : Int)) = decide (a ≤ b) := by congr 1; apply propext; omega
theorem low_false (l : List Int) (k : Int) (u : Nat) : ∀ n, low l k u n false = false
  | 0 => rfl
  | n + 1 => rfl
theorem natI_pos (n : Nat) : decide ((n : Int) > 0) = decide (0 < n) := by congr 1; apply propext; omega

theorem c97 (nl : Bool) (l : List Int) (hl : okSig l) (t : Nat) (ht : t < l.length) : ∀ c : Cond, c.wf → calV U 97 [encC c, encS nl (ints l), .int .i64 (t : Int)] = some (.bool (atR l t c)) := by
  intro c
  induction c using Cond.ind with
  | h k a b mi ma pat knl kids ih =>
  intro hwf
  rw [Cond.wf] at hwf
  obtain ⟨⟨ha0, ha1⟩, ⟨hb0, hb1⟩, ⟨hm0, hm1⟩, ⟨hM0, hM1⟩, hp, -, hkn, hnot, hleaf, hne, hmi, hk8, hkw⟩ := hwf
  have hlen := hl.1
  have hnow := atI_ok hl (t : Int)
  have hwas : 0 ≤ befI l (t : Int) ∧ befI l (t : Int) < 65536 := atI_ok hl _
  have b1 := bit_sig hl (t : Int) a ha0 (by omega)
  have b2 := bit_sig hl (max 0 ((t : Int) - 1)) a ha0 (by omega)
  have b3 := bit_sig hl (t : Int) b hb0 (by omega)
  have b4 := bit_sig hl (max 0 ((t : Int) - 1)) b hb0 (by omega)
  have cb := c163 nl l (t : Int) (by omega) (by omega) (by omega)
  have m1 := c165 pat _ hnow (by omega)
  have m2 := c165 pat _ hwas (by omega)
  have e1 := fun lev => c166 nl l a lev t hl ha0 (by omega) ht
  have cr := c167 nl l a t hl ha0 (by omega) ht
  have hef : ∀ lev, endFrom l a lev t ≤ t := fun lev => by
    unfold endFrom
    cases noEnd l a lev t with
    | true => exact Nat.zero_le _
    | false => have := runN_le l a (t - 1); show runN l a (t - 1) ≤ t; omega
  have hrn := runN_le l a t
  have w1 : ∀ lev, IntKind.i64.wrap ((t : Int) - (endFrom l a lev t : Nat)) = (t : Int) - (endFrom l a lev t : Nat) := fun lev => by
    have := hef lev
    rw [wrap_i64] <;> omega
  have w2 : IntKind.i64.wrap ((t : Int) - (runN l a t : Nat)) = (t : Int) - (runN l a t : Nat) := by rw [wrap_i64] <;> omega
  have w3 : IntKind.i64.wrap ((t : Int) - (runN l a t : Nat) + 1) = (t : Int) - (runN l a t : Nat) + 1 := by rw [wrap_i64] <;> omega
  have w4 : IntKind.i64.wrap ((t : Int) - mi) = (t : Int) - mi := by rw [wrap_i64] <;> omega
  have w5 : IntKind.i64.wrap ((t : Int) - mi + 1) = (t : Int) - mi + 1 := by rw [wrap_i64] <;> omega
  refine pure_go k97 (by kernel_rfl) (by simp [stills, still_encS, still, still_encC]) ?_
  rw [encC, atR]
  obtain ⟨h0, h1, h2, h3, h4, h5, h6, h7, h8, h9, h10, h11, h12, h13, h14⟩ := kd_facts k
  unfold befI at *
  generalize kdOf k = dd at *
  cases dd
  all_goals simp only [reduceCtorEq, decide_true, decide_false] at h1 h2 h3 h4 h5 h6 h7 h8 h9 h10 h11 h12 h13 h14
  case high => simp (config := { maxSteps := 2000000 }) +contextual only [go_sem, ↓reduceIte, r97, h1, ixa_sigN (nl := nl) ht, cb, b1]
  case low => simp (config := { maxSteps := 2000000 }) +contextual only [go_sem, ↓reduceIte, r97, h1, h2, ixa_sigN (nl := nl) ht, cb, b1]
  case rise => simp (config := { maxSteps := 2000000 }) +contextual only [go_sem, ↓reduceIte, r97, h1, h2, h3, ixa_sigN (nl := nl) ht, cb, b1, b2]
  case fall => simp (config := { maxSteps := 2000000 }) +contextual only [go_sem, ↓reduceIte, r97, h1, h2, h3, h4, ixa_sigN (nl := nl) ht, cb, b1, b2]
  case pattern => simp (config := { maxSteps := 2000000 }) +contextual only [go_sem, ↓reduceIte, r97, h1, h2, h3, h4, h5, ixa_sigN (nl := nl) ht, cb, m1]
  case enter => simp (config := { maxSteps := 2000000 }) +contextual only [go_sem, ↓reduceIte, r97, h1, h2, h3, h4, h5, h6, ixa_sigN (nl := nl) ht, cb, m1, m2]
  case pulse => simp (config := { maxSteps := 2000000 }) +contextual only [go_sem, ↓reduceIte, r97, h1, h2, h3, h4, h5, h6, h7, ixa_sigN (nl := nl) ht, cb, e1, w1, c94]
  case gap => simp (config := { maxSteps := 2000000 }) +contextual only [go_sem, ↓reduceIte, r97, h1, h2, h3, h4, h5, h6, h7, h8, ixa_sigN (nl := nl) ht, cb, e1, w1, c94]
  case idle => simp (config := { maxSteps := 2000000 }) +contextual only [go_sem, ↓reduceIte, r97, h1, h2, h3, h4, h5, h6, h7, h8, h9, ixa_sigN (nl := nl) ht, cb, cr, w2, w3]
  case setup =>
    have hsf : max 1 ((t : Int) - mi + 1) = ((setupFrom t mi : Nat) : Int) := by unfold setupFrom; omega
    have hs0 : 1 ≤ setupFrom t mi ∧ setupFrom t mi ≤ t + 1 := by unfold setupFrom; omega
    simp (config := { maxSteps := 2000000 }) +contextual only [go_sem, ↓reduceIte, r97, h1, h2, h3, h4, h5, h6, h7, h8, h9, h10, ixa_sigN (nl := nl) ht, cb, w4, w5, maxOp_1 153 ((t : Int) - mi + 1)]
    refine loop_to (σ := Nat × Bool) (fun x => t + 1 - x.1) (fun x => some (AV.bool (chg l a x.1 (t + 1 - x.1) x.2 && bitI (atI l (t : Int)) b == 1 && bitI (atI l (max 0 ((t : Int) - 1))) b == 0)))
      (fun x e s => 1 ≤ x.1 ∧ x.1 ≤ t + 1 ∧ Env.get e 1 = encS nl (ints l) ∧ Env.get e 2 = .int .i64 (t : Int) ∧ Env.get e 3 = .ptr 8 0 ∧ Env.get e 7 = .int .i64 (atI l (t : Int)) ∧ Env.get e 8 = .int .i64 (atI l (max 0 ((t : Int) - 1))) ∧ Env.get e 13 = .bool x.2 ∧ Env.get e 14 = .int .i64 (x.1 : Int) ∧
        s.get 8 = some (.cells [.str k, .int .i64 a, .int .i64 b, .int .i64 mi, .int .i64 ma, .str pat, encS knl (encL kids)] 39 false 0 0)) (setupFrom t mi, false) ?_ rfl ?_
    · rintro L ⟨u, p⟩ e s ⟨hu1, hu2, g1, g2, g3, g7, g8, g13, g14, hs⟩ IH
      simp only at hu1 hu2 g13 g14 IH ⊢
      by_cases hd : u ≤ t
      · have hw : IntKind.i64.wrap ((u : Int) + 1) = ((u + 1 : Nat) : Int) := by rw [wrap_i64] <;> omega
        have hw' : IntKind.i64.wrap ((u : Int) - 1) = ((u - 1 : Nat) : Int) := by rw [wrap_i64] <;> omega
        rw [show t + 1 - u = (t + 1 - (u + 1)) + 1 by omega, chg]
        cases p with
        | true =>
          simp +contextual only [go_sem, ↓reduceIte, r97_l0, g1, g2, g3, g7, g8, g13, g14, hs, nat_le_dec, hd, hw]
          refine IH (u + 1, true) _ _ (by simp only; omega) ⟨by simp only; omega, by simp only; omega, ?_, ?_, ?_, ?_, ?_, ?_, ?_, ?_⟩ <;> simp +contextual only [go_sem, ↓reduceIte, g1, g2, g3, g7, g8, g13, g14, hs, hw]
        | false =>
          have q1 := bit_sig hl (u : Int) a ha0 (by omega)
          have q2 := bit_sig hl ((u - 1 : Nat) : Int) a ha0 (by omega)
          simp +contextual only [go_sem, ↓reduceIte, r97_l0, g1, g2, g3, g7, g8, g13, g14, hs, nat_le_dec, hd, hw, hw', ixa_sigN (nl := nl) (show u < l.length by omega), ixa_sigN (nl := nl) (show u - 1 < l.length by omega), q1, q2]
          refine IH (u + 1, bitI (atI l (u : Int)) a != bitI (atI l ((u - 1 : Nat) : Int)) a) _ _ (by simp only; omega) ⟨by simp only; omega, by simp only; omega, ?_, ?_, ?_, ?_, ?_, ?_, ?_, ?_⟩ <;> simp +contextual only [go_sem, ↓reduceIte, g1, g2, g3, g7, g8, g13, g14, hs, hw]
      · have : u = t + 1 := by omega
        subst this
        rw [Nat.sub_self, chg]
        have hd' : ¬ (t + 1 ≤ t) := by omega
        cases p <;> simp +contextual only [go_sem, ↓reduceIte, r97_l0, g1, g2, g3, g7, g8, g13, g14, hs, nat_le_dec, hd', b3, b4, Bool.true_and, Bool.false_and]
    · refine ⟨hs0.1, hs0.2, ?_, ?_, ?_, ?_, ?_, ?_, ?_, ?_⟩ <;> simp +contextual only [go_sem, ↓reduceIte, hsf] <;> rfl
  case runt =>
    simp (config := { maxSteps := 2000000 }) +contextual only [go_sem, ↓reduceIte, r97, h1, h2, h3, h4, h5, h6, h7, h8, h9, h10, h11, ixa_sigN (nl := nl) ht, cb, e1]
    refine loop_to (σ := Nat × Bool) (fun x => t - x.1) (fun x => some (AV.bool (low l b x.1 (t - x.1) x.2)))
      (fun x e s => x.1 ≤ t ∧ Env.get e 1 = encS nl (ints l) ∧ Env.get e 2 = .int .i64 (t : Int) ∧ Env.get e 3 = .ptr 8 0 ∧ Env.get e 16 = .bool x.2 ∧ Env.get e 17 = .int .i64 (x.1 : Int) ∧
        s.get 8 = some (.cells [.str k, .int .i64 a, .int .i64 b, .int .i64 mi, .int .i64 ma, .str pat, encS knl (encL kids)] 39 false 0 0)) (endFrom l a 1 t, endIs l a 1 t) ?_ rfl ?_
    · rintro L ⟨u, p⟩ e s ⟨hu2, g1, g2, g3, g16, g17, hs⟩ IH
      simp only at hu2 g16 g17 IH ⊢
      by_cases hd : u < t
      · have hw : IntKind.i64.wrap ((u : Int) + 1) = ((u + 1 : Nat) : Int) := by rw [wrap_i64] <;> omega
        cases p with
        | false =>
          rw [low_false]
          simp +contextual only [go_sem, ↓reduceIte, r97_l1, g1, g2, g3, g16, g17, hs, nat_lt_dec, hd, hw]
        | true =>
          have q1 := bit_sig hl (u : Int) b hb0 (by omega)
          rw [show t - u = (t - (u + 1)) + 1 by omega, low, cond_true]
          simp +contextual only [go_sem, ↓reduceIte, r97_l1, g1, g2, g3, g16, g17, hs, nat_lt_dec, hd, hw, ixa_sigN (nl := nl) (show u < l.length by omega), q1]
          refine IH (u + 1, bitI (atI l (u : Int)) b == 0) _ _ (by simp only; omega) ⟨by simp only; omega, ?_, ?_, ?_, ?_, ?_, ?_⟩ <;> simp +contextual only [go_sem, ↓reduceIte, g1, g2, g3, g16, g17, hs, hw]
      · have : u = t := by omega
        subst this
        rw [Nat.sub_self, low]
        simp +contextual only [go_sem, ↓reduceIte, r97_l1, g1, g2, g3, g16, g17, hs, nat_lt_dec, Nat.lt_irrefl]
    · refine ⟨hef 1, ?_, ?_, ?_, ?_, ?_, ?_⟩ <;> simp +contextual only [go_sem, ↓reduceIte] <;> rfl
  case not_ =>
    obtain ⟨x, rfl⟩ := List.length_eq_one_iff.1 (hnot rfl)
    have hx := ih x (List.mem_cons_self ..) (hkw x (List.mem_cons_self ..))
    rw [encC_cells] at hx
    simp only [Cond.cells] at hx
    simp only [encL, encS_cons, encC_cells, Cond.cells, atR1]
    simp (config := { maxSteps := 2000000 }) +contextual only [go_sem, ↓reduceIte, r97, h1, h2, h3, h4, h5, h6, h7, h8, h9, h10, h11, h12, ixa_sigN (nl := nl) ht, cb, hx]
  all_goals
    simp (config := { maxSteps := 2000000 }) +contextual only [go_sem, ↓reduceIte, r97, h1, h2, h3, h4, h5, h6, h7, h8, h9, h10, h11, h12, h13, h14, ixa_sigN (nl := nl) ht, cb]
    first
    | (simp [Kd.known] at hkn; done)
    | (refine loop_to (σ := Nat × Nat) (fun x => kids.length - x.1) (fun x => some (AV.bool (((x.2 + atRL l t (kids.drop x.1) : Nat) : Int) == ((kids.length : Nat) : Int) || (k == [97, 110, 121]) && decide (((x.2 + atRL l t (kids.drop x.1) : Nat) : Int) > 0))))
        (fun x e s => x.1 ≤ kids.length ∧ x.2 ≤ x.1 ∧ Env.get e 1 = encS nl (ints l) ∧ Env.get e 2 = .int .i64 (t : Int) ∧ Env.get e 3 = .ptr 8 0 ∧ Env.get e 18 = .int .i64 (x.2 : Int) ∧ Env.get e 19 = .int .i64 (x.1 : Int) ∧
          s.get 8 = some (.cells [.str k, .int .i64 a, .int .i64 b, .int .i64 mi, .int .i64 ma, .str pat, encS knl (encL kids)] 39 false 0 0)) (0, 0) ?_ ?_ ?_
       · rintro L ⟨i, n⟩ e s ⟨hi, hn, g1, g2, g3, g18, g19, hs⟩ IH
         simp only at hi hn g18 g19 IH ⊢
         by_cases hd : i < kids.length
         · have hx : (encL kids)[i]? = some (encC kids[i]) := by rw [encL_get, List.getElem?_eq_getElem hd]; rfl
           have hw := wrap_succ hd (by omega)
           have hw' : IntKind.i64.wrap ((n : Int) + 1) = ((n + 1 : Nat) : Int) := by rw [wrap_i64] <;> omega
           have hc := ih kids[i] (List.getElem_mem hd) (hkw _ (List.getElem_mem hd))
           rw [encS_ne (encL_ne hd)] at hs
           rw [encC_cells] at hx hc
           simp only [Cond.cells] at hx hc
           rw [List.drop_eq_getElem_cons hd, atRL]
           simp +contextual only [go_sem, ↓reduceIte, r97_l2, g1, g2, g3, g18, g19, hs, nat_lt_dec, hd, encL_len, hx, hc]
           cases hb : atR l t kids[i] with
           | true =>
             simp +contextual only [go_sem, ↓reduceIte, hw, hw', cond_true]
             rw [show n + (1 + atRL l t (kids.drop (i + 1))) = (n + 1) + atRL l t (kids.drop (i + 1)) by omega]
             refine IH (i + 1, n + 1) _ _ (by simp only; omega) ⟨by simp only; omega, by simp only; omega, ?_, ?_, ?_, ?_, ?_, ?_⟩ <;> simp +contextual only [go_sem, ↓reduceIte, g1, g2, g3, g18, g19, hs, hw, hw', encS_ne (encL_ne hd)]
           | false =>
             simp +contextual only [go_sem, ↓reduceIte, hw, hw', cond_false]
             refine IH (i + 1, n) _ _ (by simp only; omega) ⟨by simp only; omega, by simp only; omega, ?_, ?_, ?_, ?_, ?_, ?_⟩ <;> simp +contextual only [go_sem, ↓reduceIte, g1, g2, g3, g18, g19, hs, hw, hw', encS_ne (encL_ne hd)]
         · have : i = kids.length := by omega
           subst this
           simp +contextual only [go_sem, ↓reduceIte, r97_l2, g1, g2, g3, g18, g19, hs, lenL_encS, encL_len, nat_lt_dec, Nat.lt_irrefl, List.drop_length, atRL, n_add_zero, h14, Bool.false_and, Bool.true_and, Bool.or_false]
       · simp [List.drop_zero, Nat.zero_add, h14]
       · refine ⟨Nat.zero_le _, Nat.le_refl _, ?_, ?_, ?_, ?_, ?_, ?_⟩ <;> simp +contextual only [go_sem, ↓reduceIte] <;> rfl)
end Go.Am

set_option linter.all false
namespace Go.Am
open Go
variable [MaxLen]
set_option maxRecDepth 100000
/-- strings.Trim; results .tmp 4 -/
def r212 : RC := (.seq (.ops [⟨some 4, none, none, false, .mov (.v (.str []))⟩]) (.seq (.seq (.ops [⟨some 7, none, none, false, .mov (.t 0)⟩,
  ⟨some 8, none, none, false, .bin .eql 9 true (.t 7) (.v (.str []))⟩,
  ⟨some 9, none, none, false, .mov (.t 8)⟩,
  ⟨some 10, some (9, false), none, false, .mov (.t 1)⟩,
  ⟨some 11, some (9, false), none, false, .bin .eql 9 true (.t 10) (.v (.str []))⟩,
  ⟨some 12, none, none, false, .pick (.t 9) (.v (.bool true)) (.t 11)⟩]) (.cond (.t 12) (.seq (.ops [⟨some 13, none, none, false, .mov (.t 0)⟩,
  ⟨some 4, none, none, false, .mov (.t 13)⟩]) .ret) .skip)) (.seq (.seq (.ops [⟨some 14, none, none, false, .mov (.t 1)⟩,
  ⟨some 15, none, none, false, .lenS (.t 14)⟩,
  ⟨some 16, none, none, false, .bin .eql 3 true (.t 15) (.v (.int .i64 1))⟩,
  ⟨some 17, none, none, false, .mov (.t 16)⟩,
  ⟨some 18, some (17, true), none, false, .mov (.t 1)⟩,
  ⟨some 19, some (17, true), none, false, .ixs (.t 18) (.v (.int .i64 0))⟩,
  ⟨some 20, some (17, true), none, false, .bin .lss 5 true (.t 19) (.v (.int .u8 128))⟩,
  ⟨some 21, none, none, false, .pick (.t 17) (.t 20) (.v (.bool false))⟩]) (.cond (.t 21) (.seq (.drw 8 [⟨some 22, none, none, false, .mov (.t 0)⟩,
  ⟨some 23, none, none, false, .mov (.t 1)⟩,
  ⟨some 24, none, none, false, .ixs (.t 23) (.v (.int .i64 0))⟩,
  ⟨some 25, none, none, false, .call 238 [(.t 22), (.t 24)]⟩,
  ⟨some 26, none, none, false, .mov (.t 1)⟩,
  ⟨some 27, none, none, false, .ixs (.t 26) (.v (.int .i64 0))⟩,
  ⟨some 28, none, none, false, .call 237 [(.t 25), (.t 27)]⟩,
  ⟨some 4, none, none, false, .mov (.t 28)⟩]) .ret) .skip)) (.seq (.seq (.ops [⟨some 30, none, none, false, .mov (.t 1)⟩,
  ⟨some 31, none, none, false, .call 239 [(.t 30)]⟩,
  ⟨some 29, none, none, false, .mov (.t 31)⟩,
  ⟨some 32, none, none, false, .ext (.t 29) 0⟩,
  ⟨some 33, none, none, false, .ext (.t 29) 1⟩,
  ⟨some 5, none, none, false, .al [(.bool false), (.bool false), (.bool false), (.bool false), (.bool false), (.bool false), (.bool false), (.bool false), (.bool false), (.bool false), (.bool false), (.bool false), (.bool false), (.bool false), (.bool false), (.bool false), (.bool false), (.bool false), (.bool false), (.bool false), (.bool false), (.bool false), (.bool false), (.bool false), (.bool false), (.bool false), (.bool false), (.bool false), (.bool false), (.bool false), (.bool false), (.bool false), (.bool false), (.bool false), (.bool false), (.bool false), (.bool false), (.bool false), (.bool false), (.bool false), (.bool false), (.bool false), (.bool false), (.bool false), (.bool false), (.bool false), (.bool false), (.bool false), (.bool false), (.bool false), (.bool false), (.bool false), (.bool false), (.bool false), (.bool false), (.bool false), (.bool false), (.bool false), (.bool false), (.bool false), (.bool false), (.bool false), (.bool false), (.bool false), (.bool false), (.bool false), (.bool false), (.bool false), (.bool false), (.bool false), (.bool false), (.bool false), (.bool false), (.bool false), (.bool false), (.bool false), (.bool false), (.bool false), (.bool false), (.bool false), (.bool false), (.bool false), (.bool false), (.bool false), (.bool false), (.bool false), (.bool false), (.bool false), (.bool false), (.bool false), (.bool false), (.bool false), (.bool false), (.bool false), (.bool false), (.bool false), (.bool false), (.bool false), (.bool false), (.bool false), (.bool false), (.bool false), (.bool false), (.bool false), (.bool false), (.bool false), (.bool false), (.bool false), (.bool false), (.bool false), (.bool false), (.bool false), (.bool false), (.bool false), (.bool false), (.bool false), (.bool false), (.bool false), (.bool false), (.bool false), (.bool false), (.bool false), (.bool false), (.bool false), (.bool false), (.bool false), (.bool false), (.bool false), (.bool false), (.bool false), (.bool false), (.bool false), (.bool false), (.bool false), (.bool false), (.bool false), (.bool false), (.bool false), (.bool false), (.bool false), (.bool false), (.bool false), (.bool false), (.bool false), (.bool false), (.bool false), (.bool false), (.bool false), (.bool false), (.bool false), (.bool false), (.bool false), (.bool false), (.bool false), (.bool false), (.bool false), (.bool false), (.bool false), (.bool false), (.bool false), (.bool false), (.bool false), (.bool false), (.bool false), (.bool false), (.bool false), (.bool false), (.bool false), (.bool false), (.bool false), (.bool false), (.bool false), (.bool false), (.bool false), (.bool false), (.bool false), (.bool false), (.bool false), (.bool false), (.bool false), (.bool false), (.bool false), (.bool false), (.bool false), (.bool false), (.bool false), (.bool false), (.bool false), (.bool false), (.bool false), (.bool false), (.bool false), (.bool false), (.bool false), (.bool false), (.bool false), (.bool false), (.bool false), (.bool false), (.bool false), (.bool false), (.bool false), (.bool false), (.bool false), (.bool false), (.bool false), (.bool false), (.bool false), (.bool false), (.bool false), (.bool false), (.bool false), (.bool false), (.bool false), (.bool false), (.bool false), (.bool false), (.bool false), (.bool false), (.bool false), (.bool false), (.bool false), (.bool false), (.bool false), (.bool false), (.bool false), (.bool false), (.bool false), (.bool false), (.bool false), (.bool false), (.bool false), (.bool false), (.bool false), (.bool false), (.bool false), (.bool false), (.bool false), (.bool false), (.bool false), (.bool false), (.bool false), (.bool false), (.bool false), (.bool false), (.bool false), (.bool false), (.bool false), (.bool false), (.bool false), (.bool false), (.bool false), (.bool false), (.bool false), (.bool false), (.bool false)] 305⟩,
  ⟨none, none, none, false, .st 256 (.t 5) (.t 32)⟩,
  ⟨some 6, none, none, false, .mov (.t 33)⟩]) (.seq (.ops [⟨some 34, none, none, false, .mov (.t 6)⟩]) (.cond (.t 34) (.seq (.ops [⟨some 35, none, none, false, .mov (.t 0)⟩,
  ⟨some 36, none, none, false, .call 241 [(.t 35), (.t 5)]⟩,
  ⟨some 37, none, none, false, .call 240 [(.t 36), (.t 5)]⟩,
  ⟨some 4, none, none, false, .mov (.t 37)⟩]) .ret) .skip))) (.seq (.ops [⟨some 38, none, none, false, .mov (.t 0)⟩,
  ⟨some 39, none, none, false, .mov (.t 1)⟩,
  ⟨some 40, none, none, false, .call 243 [(.t 38), (.t 39)]⟩,
  ⟨some 41, none, none, false, .mov (.t 1)⟩,
  ⟨some 42, none, none, false, .call 242 [(.t 40), (.t 41)]⟩,
  ⟨some 4, none, none, false, .mov (.t 42)⟩]) .ret)))))
theorem k212 : fnRC 212 = some ([.tmp 4], r212) := by kernel_rfl

def r240_l0 : RC := (.seq (.seq (.ops [⟨some 5, none, none, false, .mov (.t 0)⟩,
  ⟨some 6, none, none, false, .lenS (.t 5)⟩,
  ⟨some 7, none, none, false, .bin .gtr 3 true (.t 6) (.v (.int .i64 0))⟩]) (.cond (.t 7) .skip (.exit 0))) (.block 1 (.seq (.seq (.ops [⟨some 8, none, none, false, .mov (.t 1)⟩,
  ⟨some 9, none, none, false, .mov (.t 0)⟩,
  ⟨some 10, none, none, false, .ixs (.t 9) (.v (.int .i64 0))⟩,
  ⟨some 11, none, none, false, .call 263 [(.t 8), (.t 10)]⟩,
  ⟨some 12, none, none, false, .un .not (.t 11)⟩]) (.cond (.t 12) (.exit 0) .skip)) (.ops [⟨some 13, none, none, false, .mov (.t 0)⟩,
  ⟨some 14, none, none, false, .sls (.t 13) (some (.v (.int .i64 1))) none⟩,
  ⟨some 0, none, none, false, .mov (.t 14)⟩]))))
/-- strings.trimLeftASCII; results .tmp 4 -/
def r240 : RC := (.seq (.ops [⟨some 4, none, none, false, .mov (.v (.str []))⟩]) (.seq (.block 0 (.loop r240_l0)) (.seq (.ops [⟨some 15, none, none, false, .mov (.t 0)⟩,
  ⟨some 4, none, none, false, .mov (.t 15)⟩]) .ret)))
theorem k240 : fnRC 240 = some ([.tmp 4], r240) := by kernel_rfl

def r241_l0 : RC := (.seq (.seq (.ops [⟨some 5, none, none, false, .mov (.t 0)⟩,
  ⟨some 6, none, none, false, .lenS (.t 5)⟩,
  ⟨some 7, none, none, false, .bin .gtr 3 true (.t 6) (.v (.int .i64 0))⟩]) (.cond (.t 7) .skip (.exit 0))) (.block 1 (.seq (.seq (.ops [⟨some 8, none, none, false, .mov (.t 1)⟩,
  ⟨some 9, none, none, false, .mov (.t 0)⟩,
  ⟨some 10, none, none, false, .mov (.t 0)⟩,
  ⟨some 11, none, none, false, .lenS (.t 10)⟩,
  ⟨some 12, none, none, false, .bin .sub 3 true (.t 11) (.v (.int .i64 1))⟩,
  ⟨some 13, none, none, false, .ixs (.t 9) (.t 12)⟩,
  ⟨some 14, none, none, false, .call 263 [(.t 8), (.t 13)]⟩,
  ⟨some 15, none, none, false, .un .not (.t 14)⟩]) (.cond (.t 15) (.exit 0) .skip)) (.ops [⟨some 16, none, none, false, .mov (.t 0)⟩,
  ⟨some 17, none, none, false, .mov (.t 0)⟩,
  ⟨some 18, none, none, false, .lenS (.t 17)⟩,
  ⟨some 19, none, none, false, .bin .sub 3 true (.t 18) (.v (.int .i64 1))⟩,
  ⟨some 20, none, none, false, .sls (.t 16) none (some (.t 19))⟩,
  ⟨some 0, none, none, false, .mov (.t 20)⟩]))))
/-- strings.trimRightASCII; results .tmp 4 -/
def r241 : RC := (.seq (.ops [⟨some 4, none, none, false, .mov (.v (.str []))⟩]) (.seq (.block 0 (.loop r241_l0)) (.seq (.ops [⟨some 21, none, none, false, .mov (.t 0)⟩,
  ⟨some 4, none, none, false, .mov (.t 21)⟩]) .ret)))
theorem k241 : fnRC 241 = some ([.tmp 4], r241) := by kernel_rfl

/-- (*strings.asciiSet).contains; results .tmp 4 -/
def r263 : RC := (.seq (.ops [⟨some 4, none, none, false, .mov (.v (.bool false))⟩]) (.seq (.ops [⟨some 5, none, none, false, .mov (.t 0)⟩,
  ⟨some 6, none, none, false, .mov (.t 1)⟩,
  ⟨some 7, none, none, false, .raw (.nilCheck (.tmp 5))⟩,
  ⟨some 8, none, none, false, .ixp 256 1 (.t 7) (.t 6)⟩,
  ⟨some 9, none, none, false, .ld1 (.t 8)⟩,
  ⟨some 4, none, none, false, .mov (.t 9)⟩]) .ret))
theorem k263 : fnRC 263 = some ([.tmp 4], r263) := by kernel_rfl

end Go.Am
