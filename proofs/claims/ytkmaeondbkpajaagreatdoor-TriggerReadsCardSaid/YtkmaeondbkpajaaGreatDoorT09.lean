/- A part of the proof of a statement of this seat: the machine on which the program is read, and what it computes; for every input. -/
import Derived.Test.YtkmaeondbkpajaaGreatDoorT08
import Derived.Test.YtkmaeondbkpajaaGreatDoorT06
import Derived.Test.YtkmaeondbkpajaaGreatDoorT02
import Derived.Test.YtkmaeondbkpajaaGreatDoorT05
set_option linter.all false
set_option linter.all false
namespace Go.Am
open Go
variable [MaxLen]
set_option maxRecDepth 100000
set_option maxHeartbeats 4000000
/-! # Contracts: checks of conditions and programs -/

theorem br_int (k : IntKind) (p : Bool) (x y : Int) : br p (AV.int k x) (AV.int k y) = .int k (br p x y) := by cases p <;> rfl
theorem br_bool (p x y : Bool) : br p (AV.bool x) (AV.bool y) = .bool (br p x y) := by cases p <;> rfl
theorem br_str (p : Bool) (x y : Str) : br p (AV.str x) (AV.str y) = .str (br p x y) := by cases p <;> rfl
theorem br_tt (p x : Bool) : br p true x = (p || x) := by cases p <;> rfl
theorem br_ff (p x : Bool) : br p false x = (!p && x) := by cases p <;> rfl
attribute [go_sem] br_int br_bool br_str

theorem c94 (n a b : Int) : calV U 65 [.int .i64 n, .int .i64 a, .int .i64 b] = some (.bool (outside n a b)) := by
  refine pure_go k94 (by kernel_rfl) rfl ?_
  simp +contextual only [go_sem, ↓reduceIte, r94]
  rfl
theorem c26 (n : Int) : calV U 73 [.int .i64 n] = some (.int .i64 (br (outside n 1 16) 3 0)) := by
  refine pure_go k26 (by kernel_rfl) rfl ?_
  simp +contextual only [go_sem, ↓reduceIte, r26, c94]
theorem c116 (p : Bool) (n : Int) : calV U 85 [.bool p, .int .i64 n] = some (.int .i64 (br p n 0)) := by
  refine pure_go k116 (by kernel_rfl) rfl ?_
  simp +contextual only [go_sem, ↓reduceIte, r116]
theorem c124 (n a b : Int) : calV U 111 [.int .i64 n, .int .i64 a, .int .i64 b] = some (.int .i64 (within n a b)) := by
  refine pure_go k124 (by kernel_rfl) rfl ?_
  simp +contextual only [go_sem, ↓reduceIte, r124, c116]
  rfl
theorem c88 (n : Int) : calV U 96 [.int .i64 n] = some (.int .i64 (within n 1 16)) := by
  refine pure_go k88 (by kernel_rfl) rfl ?_
  simp +contextual only [go_sem, ↓reduceIte, r88, c124]
theorem loop_to {X : Cx} {β : Type} {fin : Fl → β} {ks : List K} [Stat] {b : RC} {σ : Type} (m : σ → Nat) (R : σ → β) (I : σ → Env → St → Prop) (x : σ) {r : β} {e : Env} {s : St}
    (h : ∀ (L : RC) (x : σ) (e : Env) (s : St), I x e s → (∀ (y : σ) (e' : Env) (s' : St), m y < m x → I y e' s' → goL X fin ks L e' s' = R y) → go X fin (.lp L :: ks) b e s = R x)
    (hr : R x = r) (hI : I x e s) : goL X fin ks b e s = r := by
  rw [← hr]; exact loop_rule X fin ks m I R h x hI
theorem ints_len (l : List Int) : (ints l).length = l.length := by simp [ints]
theorem ints_get (l : List Int) (i : Nat) : (ints l)[i]? = (l[i]?).map (.int .i64 ·) := by simp [ints]
theorem nat_lt_dec (a b : Nat) : decide ((a : Int) < (b : Int)) = decide (a < b) := by congr 1; apply propext; omega

theorem g89 (l : List Int) (hlen : l.length < 2 ^ 62) : go U (finP U [.tmp 2]) [] r89 (bindArgs 0 [.fz (ints l)] .nil) (ownSt U) = some (.int .i64 (firstOf l)) := by
  simp +contextual only [go_sem, ↓reduceIte, r89]
  refine loop_to (σ := Nat) (fun i => l.length - i) (fun i => some (AV.int .i64 (firstOf (l.drop i)))) (fun i e s => i ≤ l.length ∧ Env.get e 5 = .fz (ints l) ∧ Env.get e 6 = .int .i64 l.length ∧ Env.get e 7 = .int .i64 i) 0 ?_ rfl ?_
  · rintro L i e s ⟨hi, h5, h6, h7⟩ ih
    by_cases hd : i < l.length
    · have hx : (ints l)[i]? = some (.int .i64 l[i]) := by rw [ints_get, List.getElem?_eq_getElem hd]; rfl
      have hw : IntKind.i64.wrap ((i : Int) + 1) = ((i + 1 : Nat) : Int) := by rw [wrap_i64] <;> omega
      simp +contextual only [go_sem, ↓reduceIte, r89_l0, h5, h6, h7, nat_lt_dec, hd, hx]
      rw [List.drop_eq_getElem_cons hd, firstOf]
      cases hb : l[i] != 0
      · simp only [go_sem, hw]
        refine ih (i + 1) _ _ (by omega) ⟨by omega, ?_, ?_, ?_⟩ <;> simp +contextual only [go_sem, ↓reduceIte, h5, h6, h7, hw]
      · simp only [go_sem]
    · have : i = l.length := by omega
      subst this
      simp +contextual only [go_sem, ↓reduceIte, r89_l0, h5, h6, h7, nat_lt_dec, Nat.lt_irrefl]
      rw [List.drop_length]; rfl
  · refine ⟨Nat.zero_le _, ?_, ?_, ?_⟩ <;> simp +contextual only [go_sem, ↓reduceIte, ints_len] <;> rfl

def encU (u : Uses) : AV := .agg [.bool u.a, .bool u.b, .bool u.mi, .bool u.ma, .bool u.pat, .bool u.kids]
theorem c95 (k : Str) : calV U 114 [.str k] = some (.tup [encU (usesOf (kdOf k)), .bool (kdOf k).known]) := by
  refine pure_go k95 (by kernel_rfl) rfl ?_
  obtain ⟨h0, h1, h2, h3, h4, h5, h6, h7, h8, h9, h10, h11, h12, h13, h14⟩ := kd_facts k
  generalize kdOf k = d at *
  cases d
  all_goals simp only [reduceCtorEq, decide_true, decide_false] at h1 h2 h3 h4 h5 h6 h7 h8 h9 h10 h11 h12 h13 h14
  all_goals simp +contextual only [go_sem, ↓reduceIte, r95, h1, h2, h3, h4, h5, h6, h7, h8, h9, h10, h11, h12, h13, h14]
  all_goals rfl
theorem Cond.ind {P : Cond → Prop} (h : ∀ k a b mi ma p nl kids, (∀ x ∈ kids, P x) → P (.mk k a b mi ma p nl kids)) : ∀ c, P c := by
  intro c
  exact Cond.rec (motive_1 := P) (motive_2 := fun l => ∀ x ∈ l, P x) (fun k a b mi ma p nl kids ih => h k a b mi ma p nl kids ih) (fun x hx => by cases hx)
    (fun c l h1 h2 x hx => by
      rcases List.mem_cons.1 hx with rfl | hx
      · exact h1
      · exact h2 x hx) c
theorem still_encC (c : Cond) : still (encC c) = true := by
  cases c; simp [encC, still, stills, still_encS]
theorem encS_ne {nl : Bool} {l : List AV} (h : l ≠ []) : encS nl l = .fz l := by
  cases l with
  | nil => exact absurd rfl h
  | cons x l => exact encS_cons ..
theorem encL_ne {l : List Cond} {i : Nat} (h : i < l.length) : encL l ≠ [] := by
  intro e; have := encL_len l; rw [e] at this; simp at this; omega
/-- nothing in it that cannot lie in a machine's memory -/
def Cond.fits : Cond → Prop
  | .mk _ _ _ _ _ pat _ kids => pat.length < 2 ^ 30 ∧ kids.length < 2 ^ 30 ∧ ∀ x ∈ kids, x.fits
theorem byte_eq (c : UInt8) (n : Int) (d : UInt8) (h : n = (d.toNat : Int)) : ((c.toNat : Int) == n) = (c == d) := by
  subst h
  by_cases e : c = d
  · subst e
    rw [beq_self_eq_true, beq_self_eq_true]
  · have h1 : (c.toNat : Int) ≠ (d.toNat : Int) := fun h => e (UInt8.toNat_inj.1 (by omega))
    rw [beq_eq_false_iff_ne.2 h1, beq_eq_false_iff_ne.2 e]
theorem byte_ne (c : UInt8) (n : Int) (d : UInt8) (h : n = (d.toNat : Int)) : ((c.toNat : Int) != n) = (c != d) := by
  rw [bne, bne, byte_eq c n d h]
theorem wrap_succ {i n : Nat} (h : i < n) (hn : n < 2 ^ 62) : IntKind.i64.wrap ((i : Int) + 1) = ((i + 1 : Nat) : Int) := by rw [wrap_i64] <;> omega
theorem c96 (pat : Str) (n : Int) (hl : pat.length < 2 ^ 30) : calV U 144 [.str pat, .int .i64 n] = some (.bool (badPat pat n)) := by
  refine pure_go k96 (by kernel_rfl) rfl ?_
  simp +contextual only [go_sem, ↓reduceIte, r96, badPat]
  cases hb : (pat.length : Int) != n
  · simp +contextual only [go_sem, ↓reduceIte, Bool.false_or]
    refine loop_to (σ := Nat) (fun i => pat.length - i) (fun i => some (AV.bool ((pat.drop i).any fun c => c != 48 && c != 49 && c != 120))) (fun i e s => i ≤ pat.length ∧ Env.get e 0 = .str pat ∧ Env.get e 5 = .int .i64 i) 0 ?_ rfl ?_
    · rintro L i e s ⟨hi, h0, h5⟩ ih
      by_cases hd : i < pat.length
      · have hx : pat[i]? = some pat[i] := List.getElem?_eq_getElem hd
        have hw := wrap_succ hd (by omega)
        simp +contextual only [go_sem, ↓reduceIte, r96_l0, h0, h5, nat_lt_dec, hd, hx, byte_ne _ 48 48 rfl, byte_ne _ 49 49 rfl, byte_ne _ 120 120 rfl]
        rw [List.drop_eq_getElem_cons hd, List.any_cons]
        cases hc : pat[i] != 48 && pat[i] != 49 && pat[i] != 120
        · rw [Bool.false_or]
          simp +contextual only [go_sem, ↓reduceIte, hc, hw, br_false]
          refine ih (i + 1) _ _ (by omega) ⟨by omega, ?_, ?_⟩ <;> simp +contextual only [go_sem, ↓reduceIte, h0, h5, hw]
        · simp +contextual only [go_sem, ↓reduceIte, hc, Bool.true_or]
      · have : i = pat.length := by omega
        subst this
        simp +contextual only [go_sem, ↓reduceIte, r96_l0, h0, h5, nat_lt_dec, Nat.lt_irrefl]
        rw [List.drop_length]; rfl
    · refine ⟨Nat.zero_le _, ?_, ?_⟩ <;> simp +contextual only [go_sem, ↓reduceIte] <;> rfl
  · simp +contextual only [go_sem, ↓reduceIte, Bool.true_or]
end Go.Am
set_option linter.all false
namespace Go.Am
open Go
variable [MaxLen]
set_option maxRecDepth 100000
set_option maxHeartbeats 8000000
theorem brI_some (k : IntKind) (p : Bool) (x y : Int) : some (AV.int k (br p x y)) = br p (some (.int k x)) (some (.int k y)) := by cases p <;> rfl
theorem stills1 (c : Cond) (a b : Int) : stills [.int .i64 a, encC c, .int .i64 b] = true := by simp [stills, still, still_encC]
theorem c27 (lines : Int) : ∀ c : Cond, c.fits → ∀ depth : Int, calV U 74 [.int .i64 lines, encC c, .int .i64 depth] = some (.int .i64 (ckR lines c depth)) := by
  intro c
  induction c using Cond.ind with
  | h kind a b mi ma pat nl kids ih =>
  intro hf depth
  rw [Cond.fits] at hf
  obtain ⟨f1, f2, f3⟩ := hf
  refine pure_go k27 (by kernel_rfl) (stills1 _ _ _) ?_
  rw [encC, ckR]
  simp (config := { maxSteps := 2000000 }) +contextual only [go_sem, ↓reduceIte, r27, c95, c94, c96 pat _ f1, encU, lenL_encS, encL_len, cells_encS, noAgg_encS]
  simp only [brI_some]
  refine br_r fun _ => br_r fun _ => br_r fun _ => br_r fun _ => br_r fun _ => br_r fun _ => br_r fun _ => br_r fun _ => br_r fun _ => br_r fun _ => br_r fun _ => ?_
  refine loop_to (σ := Nat) (fun i => kids.length - i) (fun i => some (AV.int .i64 (ckRL lines (kids.drop i) (IntKind.i64.wrap (depth + 1))))) (fun i e s => i ≤ kids.length ∧ Env.get e 9 = .int .i64 i ∧ Env.get e 0 = .int .i64 lines ∧ Env.get e 2 = .int .i64 depth ∧ Env.get e 4 = .ptr 8 0 ∧
    s.get 8 = some (.cells [.str kind, .int .i64 a, .int .i64 b, .int .i64 mi, .int .i64 ma, .str pat, encS nl (encL kids)] 106 false 0 0)) 0 ?_ rfl ?_
  · rintro L i e s ⟨hi, h9, h0, h2, h4, hs⟩ IH
    by_cases hd : i < kids.length
    · have hx : (encL kids)[i]? = some (encC kids[i]) := by rw [encL_get, List.getElem?_eq_getElem hd]; rfl
      have hw := wrap_succ hd (by omega)
      have hc := ih kids[i] (List.getElem_mem hd) (f3 _ (List.getElem_mem hd)) (IntKind.i64.wrap (depth + 1))
      rw [encS_ne (encL_ne hd)] at hs
      rw [encC_cells] at hx hc
      simp only [Cond.cells] at hx hc
      simp +contextual only [go_sem, ↓reduceIte, r27_l0, h9, h0, h2, h4, hs, nat_lt_dec, hd, encL_len, hx, hc]
      rw [List.drop_eq_getElem_cons hd, ckRL]
      cases hb : ckR lines kids[i] (IntKind.i64.wrap (depth + 1)) != 0
      · simp only [go_sem, ↓reduceIte, hw]
        refine IH (i + 1) _ _ (by omega) ⟨by omega, ?_, ?_, ?_, ?_, ?_⟩ <;> simp +contextual only [go_sem, ↓reduceIte, h9, h0, h2, h4, hs, hw, encS_ne (encL_ne hd)]
      · simp only [go_sem, ↓reduceIte]
    · have : i = kids.length := by omega
      subst this
      simp +contextual only [go_sem, ↓reduceIte, r27_l0, h9, h0, h2, h4, hs, lenL_encS, encL_len, nat_lt_dec, Nat.lt_irrefl]
      rw [List.drop_length, ckRL]
  · refine ⟨Nat.zero_le _, ?_, ?_, ?_, ?_, ?_⟩ <;> simp +contextual only [go_sem, ↓reduceIte] <;> rfl
def Prog.fits (p : Prog) : Prop := p.steps.length < 2 ^ 30 ∧ ∀ s ∈ p.steps, s.cond.fits
def encSteps (l : List Step) : List AV := l.map encStep
theorem encSteps_len (l : List Step) : (encSteps l).length = l.length := by simp [encSteps]
theorem encSteps_get (l : List Step) (i : Nat) : (encSteps l)[i]? = (l[i]?).map encStep := by simp [encSteps]
theorem encSteps_ne {l : List Step} {i : Nat} (h : i < l.length) : encSteps l ≠ [] := by
  intro e; have := encSteps_len l; rw [e] at this; simp at this; omega
theorem encP_eq (p : Prog) : encP p = .agg [.int .i64 p.lines, encS p.nl (encSteps p.steps)] := rfl
theorem still_encP (p : Prog) : still (encP p) = true := by simp [encP, still, stills, still_encS]

def cpRL (lines : Int) : Nat → List Step → Int
  | _, [] => 0
  | i, s :: l => br (ckR lines s.cond 1 != 0) (ckR lines s.cond 1) <|
    br (outside s.times 1 64 || outside s.within 0 255 || ((i : Int) == 0) && s.within != 0) 3 <| cpRL lines (i + 1) l
def checkLines (n : Int) : Int := br (outside n 1 16) 3 0
def cpR (p : Prog) : Int :=
  br (checkLines p.lines != 0) (checkLines p.lines) <| br ((p.steps.length : Int) == 0) 12 <| br (decide ((p.steps.length : Int) > 8)) 5 <| cpRL p.lines 0 p.steps

theorem c34 (p : Prog) (hf : p.fits) : calV U 23 [encP p] = some (.int .i64 (cpR p)) := by
  obtain ⟨lines, nl, steps⟩ := p
  obtain ⟨f1, f2⟩ := hf
  simp only at f1 f2
  refine pure_go k34 (by kernel_rfl) (by simp [stills, still_encP]) ?_
  rw [encP_eq, cpR, checkLines]
  simp (config := { maxSteps := 2000000 }) +contextual only [go_sem, ↓reduceIte, r34, c26, lenL_encS, encSteps_len, cells_encS, noAgg_encS]
  simp only [brI_some]
  refine br_r fun _ => ?_
  refine br_r fun _ => ?_
  refine br_r fun _ => ?_
  refine loop_to (σ := Nat) (fun i => steps.length - i) (fun i => some (AV.int .i64 (cpRL lines i (steps.drop i)))) (fun i e s => i ≤ steps.length ∧ Env.get e 4 = .int .i64 i ∧ Env.get e 1 = .ptr 8 0 ∧ 8 < s.next ∧
    s.get 8 = some (.cells [.int .i64 lines, encS nl (encSteps steps)] 31 false 0 0)) 0 ?_ rfl ?_
  · rintro L i e s ⟨hi, h4, h1, hn, hs⟩ IH
    by_cases hd : i < steps.length
    · have hx : (encSteps steps)[i]? = some (encStep steps[i]) := by rw [encSteps_get, List.getElem?_eq_getElem hd]; rfl
      have hw := wrap_succ hd (by omega)
      have hne : ¬ s.next = 8 := by omega
      have hc := c27 lines steps[i].cond (f2 _ (List.getElem_mem hd)) 1
      rw [encS_ne (encSteps_ne hd)] at hs
      rw [encC_cells] at hc
      simp only [Cond.cells, encStep] at hx hc
      simp +contextual only [go_sem, ↓reduceIte, r34_l0, h4, h1, hs, nat_lt_dec, hd, encSteps_len, hx, hc, hne, noAgg_encS, c94, br_tt]
      rw [List.drop_eq_getElem_cons hd, cpRL]
      simp only [brI_some]
      refine br_r fun _ => ?_
      cases hb : (outside steps[i].times 1 64 || outside steps[i].within 0 255 || (i : Int) == 0 && steps[i].within != 0)
      · simp only [go_sem, ↓reduceIte, hw]
        refine IH (i + 1) _ _ (by omega) ⟨by omega, ?_, ?_, ?_, ?_⟩ <;> simp +contextual only [go_sem, ↓reduceIte, h4, h1, hs, hw, hne, encS_ne (encSteps_ne hd)]
        omega
      · simp only [go_sem, ↓reduceIte]
    · have : i = steps.length := by omega
      subst this
      simp +contextual only [go_sem, ↓reduceIte, r34_l0, h4, h1, hs, lenL_encS, encSteps_len, nat_lt_dec, Nat.lt_irrefl]
      rw [List.drop_length, cpRL]
  · refine ⟨Nat.zero_le _, ?_, ?_, ?_, ?_⟩ <;> simp +contextual only [go_sem, ↓reduceIte] <;> rfl
end Go.Am
set_option linter.all false
namespace Go.Am
open Go
variable [MaxLen]
set_option maxRecDepth 100000
/-- strings.Trim; results .tmp 4 -/
def r212 : RC := (.seq (.ops [⟨some 4, none, none, false, .mov (.v (.str []))⟩]) (.seq (.seq (.ops [⟨some 7, none, none, false, .mov (.t 0)⟩,
  ⟨some 8, none, none, false, .bin .eql 9 true (.t 7) (.v (.str []))⟩,
  ⟨some 9, none, none, false, .mov (.t 8)⟩,
  ⟨some 10, some (9, false), none, false, .mov (.t 1)⟩,
  ⟨some 11, some (9, false), none, false, .bin .eql 9 true (.t 10) (.v (.str []))⟩,
  ⟨some 12, none, none, false, .pick (.t 9) (.v (.bool true)) (.t 11)⟩]) (.cond (.t 12) (.seq (.ops [⟨some 13, none, none, false, .mov (.t 0)⟩,
  ⟨some 4, none, none, false, .mov (.t 13)⟩]) .ret) .skip)) (.seq (.seq (.ops [⟨some 14, none, none, false, .mov (.t 1)⟩,
  ⟨some 15, none, none, false, .lenS (.t 14)⟩,
  ⟨some 16, none, none, false, .bin .eql 3 true (.t 15) (.v (.int .i64 1))⟩,
  ⟨some 17, none, none, false, .mov (.t 16)⟩,
  ⟨some 18, some (17, true), none, false, .mov (.t 1)⟩,
  ⟨some 19, some (17, true), none, false, .ixs (.t 18) (.v (.int .i64 0))⟩,
  ⟨some 20, some (17, true), none, false, .bin .lss 5 true (.t 19) (.v (.int .u8 128))⟩,
  ⟨some 21, none, none, false, .pick (.t 17) (.t 20) (.v (.bool false))⟩]) (.cond (.t 21) (.seq (.drw 8 [⟨some 22, none, none, false, .mov (.t 0)⟩,
  ⟨some 23, none, none, false, .mov (.t 1)⟩,
  ⟨some 24, none, none, false, .ixs (.t 23) (.v (.int .i64 0))⟩,
  ⟨some 25, none, none, false, .call 232 [(.t 22), (.t 24)]⟩,
  ⟨some 26, none, none, false, .mov (.t 1)⟩,
  ⟨some 27, none, none, false, .ixs (.t 26) (.v (.int .i64 0))⟩,
  ⟨some 28, none, none, false, .call 231 [(.t 25), (.t 27)]⟩,
  ⟨some 4, none, none, false, .mov (.t 28)⟩]) .ret) .skip)) (.seq (.seq (.ops [⟨some 30, none, none, false, .mov (.t 1)⟩,
  ⟨some 31, none, none, false, .call 233 [(.t 30)]⟩,
  ⟨some 29, none, none, false, .mov (.t 31)⟩,
  ⟨some 32, none, none, false, .ext (.t 29) 0⟩,
  ⟨some 33, none, none, false, .ext (.t 29) 1⟩,
  ⟨some 5, none, none, false, .al [(.bool false), (.bool false), (.bool false), (.bool false), (.bool false), (.bool false), (.bool false), (.bool false), (.bool false), (.bool false), (.bool false), (.bool false), (.bool false), (.bool false), (.bool false), (.bool false), (.bool false), (.bool false), (.bool false), (.bool false), (.bool false), (.bool false), (.bool false), (.bool false), (.bool false), (.bool false), (.bool false), (.bool false), (.bool false), (.bool false), (.bool false), (.bool false), (.bool false), (.bool false), (.bool false), (.bool false), (.bool false), (.bool false), (.bool false), (.bool false), (.bool false), (.bool false), (.bool false), (.bool false), (.bool false), (.bool false), (.bool false), (.bool false), (.bool false), (.bool false), (.bool false), (.bool false), (.bool false), (.bool false), (.bool false), (.bool false), (.bool false), (.bool false), (.bool false), (.bool false), (.bool false), (.bool false), (.bool false), (.bool false), (.bool false), (.bool false), (.bool false), (.bool false), (.bool false), (.bool false), (.bool false), (.bool false), (.bool false), (.bool false), (.bool false), (.bool false), (.bool false), (.bool false), (.bool false), (.bool false), (.bool false), (.bool false), (.bool false), (.bool false), (.bool false), (.bool false), (.bool false), (.bool false), (.bool false), (.bool false), (.bool false), (.bool false), (.bool false), (.bool false), (.bool false), (.bool false), (.bool false), (.bool false), (.bool false), (.bool false), (.bool false), (.bool false), (.bool false), (.bool false), (.bool false), (.bool false), (.bool false), (.bool false), (.bool false), (.bool false), (.bool false), (.bool false), (.bool false), (.bool false), (.bool false), (.bool false), (.bool false), (.bool false), (.bool false), (.bool false), (.bool false), (.bool false), (.bool false), (.bool false), (.bool false), (.bool false), (.bool false), (.bool false), (.bool false), (.bool false), (.bool false), (.bool false), (.bool false), (.bool false), (.bool false), (.bool false), (.bool false), (.bool false), (.bool false), (.bool false), (.bool false), (.bool false), (.bool false), (.bool false), (.bool false), (.bool false), (.bool false), (.bool false), (.bool false), (.bool false), (.bool false), (.bool false), (.bool false), (.bool false), (.bool false), (.bool false), (.bool false), (.bool false), (.bool false), (.bool false), (.bool false), (.bool false), (.bool false), (.bool false), (.bool false), (.bool false), (.bool false), (.bool false), (.bool false), (.bool false), (.bool false), (.bool false), (.bool false), (.bool false), (.bool false), (.bool false), (.bool false), (.bool false), (.bool false), (.bool false), (.bool false), (.bool false), (.bool false), (.bool false), (.bool false), (.bool false), (.bool false), (.bool false), (.bool false), (.bool false), (.bool false), (.bool false), (.bool false), (.bool false), (.bool false), (.bool false), (.bool false), (.bool false), (.bool false), (.bool false), (.bool false), (.bool false), (.bool false), (.bool false), (.bool false), (.bool false), (.bool false), (.bool false), (.bool false), (.bool false), (.bool false), (.bool false), (.bool false), (.bool false), (.bool false), (.bool false), (.bool false), (.bool false), (.bool false), (.bool false), (.bool false), (.bool false), (.bool false), (.bool false), (.bool false), (.bool false), (.bool false), (.bool false), (.bool false), (.bool false), (.bool false), (.bool false), (.bool false), (.bool false), (.bool false), (.bool false), (.bool false), (.bool false), (.bool false), (.bool false), (.bool false), (.bool false), (.bool false), (.bool false), (.bool false), (.bool false), (.bool false), (.bool false), (.bool false), (.bool false), (.bool false), (.bool false), (.bool false), (.bool false), (.bool false), (.bool false)] 300⟩,
  ⟨none, none, none, false, .st 256 (.t 5) (.t 32)⟩,
  ⟨some 6, none, none, false, .mov (.t 33)⟩]) (.seq (.ops [⟨some 34, none, none, false, .mov (.t 6)⟩]) (.cond (.t 34) (.seq (.ops [⟨some 35, none, none, false, .mov (.t 0)⟩,
  ⟨some 36, none, none, false, .call 235 [(.t 35), (.t 5)]⟩,
  ⟨some 37, none, none, false, .call 234 [(.t 36), (.t 5)]⟩,
  ⟨some 4, none, none, false, .mov (.t 37)⟩]) .ret) .skip))) (.seq (.ops [⟨some 38, none, none, false, .mov (.t 0)⟩,
  ⟨some 39, none, none, false, .mov (.t 1)⟩,
  ⟨some 40, none, none, false, .call 237 [(.t 38), (.t 39)]⟩,
  ⟨some 41, none, none, false, .mov (.t 1)⟩,
  ⟨some 42, none, none, false, .call 236 [(.t 40), (.t 41)]⟩,
  ⟨some 4, none, none, false, .mov (.t 42)⟩]) .ret)))))
theorem k212 : fnRC 208 = some ([.tmp 4], r212) := by kernel_rfl

def r240_l0 : RC := (.seq (.seq (.ops [⟨some 5, none, none, false, .mov (.t 0)⟩,
  ⟨some 6, none, none, false, .lenS (.t 5)⟩,
  ⟨some 7, none, none, false, .bin .gtr 3 true (.t 6) (.v (.int .i64 0))⟩]) (.cond (.t 7) .skip (.exit 0))) (.block 1 (.seq (.seq (.ops [⟨some 8, none, none, false, .mov (.t 1)⟩,
  ⟨some 9, none, none, false, .mov (.t 0)⟩,
  ⟨some 10, none, none, false, .ixs (.t 9) (.v (.int .i64 0))⟩,
  ⟨some 11, none, none, false, .call 259 [(.t 8), (.t 10)]⟩,
  ⟨some 12, none, none, false, .un .not (.t 11)⟩]) (.cond (.t 12) (.exit 0) .skip)) (.ops [⟨some 13, none, none, false, .mov (.t 0)⟩,
  ⟨some 14, none, none, false, .sls (.t 13) (some (.v (.int .i64 1))) none⟩,
  ⟨some 0, none, none, false, .mov (.t 14)⟩]))))
/-- strings.trimLeftASCII; results .tmp 4 -/
def r240 : RC := (.seq (.ops [⟨some 4, none, none, false, .mov (.v (.str []))⟩]) (.seq (.block 0 (.loop r240_l0)) (.seq (.ops [⟨some 15, none, none, false, .mov (.t 0)⟩,
  ⟨some 4, none, none, false, .mov (.t 15)⟩]) .ret)))
theorem k240 : fnRC 234 = some ([.tmp 4], r240) := by kernel_rfl

def r241_l0 : RC := (.seq (.seq (.ops [⟨some 5, none, none, false, .mov (.t 0)⟩,
  ⟨some 6, none, none, false, .lenS (.t 5)⟩,
  ⟨some 7, none, none, false, .bin .gtr 3 true (.t 6) (.v (.int .i64 0))⟩]) (.cond (.t 7) .skip (.exit 0))) (.block 1 (.seq (.seq (.ops [⟨some 8, none, none, false, .mov (.t 1)⟩,
  ⟨some 9, none, none, false, .mov (.t 0)⟩,
  ⟨some 10, none, none, false, .mov (.t 0)⟩,
  ⟨some 11, none, none, false, .lenS (.t 10)⟩,
  ⟨some 12, none, none, false, .bin .sub 3 true (.t 11) (.v (.int .i64 1))⟩,
  ⟨some 13, none, none, false, .ixs (.t 9) (.t 12)⟩,
  ⟨some 14, none, none, false, .call 259 [(.t 8), (.t 13)]⟩,
  ⟨some 15, none, none, false, .un .not (.t 14)⟩]) (.cond (.t 15) (.exit 0) .skip)) (.ops [⟨some 16, none, none, false, .mov (.t 0)⟩,
  ⟨some 17, none, none, false, .mov (.t 0)⟩,
  ⟨some 18, none, none, false, .lenS (.t 17)⟩,
  ⟨some 19, none, none, false, .bin .sub 3 true (.t 18) (.v (.int .i64 1))⟩,
  ⟨some 20, none, none, false, .sls (.t 16) none (some (.t 19))⟩,
  ⟨some 0, none, none, false, .mov (.t 20)⟩]))))
/-- strings.trimRightASCII; results .tmp 4 -/
def r241 : RC := (.seq (.ops [⟨some 4, none, none, false, .mov (.v (.str []))⟩]) (.seq (.block 0 (.loop r241_l0)) (.seq (.ops [⟨some 21, none, none, false, .mov (.t 0)⟩,
  ⟨some 4, none, none, false, .mov (.t 21)⟩]) .ret)))
theorem k241 : fnRC 235 = some ([.tmp 4], r241) := by kernel_rfl

/-- (*strings.asciiSet).contains; results .tmp 4 -/
def r263 : RC := (.seq (.ops [⟨some 4, none, none, false, .mov (.v (.bool false))⟩]) (.seq (.ops [⟨some 5, none, none, false, .mov (.t 0)⟩,
  ⟨some 6, none, none, false, .mov (.t 1)⟩,
  ⟨some 7, none, none, false, .raw (.nilCheck (.tmp 5))⟩,
  ⟨some 8, none, none, false, .ixp 256 1 (.t 7) (.t 6)⟩,
  ⟨some 9, none, none, false, .ld1 (.t 8)⟩,
  ⟨some 4, none, none, false, .mov (.t 9)⟩]) .ret))
theorem k263 : fnRC 259 = some ([.tmp 4], r263) := by kernel_rfl

end Go.Am
set_option linter.all false
namespace Go.Am
open Go
variable [MaxLen]
set_option maxRecDepth 100000
set_option maxHeartbeats 8000000
/-! # The program's table of kinds, and its check of a condition -/

def kSize : Kd → AV
  | .high => .fn (.func 176) [] []
  | .low => .fn (.func 176) [] []
  | .rise => .fn (.func 176) [] []
  | .fall => .fn (.func 176) [] []
  | .pattern => .fn (.func 176) [] []
  | .enter => .fn (.func 176) [] []
  | .pulse => .fn (.func 174) [] []
  | .gap => .fn (.func 174) [] []
  | .idle => .fn (.func 175) [] []
  | .setup => .fn (.func 175) [] []
  | .runt => .fn (.func 192) [] []
  | _ => .nilfn
def kStart : Kd → AV
  | .high => .fn (.func 177) [] []
  | .low => .fn (.func 177) [] []
  | .rise => .fn (.func 177) [] []
  | .fall => .fn (.func 177) [] []
  | .pattern => .fn (.func 177) [] []
  | .enter => .fn (.func 177) [] []
  | .pulse => .fn (.func 177) [] []
  | .gap => .fn (.func 177) [] []
  | .idle => .fn (.func 177) [] []
  | .setup => .fn (.func 190) [] []
  | .runt => .fn (.func 177) [] []
  | _ => .nilfn
def kStep : Kd → AV
  | .high => .fn (.func 216) [] [.fp [.fn (.func 179) [] []] 0]
  | .low => .fn (.func 216) [] [.fp [.fn (.func 181) [] []] 0]
  | .rise => .fn (.func 216) [] [.fp [.fn (.func 182) [] []] 0]
  | .fall => .fn (.func 216) [] [.fp [.fn (.func 184) [] []] 0]
  | .pattern => .fn (.func 216) [] [.fp [.fn (.func 185) [] []] 0]
  | .enter => .fn (.func 216) [] [.fp [.fn (.func 187) [] []] 0]
  | .pulse => .fn (.func 217) [] [.fp [.bool true] 0]
  | .gap => .fn (.func 217) [] [.fp [.bool false] 0]
  | .idle => .fn (.func 189) [] []
  | .setup => .fn (.func 191) [] []
  | .runt => .fn (.func 193) [] []
  | _ => .nilfn
def kindV (d : Kd) : AV := .agg [.bool (usesOf d).a, .bool (usesOf d).b, .bool (usesOf d).mi, .bool (usesOf d).ma, .bool (usesOf d).pat, .bool (usesOf d).kids, kSize d, kStart d, kStep d]
def kindKs : List AV := [.str [104, 105, 103, 104], .str [108, 111, 119], .str [114, 105, 115, 101], .str [102, 97, 108, 108], .str [112, 97, 116, 116, 101, 114, 110], .str [101, 110, 116, 101, 114], .str [112, 117, 108, 115, 101], .str [103, 97, 112], .str [105, 100, 108, 101], .str [115, 101, 116, 117, 112], .str [114, 117, 110, 116], .str [110, 111, 116], .str [97, 108, 108], .str [97, 110, 121]]
def kindVs : List AV := [kindV .high, kindV .low, kindV .rise, kindV .fall, kindV .pattern, kindV .enter, kindV .pulse, kindV .gap, kindV .idle, kindV .setup, kindV .runt, kindV .not_, kindV .all_, kindV .any_]
theorem c156 : calV U 136 [] = some (.fm kindKs kindVs) := v_of_q (by kernel_rfl) rfl (callQ_run U (n := 100000) (by kernel_rfl))
theorem lookup_kinds (k : Str) (ok : Bool) (s : St) : lookupA U 215 (.fm kindKs kindVs) (.str k) ok s = some (if ok then .tup [kindV (kdOf k), .bool (kdOf k).known] else kindV (kdOf k)) := by
  have hu : U.und 215 = some (.map 9 220) := by kernel_rfl
  have h9 : U.und 9 = some .string := by kernel_rfl
  have hz : zero U 220 = some (kindV .other) := by kernel_rfl
  obtain ⟨h0, h1, h2, h3, h4, h5, h6, h7, h8, h9', h10, h11, h12, h13, h14⟩ := kd_facts k
  unfold lookupA
  rw [hu]
  simp only [keyOk, h9, if_true, kindKs, kindVs, List.zip_cons_cons, List.zip_nil_left]
  generalize kdOf k = d at *
  cases d <;> simp only [reduceCtorEq, decide_true, decide_false] at h1 h2 h3 h4 h5 h6 h7 h8 h9' h10 h11 h12 h13 h14 <;>
    simp only [findA, keyEq, h1, h2, h3, h4, h5, h6, h7, h8, h9', h10, h11, h12, h13, h14, hz] <;> rfl
def lookK (X : Cx) (t : TypeId) (ok : Bool) (m k : Option AV) (s : St) : Option (AV × St) := match m, k with
  | some m, some k => pureO (lookupA X t m k ok s) s
  | _, _ => none
theorem opA_lookup (X : Cx) (ex : Ex) (e : Env) (s : St) (t : TypeId) (m k : Operand) (ok : Bool) : opA X ex e (.lookup t m k ok) s = lookK X t ok (eval X e m) (eval X e k) s := by
  unfold lookK
  simp only [opA]
  rfl
theorem lookK_some (X : Cx) (t : TypeId) (ok : Bool) (m k : AV) (s : St) : lookK X t ok (some m) (some k) s = pureO (lookupA X t m k ok s) s := (fun h => h) rfl
theorem lookup_kinds1 (k : Str) (s : St) : lookupA U 215 (.fm kindKs kindVs) (.str k) true s = some (.tup [kindV (kdOf k), .bool (kdOf k).known]) := lookup_kinds k true s
theorem lookup_kinds0 (k : Str) (s : St) : lookupA U 215 (.fm kindKs kindVs) (.str k) false s = some (kindV (kdOf k)) := lookup_kinds k false s
attribute [go_sem] opA_lookup lookK_some

/-! The set of the three bytes of a pattern -/
def setA : List AV := (List.range 256).map fun n => .bool (Nat.beq n 48 || Nat.beq n 49 || Nat.beq n 120)
theorem setA_len : setA.length = 256 := by simp [setA]
theorem setA_noAgg : setA.all noAgg = true := by simp [setA, noAgg]
theorem setA_get (c : UInt8) : setA[c.toNat]? = some (.bool (c == 48 || c == 49 || c == 120)) := by
  have hc : c.toNat < 256 := c.toNat_lt
  have e : ∀ d : UInt8, Nat.beq c.toNat d.toNat = (c == d) := fun d => by
    rw [Bool.eq_iff_iff, Nat.beq_eq, beq_iff_eq]
    exact UInt8.toNat_inj
  have e1 := e 48
  have e2 := e 49
  have e3 := e 120
  simp only [setA, List.getElem?_map, List.getElem?_range hc, Option.map_some]
  rw [← e1, ← e2, ← e3]
  rfl
theorem c239 : calV U 233 [.str [48, 49, 120]] = some (.tup [.agg setA, .bool true]) := v_of_q (by kernel_rfl) rfl (callQ_run U (n := 100000) (by kernel_rfl))
theorem sls_hi (b : Str) (k : IntKind) (n : Int) : slRS (.str b) none (some (.int k n)) = if 0 ≤ n ∧ n ≤ b.length then some (.str (b.take n.toNat)) else none := by
  simp only [slRS, boundA]
  by_cases h : 0 ≤ n ∧ n ≤ b.length
  · simp [h]
  · simp [h]
theorem sls_lo (b : Str) (k : IntKind) (n : Int) : slRS (.str b) (some (.int k n)) none = if 0 ≤ n ∧ n ≤ b.length then some (.str (b.drop n.toNat)) else none := by
  simp only [slRS, boundA]
  by_cases h : 0 ≤ n ∧ n ≤ b.length
  · simp [h]
  · simp [h]
attribute [go_sem] sls_hi sls_lo

theorem c263 (c : UInt8) : calV U 259 [.fp setA 0, .int .u8 c.toNat] = some (.bool (c == 48 || c == 49 || c == 120)) := by
  have hc : c.toNat < 256 := c.toNat_lt
  have hx := setA_get c
  have h0 : (0 : Int) ≤ (c.toNat : Int) := by omega
  refine pure_go k263 (by kernel_rfl) rfl ?_
  simp +contextual only [go_sem, ↓reduceIte, r263, hx, hc, Nat.mul_one, i_toNat]
def inSet (c : UInt8) : Bool := c == 48 || c == 49 || c == 120
def trimRt (s : Str) : Str := (s.reverse.dropWhile inSet).reverse
theorem trimRt_last (l : Str) (c : UInt8) : trimRt (l ++ [c]) = bif inSet c then trimRt l else l ++ [c] := by
  unfold trimRt
  rw [List.reverse_append, List.reverse_singleton, List.singleton_append, List.dropWhile_cons]
  cases inSet c <;> simp
theorem trim_all (s : Str) : ((trimRt s).dropWhile inSet == []) = s.all inSet := by
  have h1 : ∀ l : Str, (l.dropWhile inSet = []) ↔ l.all inSet = true := fun l => by
    induction l with
    | nil => simp
    | cons c l ih =>
      rw [List.dropWhile_cons, List.all_cons]
      cases h : inSet c <;> simp [ih]
  rw [Bool.eq_iff_iff, beq_iff_eq, h1]
  unfold trimRt
  rw [List.all_reverse]
  constructor
  · intro h
    have h2 : s.reverse.dropWhile inSet = [] := by
      cases hd : s.reverse.dropWhile inSet with
      | nil => rfl
      | cons c l =>
        exfalso
        rw [hd] at h
        have := List.head?_dropWhile_not (p := inSet) (l := s.reverse)
        rw [hd] at this
        simp only [List.head?_cons] at this
        simp only [List.all_cons, Bool.and_eq_true] at h
        simp [h.1] at this
    rw [h1, List.all_reverse] at h2
    exact h2
  · intro h
    have : s.reverse.dropWhile inSet = [] := by rw [h1, List.all_reverse]; exact h
    rw [this]; rfl
theorem c240 (s : Str) (hl : s.length < 2 ^ 30) : calV U 234 [.str s, .fp setA 0] = some (.str (s.dropWhile inSet)) := by
  refine pure_go k240 (by kernel_rfl) rfl ?_
  simp +contextual only [go_sem, ↓reduceIte, r240]
  refine loop_to (σ := Str) (fun x => x.length) (fun x => some (AV.str (x.dropWhile inSet))) (fun x e s => Env.get e 0 = .str x ∧ Env.get e 1 = .fp setA 0) s ?_ rfl ?_
  · rintro L x e s ⟨h0, h1⟩ ih
    cases x with
    | nil =>
      simp +contextual only [go_sem, ↓reduceIte, r240_l0, h0, h1, gt_iff_lt, Int.natCast_zero, Int.lt_irrefl]
      rfl
    | cons c l =>
      have hp : (0 : Int) < ((l.length + 1 : Nat) : Int) := by omega
      have hle : ((0 : Int) ≤ 1 ∧ (1 : Int) ≤ ((l.length + 1 : Nat) : Int)) := by omega
      simp +contextual only [go_sem, ↓reduceIte, r240_l0, h0, h1, gt_iff_lt, hp, c263, hle]
      rw [List.dropWhile_cons]
      cases hc : inSet c
      · have hc' : (c == 48 || c == 49 || c == 120) = false := hc
        simp +contextual only [go_sem, ↓reduceIte, hc', Bool.not_false]
        rfl
      · have hc' : (c == 48 || c == 49 || c == 120) = true := hc
        simp +contextual only [go_sem, ↓reduceIte, hc', Bool.not_true]
        refine ih l _ _ (by simp) ⟨?_, ?_⟩ <;> simp +contextual only [go_sem, ↓reduceIte, h0, h1] <;> rfl
  · refine ⟨?_, ?_⟩ <;> simp +contextual only [go_sem, ↓reduceIte]
theorem cz_of {f : FuncId} {us : List AV} {v : AV} (h : calV U f us = some v) (hp : isPure f = true) (hst : stills us = true) (hf : flat v = true) (s : St) : calZ U f (some us) s = some (v, s) := by
  have h := calV_eq h (ownSt U)
  obtain ⟨p1, p2⟩ := isPure_of hp
  unfold cal callF at h
  rw [p2] at h
  simp only [p1, if_true, callP, frzArgs, hst] at h
  split at h
  · rename_i w hq
    cases h
    refine calZ_some U s ?_
    unfold callQ at hq ⊢
    split at hq
    · rename_i v0 s' hB
      simp only [if_true] at hq
      have := flat_frz s' _ _ _ hq hf
      subst this

      simp [hf]
    · cases hq
  · cases h
theorem c241 (s : Str) (hl : s.length < 2 ^ 30) : calV U 235 [.str s, .fp setA 0] = some (.str (trimRt s)) := by
  refine pure_go k241 (by kernel_rfl) rfl ?_
  simp +contextual only [go_sem, ↓reduceIte, r241]
  refine loop_to (σ := Str) (fun x => x.length) (fun x => some (AV.str (trimRt x))) (fun x e s => x.length < 2 ^ 30 ∧ Env.get e 0 = .str x ∧ Env.get e 1 = .fp setA 0) s ?_ rfl ?_
  · rintro L x e s ⟨hx, h0, h1⟩ ih
    rcases List.eq_nil_or_concat x with rfl | ⟨l, c, rfl⟩
    · simp +contextual only [go_sem, ↓reduceIte, r241_l0, h0, h1, gt_iff_lt, Int.natCast_zero, Int.lt_irrefl]
      rfl
    · rw [List.concat_eq_append] at *
      have hlen : (l ++ [c]).length = l.length + 1 := by simp
      have hp : (0 : Int) < ((l.length + 1 : Nat) : Int) := by omega
      have hw : IntKind.i64.wrap (((l.length + 1 : Nat) : Int) - 1) = (l.length : Int) := by rw [wrap_i64] <;> omega
      have hi : (l ++ [c])[l.length]? = some c := by simp
      have hle : ((0 : Int) ≤ (l.length : Int) ∧ (l.length : Int) ≤ ((l.length + 1 : Nat) : Int)) := by omega
      have htk : (l ++ [c]).take l.length = l := by simp
      simp +contextual only [go_sem, ↓reduceIte, r241_l0, h0, h1, gt_iff_lt, hlen, hp, hw, hi, c263, hle, htk]
      rw [trimRt_last]
      cases hc : inSet c
      · have hc' : (c == 48 || c == 49 || c == 120) = false := hc
        simp +contextual only [go_sem, ↓reduceIte, hc', Bool.not_false]
      · have hc' : (c == 48 || c == 49 || c == 120) = true := hc
        simp +contextual only [go_sem, ↓reduceIte, hc', Bool.not_true]
        refine ih l _ _ (by simp) ⟨by omega, ?_, ?_⟩ <;> simp +contextual only [go_sem, ↓reduceIte, h0, h1]
  · refine ⟨hl, ?_, ?_⟩ <;> simp +contextual only [go_sem, ↓reduceIte]
theorem lay_full : ∀ (vs c : List AV), vs.length = c.length → lay 0 vs c = some vs
  | [], [], _ => rfl
  | v :: vs, x :: c, h => by
    simp only [lay]
    rw [lay_full vs c (by simpa using h)]
theorem trimRt_len (s : Str) : (trimRt s).length ≤ s.length := by
  unfold trimRt
  rw [List.length_reverse]
  refine Nat.le_trans (List.Sublist.length_le (List.dropWhile_sublist _)) ?_
  rw [List.length_reverse]; exact Nat.le_refl _
theorem frz_setA (s : St) (d : Nat) : mapO (frz U s (d + 1)) setA = some setA := by
  have : ∀ l : List AV, (∀ x ∈ l, ∃ b, x = .bool b) → mapO (frz U s (d + 1)) l = some l := by
    intro l
    induction l with
    | nil => intro _; rfl
    | cons x l ih =>
      intro h
      obtain ⟨b, rfl⟩ := h x (List.mem_cons_self ..)
      rw [mapO, ih fun y hy => h y (List.mem_cons_of_mem _ hy)]
      rfl
  refine this _ fun x hx => ?_
  simp only [setA, List.mem_map] at hx
  obtain ⟨n, _, rfl⟩ := hx
  exact ⟨_, rfl⟩
theorem z241 {args : List AV} {s : St} (h : stills args = false) : callK U (calV U 235 args) 235 args s = calZ U 235 (mapO (frz U s 4000) args) s := z_of (by kernel_rfl) s h
theorem z240 {args : List AV} {s : St} (h : stills args = false) : callK U (calV U 234 args) 234 args s = calZ U 234 (mapO (frz U s 4000) args) s := z_of (by kernel_rfl) s h
theorem cz241 (x : Str) (hl : x.length < 2 ^ 30) (s : St) : calZ U 235 (some [.str x, .fp setA 0]) s = some (.str (trimRt x), s) := cz_of (c241 x hl) (by kernel_rfl) rfl rfl s
theorem cz240 (x : Str) (hl : x.length < 2 ^ 30) (s : St) : calZ U 234 (some [.str x, .fp setA 0]) s = some (.str (x.dropWhile inSet), s) := cz_of (c240 x hl) (by kernel_rfl) rfl rfl s
theorem c212 (s : Str) (hl : s.length < 2 ^ 30) : calV U 208 [.str s, .str [48, 49, 120]] = some (.str ((trimRt s).dropWhile inSet)) := by
  refine pure_go k212 (by kernel_rfl) rfl ?_
  have e0 : (([48, 49, 120] : Str) == []) = false := rfl
  have e4 : (((3 : Nat) : Int) == 1) = false := rfl
  have hl2 : (trimRt s).length < 2 ^ 30 := by have := trimRt_len s; omega
  have hly : ∀ z : List AV, z.length = 256 → lay 0 setA z = some setA := fun z hz => lay_full _ _ (by rw [setA_len, hz])
  simp (config := { maxSteps := 1000000 }) +contextual only [go_sem, ↓reduceIte, r212, e0, e4, br_ff, Bool.or_false, Bool.false_and, br_false, c239, setA_len, setA_noAgg, hly, z241, z240, frz_setA, cz241 s hl, cz240 _ hl2]
  cases s with
  | nil => rfl
  | cons c s => rfl
theorem any_not_all (s : Str) : (s.any fun c => c != 48 && c != 49 && c != 120) = !s.all inSet := by
  induction s with
  | nil => rfl
  | cons c s ih =>
    rw [List.any_cons, List.all_cons, ih, inSet]
    have e : (c != 48 && c != 49 && c != 120) = !(c == 48 || c == 49 || c == 120) := by
      simp [bne, Bool.and_assoc]
    rw [e]
    cases (c == 48 || c == 49 || c == 120) <;> rfl
theorem c158 (lines : Int) (pat : Str) (hl : pat.length < 2 ^ 30) : calV U 156 [.int .i64 lines, .str pat] = some (.int .i64 (checkPat lines pat)) := by
  refine pure_go k158 (by kernel_rfl) rfl ?_
  simp +contextual only [go_sem, ↓reduceIte, r158, c212 pat hl, c116, trim_all, br_tt]
  rw [checkPat, badPat, any_not_all]
theorem c157 (d : Kd) (k : Str) (a b mi ma : Int) (pat : Str) (nl : Bool) (kids : List Cond) :
    calV U 155 [kindV d, encC (.mk k a b mi ma pat nl kids)] = some (.bool (!(usesOf d).a && a != 0 || !(usesOf d).b && b != 0 || !(usesOf d).mi && mi != 0 || !(usesOf d).ma && ma != 0 || !(usesOf d).pat && !pat == [] || !(usesOf d).kids && decide ((kids.length : Int) > 0))) := by
  have hs : stills [kSize d, kStart d, kStep d] = true := by cases d <;> rfl
  have hn : noAgg (kSize d) = true ∧ noAgg (kStart d) = true ∧ noAgg (kStep d) = true := by cases d <;> exact ⟨rfl, rfl, rfl⟩
  obtain ⟨n1, n2, n3⟩ := hn
  simp only [stills, Bool.and_true, Bool.and_eq_true] at hs
  obtain ⟨s1, s2, s3⟩ := hs
  refine pure_go k157 (by kernel_rfl) (by simp [stills, still, kindV, encC, still_encS, s1, s2, s3]) ?_
  rw [kindV, encC]
  generalize kSize d = A1 at *
  generalize kStart d = A2 at *
  generalize kStep d = A3 at *
  simp (config := { maxSteps := 1000000 }) +contextual only [go_sem, ↓reduceIte, r157, lenL_encS, encL_len, n1, n2, n3, noAgg_encS, br_tt]
theorem cz89 (l : List Int) (hl : l.length < 2 ^ 62) (s : St) : calZ U 93 (some [.fz (ints l)]) s = some (.int .i64 (firstOf l), s) :=
  cz_of (pure_go k89 (by kernel_rfl) (by simp [stills, still]) (g89 l hl)) (by kernel_rfl) (by simp [stills, still]) rfl s
theorem cz89_2 (a b : Int) (s : St) : calZ U 93 (some [.fz [.int .i64 a, .int .i64 b]]) s = some (.int .i64 (firstOf [a, b]), s) := cz89 [a, b] (by simp) s
theorem cz89_3 (a b c : Int) (s : St) : calZ U 93 (some [.fz [.int .i64 a, .int .i64 b, .int .i64 c]]) s = some (.int .i64 (firstOf [a, b, c]), s) := cz89 [a, b, c] (by simp) s
theorem cz89_4 (a b c d : Int) (s : St) : calZ U 93 (some [.fz [.int .i64 a, .int .i64 b, .int .i64 c, .int .i64 d]]) s = some (.int .i64 (firstOf [a, b, c, d]), s) := cz89 [a, b, c, d] (by simp) s
theorem cz89_7 (a b c d e f g : Int) (s : St) : calZ U 93 (some [.fz [.int .i64 a, .int .i64 b, .int .i64 c, .int .i64 d, .int .i64 e, .int .i64 f, .int .i64 g]]) s = some (.int .i64 (firstOf [a, b, c, d, e, f, g]), s) := cz89 [a, b, c, d, e, f, g] (by simp) s
theorem z89 {args : List AV} {s : St} (h : stills args = false) : callK U (calV U 93 args) 93 args s = calZ U 93 (mapO (frz U s 4000) args) s := z_of (by kernel_rfl) s h
end Go.Am
set_option linter.all false
namespace Go.Am
open Go
variable [MaxLen]
set_option maxRecDepth 100000
/-! # Rows that grow by append -/
section
variable (X : Cx)
def srcG (len : Nat) (x : Option (List AV)) : Option (Nat × List AV) := match x with
  | some r => some (len, r)
  | none => none
def srcK (len k o : Nat) (x : Option (List AV)) : Option (Nat × List AV) := match x with
  | some c => srcG len (grab k o c)
  | none => none
theorem srcG_some (len : Nat) (r : List AV) : srcG len (some r) = some (len, r) := (fun h => h) rfl
theorem srcK_some (len k o : Nat) (c : List AV) : srcK len k o (some c) = srcG len (grab k o c) := (fun h => h) rfl
theorem source_sl (n b o len : Nat) (cap : Option Nat) (z : Nat) (s : St) : sourceA n (.sl b o len cap z) s = srcK len (len * n) o (cellsOf (s.get b)) := by
  simp only [sourceA, ← cells_get, srcK, srcG]
  rfl
theorem source_nils (n : Nat) (s : St) : sourceA n .nils s = some (0, []) := (fun h => h) rfl
theorem source_str (n : Nat) (l : List UInt8) (s : St) : sourceA n (.str l) s = some (l.length, l.map fun c => .int .u8 c.toNat) := (fun h => h) rfl

def appS (t : TypeId) (n m : Nat) (new : List AV) (b o len : Nat) (esz : Nat) (s : St) (x : Option Blk) : Option (AV × St) := match x with
  | some (.cells c e0 false flo fhi) => match grab (len * n) o c with
    | some old => if esz = n ∧ fhi ≤ o + len * n ∧ e0 = t ∧ new.all noAgg = true then
        some (.sl s.next 0 (len + m) none n, (s.put b .gone).new (.cells (old ++ new) t false (flo - o) (fhi - o)))
      else none
    | none => none
  | _ => none
def appD (t : TypeId) (n m : Nat) (new : List AV) (d : AV) (s : St) : Option (AV × St) := match d with
  | .nils => some (.sl s.next 0 m none n, s.new (.cells new t false 0 0))
  | .sl b o len cap esz => match s.cells b with
    | some c => match grab (len * n) o c with
      | some old =>
        match cap with
        | some k => if len + m ≤ k then
            if esz = n then match writeCells s b (o + len * n) new with
              | some s' => some (.sl b o (len + m) (some k) n, s')
              | none => none
            else none
          else some (.sl s.next 0 (len + m) none n, s.new (.cells (old ++ new) t false 0 0))
        | none => match s.get b with
          | some (.cells _ e0 false flo fhi) =>
            if esz = n ∧ fhi ≤ o + len * n ∧ e0 = t ∧ new.all noAgg = true then
              some (.sl s.next 0 (len + m) none n, (s.put b .gone).new (.cells (old ++ new) t false (flo - o) (fhi - o)))
            else none
          | _ => none
      | none => none
    | none => none
  | _ => none
def app0 (d : AV) (s : St) : Option (AV × St) := match d with
  | .nils => some (d, s)
  | .sl .. => some (d, s)
  | .fz _ => some (d, s)
  | _ => none
def appK (t : TypeId) (n bytes : Nat) (d : AV) (x : Option (Nat × List AV)) (s : St) : Option (AV × St) := match x with
  | some (m, new) =>
    if new.length ≠ m * n ∨ (lenA d + m) * bytes > 2 ^ 40 ∨ lenA d + m > 2 ^ 40 then none
    else if m = 0 then app0 d s else appD t n m new d s
  | none => none
theorem app_eq (t : TypeId) (n bytes : Nat) (d x : AV) (s : St) : appR t n bytes d x s = appK t n bytes d (sourceA n x s) s := by
  unfold appR appK appD app0
  rfl
theorem appK_some {t : TypeId} {n bytes : Nat} {d : AV} {m : Nat} {new : List AV} {s : St} (h1 : new.length = m * n) (h2 : (lenA d + m) * bytes ≤ 2 ^ 40) (h3 : lenA d + m ≤ 2 ^ 40) (h4 : m ≠ 0) :
    appK t n bytes d (some (m, new)) s = appD t n m new d s := by
  simp only [appK]
  rw [if_neg (by omega), if_neg h4]
theorem appD_nils (t : TypeId) (n m : Nat) (new : List AV) (s : St) : appD t n m new .nils s = some (.sl s.next 0 m none n, s.new (.cells new t false 0 0)) := (fun h => h) rfl
theorem appD_sl (t : TypeId) (n m : Nat) (new : List AV) (b o len esz : Nat) (s : St) : appD t n m new (.sl b o len none esz) s = appS t n m new b o len esz s (s.get b) := by
  simp only [appD, appS, St.cells]
  cases s.get b with
  | none => rfl
  | some x =>
    cases x <;> simp only
    rename_i c e0 ro lo hi
    cases ro <;> simp only
    cases grab (len * n) o c <;> rfl
theorem appS_cells {t : TypeId} {n m : Nat} {new : List AV} {b len : Nat} {s : St} {cs : List AV} {lo hi : Nat} (hl : cs.length = len * n) (hh : hi ≤ len * n) (hna : new.all noAgg = true) :
    appS t n m new b 0 len n s (some (.cells cs t false lo hi)) = some (.sl s.next 0 (len + m) none n, (s.put b .gone).new (.cells (cs ++ new) t false lo hi)) := by
  simp only [appS]
  rw [← hl, grab_all]
  simp only [true_and]
  rw [if_pos ⟨by omega, hna⟩]
  simp
theorem lenA_nils : lenA .nils = 0 := (fun h => h) rfl
theorem lenA_sl (b o n : Nat) (c : Option Nat) (z : Nat) : lenA (.sl b o n c z) = n := (fun h => h) rfl
theorem lenA_fz (l : List AV) : lenA (.fz l) = l.length := (fun h => h) rfl

/-- a row made by appends: its cells cs, i elements of n cells; its block lies from B on -/
def RowI (s : St) (B : Nat) (t : TypeId) (n i : Nat) (cs : List AV) (v : AV) : Prop :=
  (i = 0 ∧ v = .nils ∧ cs = []) ∨ (0 < i ∧ cs.length = i * n ∧ ∃ b, B ≤ b ∧ b < s.next ∧ v = .sl b 0 i none n ∧ s.get b = some (.cells cs t false 0 0))
theorem RowI.nil (s : St) (B : Nat) (t : TypeId) (n : Nat) : RowI s B t n 0 [] .nils := .inl ⟨rfl, rfl, rfl⟩
theorem RowI.noAgg {s : St} {B : Nat} {t : TypeId} {n i : Nat} {cs : List AV} {v : AV} (h : RowI s B t n i cs v) : noAgg v = true := by
  rcases h with ⟨_, rfl, _⟩ | ⟨_, _, b, _, _, rfl, _⟩ <;> rfl
theorem RowI.cells {s : St} {B : Nat} {t : TypeId} {n i : Nat} {cs : List AV} {v : AV} (h : RowI s B t n i cs v) : v.cells = [v] := by
  rcases h with ⟨_, rfl, _⟩ | ⟨_, _, b, _, _, rfl, _⟩ <;> rfl
theorem RowI.len {s : St} {B : Nat} {t : TypeId} {n i : Nat} {cs : List AV} {v : AV} (h : RowI s B t n i cs v) : lenRL v = some (.int .i64 i) := by
  rcases h with ⟨rfl, rfl, _⟩ | ⟨_, _, b, _, _, rfl, _⟩ <;> rfl

theorem RowI.lenA {s : St} {B : Nat} {t : TypeId} {n i : Nat} {cs : List AV} {v : AV} (h : RowI s B t n i cs v) : Go.Am.lenA v = i := by
  rcases h with ⟨rfl, rfl, _⟩ | ⟨_, _, b, _, _, rfl, _⟩ <;> rfl
theorem RowI.mono {s s' : St} {B : Nat} {t : TypeId} {n i : Nat} {cs : List AV} {v : AV} (h : RowI s B t n i cs v) (hn : s.next ≤ s'.next) (hg : ∀ j, B ≤ j → j < s.next → s'.get j = s.get j) : RowI s' B t n i cs v := by
  rcases h with ⟨h0, h1, h2⟩ | ⟨h0, h1, b, h2, h3, h4, h5⟩
  · exact .inl ⟨h0, h1, h2⟩
  · exact .inr ⟨h0, h1, b, h2, by omega, h4, by rw [hg b h2 h3]; exact h5⟩
/-- one append more -/
theorem RowI.app {s : St} {B : Nat} {t : TypeId} {n i : Nat} {cs : List AV} {v : AV} (h : RowI s B t n i cs v) (hB : B ≤ s.next) {m : Nat} {new : List AV} (hm : m ≠ 0) (hl : new.length = m * n) (hna : new.all Go.Am.noAgg = true) :
    ∃ s1, appD t n m new v s = some (.sl s.next 0 (i + m) none n, s1) ∧ s1.next = s.next + 1 ∧ RowI s1 B t n (i + m) (cs ++ new) (.sl s.next 0 (i + m) none n) ∧ (∀ j, j < B → s1.get j = s.get j) ∧ (Fr s → Fr s1) := by
  rcases h with ⟨rfl, rfl, rfl⟩ | ⟨h0, h1, b, h2, h3, rfl, h5⟩
  · refine ⟨s.new (.cells new t false 0 0), by rw [appD_nils, Nat.zero_add], rfl, .inr ⟨by omega, by rw [Nat.zero_add, List.nil_append]; exact hl, s.next, hB, by rw [next_new]; omega, rfl, by rw [get_new, if_pos rfl]; rfl⟩, fun j hj => by rw [get_new, if_neg (by omega)], fun hf => hf.new _⟩
  · refine ⟨(s.put b .gone).new (.cells (cs ++ new) t false 0 0), by rw [appD_sl, h5, appS_cells h1 (by omega) hna], rfl, .inr ⟨by omega, by rw [List.length_append, h1, hl, Nat.add_mul], s.next, hB, by rw [next_new, next_put]; omega, rfl, ?_⟩, fun j hj => ?_, fun hf => (hf.put h3 _).new _⟩
    · rw [get_new, next_put, if_pos rfl]
    · rw [get_new, next_put, if_neg (by omega), get_put, if_neg (by omega)]
/-- elements of n cells each, written out -/
theorem chunks_enc {A : Type} (enc : A → AV) (n : Nat) (hc : ∀ a, ∃ c, enc a = .agg c ∧ c.length = n) : ∀ l : List A, chunksA true n l.length (l.flatMap fun a => (enc a).cells) = l.map enc
  | [] => rfl
  | a :: l => by
    obtain ⟨c, h1, h2⟩ := hc a
    have ih := chunks_enc enc n hc l
    rw [List.length_cons, chunks_agg, List.flatMap_cons, h1, cells_agg, List.map_cons, h1]
    rw [show (c ++ l.flatMap fun a => (enc a).cells).take n = c from by rw [← h2, List.take_left], show (c ++ l.flatMap fun a => (enc a).cells).drop n = l.flatMap fun a => (enc a).cells from by rw [← h2, List.drop_left], ih]
theorem mapO_self {f : AV → Option AV} : ∀ {l : List AV}, (∀ x ∈ l, f x = some x) → mapO f l = some l
  | [], _ => rfl
  | x :: l, h => by
    rw [mapO, h x (List.mem_cons_self ..), mapO_self fun y hy => h y (List.mem_cons_of_mem _ hy)]
theorem RowI.frz_agg {s : St} {B : Nat} {t : TypeId} {n : Nat} {A : Type} {enc : A → AV} {l : List A} {v : AV} (h : RowI s B t n l.length (l.flatMap fun a => (enc a).cells) v) (hag : isAggT X t = some true) (hsz : size X t = some n) (hn : n ≠ 0)
    (hc : ∀ a, ∃ c, enc a = .agg c ∧ c.length = n) {d : Nat} (hf : ∀ a, frz X s d (enc a) = some (enc a)) : frz X s (d + 1) v = some (encS true (l.map enc)) := by
  rcases h with ⟨h0, rfl, _⟩ | ⟨h0, h1, b, _, _, rfl, hg⟩
  · have : l = [] := List.length_eq_zero_iff.1 h0
    subst this; rfl
  · rw [frz_sl, hg, frzS_cells, ← h1, grab_all, hag, hsz]
    cases n with
    | zero => exact absurd rfl hn
    | succ n =>
      rw [frzT_agg, chunks_enc enc (n + 1) hc, mapO_self (fun x hx => ?_), fzK_some]
      · cases l with
        | nil => simp at h0
        | cons a l => rfl
      · obtain ⟨a, _, rfl⟩ := List.mem_map.1 hx
        exact hf a
end
attribute [go_sem] srcG_some srcK_some source_sl source_nils source_str app_eq appD_nils appD_sl lenA_nils lenA_sl lenA_fz
end Go.Am
