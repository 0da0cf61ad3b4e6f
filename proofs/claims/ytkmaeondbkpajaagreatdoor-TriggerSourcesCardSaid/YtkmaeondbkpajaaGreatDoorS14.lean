/- A part of the proof of a statement of this seat: the machine on which the program is read, and what it computes; for every input. -/
import Derived.Test.YtkmaeondbkpajaaGreatDoorS13
import Derived.Test.YtkmaeondbkpajaaGreatDoorS10
import Derived.Test.YtkmaeondbkpajaaGreatDoorS06
import Derived.Test.YtkmaeondbkpajaaGreatDoorS11
set_option linter.all false
set_option linter.all false
namespace Go.Am
open Go
variable [MaxLen]
set_option maxRecDepth 100000
set_option maxHeartbeats 8000000
mutual
def Cond.norm : Cond → Cond
  | .mk k a b mi ma p _ kids => .mk k a b mi ma p true (normL kids)
def normL : List Cond → List Cond
  | [] => []
  | c :: l => c.norm :: normL l
end
theorem normL_map : ∀ l, normL l = l.map Cond.norm
  | [] => by simp [normL]
  | c :: l => by simp [normL, normL_map l]
theorem encC_agg (c : Cond) : ∃ l, encC c = .agg l ∧ l.length = 7 := ⟨_, encC_cells c, rfl⟩
theorem frz_encC (s : St) (d : Nat) (c : Cond) : frz U s (d + 2) (encC c) = some (encC c) := by
  rw [encC_cells]
  simp only [Cond.cells, frz_agg, mapO_cons, mapO_nil, frz_str, frz_int, frz_encS, resK_some, aggK_some]
end Go.Am
set_option linter.all false
namespace Go.Am
open Go
variable [MaxLen]
set_option maxRecDepth 100000
set_option maxHeartbeats 8000000
def Step.norm (s : Step) : Step := { s with cond := s.cond.norm }
def Prog.norm (p : Prog) : Prog := { p with nl := true, steps := p.steps.map Step.norm }
def Step.cells9 (s : Step) : List AV := [.str s.cond.kind, .int .i64 s.cond.a, .int .i64 s.cond.b, .int .i64 s.cond.mi, .int .i64 s.cond.ma, .str s.cond.pat, encS s.cond.nl (encL s.cond.kids), .int .i64 s.times, .int .i64 s.within]
theorem encStep_agg (s : Step) : ∃ l, encStep s = .agg l ∧ l.length = 9 := ⟨_, rfl, rfl⟩
theorem frz_encStep (s : St) (d : Nat) (c : Step) : frz U s (d + 2) (encStep c) = some (encStep c) := by
  unfold encStep
  simp only [frz_agg, mapO_cons, mapO_nil, frz_str, frz_int, frz_encS, resK_some, aggK_some]

mutual
def sc : Cond → Int → Bool
  | .mk k _ _ _ _ p _ kids, d => br (decide (d > 6) || decide ((k.length : Int) > 20) || decide ((p.length : Int) > 40) || decide ((kids.length : Int) > 10)) false (scL kids (IntKind.i64.wrap (d + 1)))
def scL : List Cond → Int → Bool
  | [], _ => true
  | c :: l, d => br (!(sc c d)) false (scL l d)
end
mutual
def leaves : Cond → Nat
  | .mk _ _ _ _ _ _ _ kids => leavesL kids + 1
def leavesL : List Cond → Nat
  | [] => 0
  | c :: l => leaves c + leavesL l
end
theorem brB_some' (p x y : Bool) : some (AV.bool (br p x y)) = br p (some (.bool x)) (some (.bool y)) := by cases p <;> rfl

theorem c86 : ∀ c : Cond, ∀ depth : Int, calV U 142 [encC c, .int .i64 depth] = some (.bool (sc c depth)) := by
  intro c
  induction c using Cond.ind with
  | h kind a b mi ma pat nl kids ih =>
  intro depth
  refine pure_go k86 (by kernel_rfl) (by simp [stills, still_encC, still]) ?_
  rw [encC, sc]
  simp (config := { maxSteps := 2000000 }) +contextual only [go_sem, ↓reduceIte, r86, lenL_encS, encL_len, cells_encS, noAgg_encS, br_tt]
  simp only [brB_some']
  refine br_r fun hsh => ?_
  have hlen : kids.length ≤ 10 := by
    simp only [Bool.or_eq_false_iff, decide_eq_false_iff_not] at hsh
    omega
  refine loop_to (σ := Nat) (fun i => kids.length - i) (fun i => some (AV.bool (scL (kids.drop i) (IntKind.i64.wrap (depth + 1))))) (fun i e s => i ≤ kids.length ∧ Env.get e 5 = .int .i64 i ∧ Env.get e 1 = .int .i64 depth ∧ Env.get e 2 = .ptr 8 0 ∧
    s.get 8 = some (.cells [.str kind, .int .i64 a, .int .i64 b, .int .i64 mi, .int .i64 ma, .str pat, encS nl (encL kids)] 106 false 0 0)) 0 ?_ rfl ?_
  · rintro L i e s ⟨hi, h5, h1, h2, hs⟩ IH
    by_cases hd : i < kids.length
    · have hx : (encL kids)[i]? = some (encC kids[i]) := by rw [encL_get, List.getElem?_eq_getElem hd]; rfl
      have hw := wrap_succ hd (by omega)
      have hc := ih kids[i] (List.getElem_mem hd) (IntKind.i64.wrap (depth + 1))
      rw [encS_ne (encL_ne hd)] at hs
      rw [encC_cells] at hx hc
      simp only [Cond.cells] at hx hc
      simp +contextual only [go_sem, ↓reduceIte, r86_l0, h5, h1, h2, hs, nat_lt_dec, hd, encL_len, hx, hc]
      rw [List.drop_eq_getElem_cons hd, scL]
      cases hb : sc kids[i] (IntKind.i64.wrap (depth + 1))
      · simp only [go_sem, ↓reduceIte]
      · simp only [go_sem, ↓reduceIte, hw]
        refine IH (i + 1) _ _ (by omega) ⟨by omega, ?_, ?_, ?_, ?_⟩ <;> simp +contextual only [go_sem, ↓reduceIte, h5, h1, h2, hs, hw, encS_ne (encL_ne hd)]
    · have : i = kids.length := by omega
      subst this
      simp +contextual only [go_sem, ↓reduceIte, r86_l0, h5, h1, h2, hs, lenL_encS, encL_len, nat_lt_dec, Nat.lt_irrefl]
      rw [List.drop_length, scL]
  · refine ⟨Nat.zero_le _, ?_, ?_, ?_, ?_⟩ <;> simp +contextual only [go_sem, ↓reduceIte] <;> rfl

theorem leaves_pos (c : Cond) : 1 ≤ leaves c := by cases c; simp [leaves]
theorem leavesL_len : ∀ l, l.length ≤ leavesL l
  | [] => Nat.zero_le _
  | c :: l => by have := leavesL_len l; have := leaves_pos c; simp only [leavesL, List.length_cons]; omega
theorem leavesL_mem : ∀ {l : List Cond} {c : Cond}, c ∈ l → leaves c ≤ leavesL l
  | c' :: l, c, h => by
    rw [leavesL]
    rcases List.mem_cons.1 h with rfl | h
    · omega
    · have := leavesL_mem h; omega
theorem leavesL_app (l m : List Cond) : leavesL (l ++ m) = leavesL l + leavesL m := by
  induction l with
  | nil => simp [leavesL]
  | cons c l ih => simp only [List.cons_append, leavesL, ih]; omega
theorem c87 : ∀ c : Cond, leaves c < 2 ^ 62 → calV U 143 [encC c] = some (.int .i64 (leaves c)) := by
  intro c
  induction c using Cond.ind with
  | h kind a b mi ma pat nl kids ih =>
  intro hb
  rw [leaves] at hb ⊢
  have hlen := leavesL_len kids
  refine pure_go k87 (by kernel_rfl) (by simp [stills, still_encC, still]) ?_
  rw [encC]
  simp (config := { maxSteps := 2000000 }) +contextual only [go_sem, ↓reduceIte, r87, lenL_encS, encL_len, cells_encS, noAgg_encS, br_tt]
  refine loop_to (σ := Nat) (fun i => kids.length - i) (fun i => some (AV.int .i64 ((leavesL kids + 1 : Nat) : Int))) (fun i e s => i ≤ kids.length ∧ Env.get e 4 = .int .i64 i ∧ Env.get e 3 = .int .i64 ((leavesL (kids.take i) + 1 : Nat) : Int) ∧ Env.get e 1 = .ptr 8 0 ∧
    s.get 8 = some (.cells [.str kind, .int .i64 a, .int .i64 b, .int .i64 mi, .int .i64 ma, .str pat, encS nl (encL kids)] 106 false 0 0)) 0 ?_ rfl ?_
  · rintro L i e s ⟨hi, h4, h3, h1, hs⟩ IH
    by_cases hd : i < kids.length
    · have hx : (encL kids)[i]? = some (encC kids[i]) := by rw [encL_get, List.getElem?_eq_getElem hd]; rfl
      have hw := wrap_succ hd (by omega)
      have hc := ih kids[i] (List.getElem_mem hd) (by have := leavesL_mem (List.getElem_mem hd); omega)
      have htk : leavesL (kids.take (i + 1)) = leavesL (kids.take i) + leaves kids[i] := by
        rw [List.take_succ_eq_append_getElem hd, leavesL_app]; simp [leavesL]
      have hle : leavesL (kids.take (i + 1)) ≤ leavesL kids := by
        have := leavesL_app (kids.take (i + 1)) (kids.drop (i + 1))
        rw [List.take_append_drop] at this; omega
      have hw2 : IntKind.i64.wrap (((leavesL (kids.take i) + 1 : Nat) : Int) + (leaves kids[i] : Int)) = ((leavesL (kids.take (i + 1)) + 1 : Nat) : Int) := by rw [wrap_i64] <;> omega
      rw [encS_ne (encL_ne hd)] at hs
      rw [encC_cells] at hx hc
      simp only [Cond.cells] at hx hc
      simp +contextual only [go_sem, ↓reduceIte, r87_l0, h4, h3, h1, hs, nat_lt_dec, hd, encL_len, hx, hc, hw, hw2]
      refine IH (i + 1) _ _ (by omega) ⟨by omega, ?_, ?_, ?_, ?_⟩ <;> simp +contextual only [go_sem, ↓reduceIte, h4, h3, h1, hs, hw, hw2, encS_ne (encL_ne hd)]
    · have : i = kids.length := by omega
      subst this
      rw [List.take_length] at h3
      simp +contextual only [go_sem, ↓reduceIte, r87_l0, h4, h3, h1, hs, lenL_encS, encL_len, nat_lt_dec, Nat.lt_irrefl]
  · refine ⟨Nat.zero_le _, ?_, ?_, ?_, ?_⟩ <;> simp +contextual only [go_sem, ↓reduceIte] <;> rfl
end Go.Am
set_option linter.all false
namespace Go.Am
open Go
variable [MaxLen]
set_option maxRecDepth 100000
set_option maxHeartbeats 8000000
theorem scL_mem {d : Int} : ∀ {l : List Cond}, scL l d = true → ∀ c ∈ l, sc c d = true
  | c :: l, h, x, hx => by
    rw [scL] at h
    cases hc : sc c d
    · rw [hc] at h; cases h
    · rw [hc] at h
      rcases List.mem_cons.1 hx with rfl | hx
      · exact hc
      · exact scL_mem h x hx
theorem sc_spec {k : Str} {a b mi ma : Int} {p : Str} {nl : Bool} {kids : List Cond} {d : Int} (h : sc (.mk k a b mi ma p nl kids) d = true) (hd : 1 ≤ d) : d ≤ 6 ∧ k.length ≤ 20 ∧ p.length ≤ 40 ∧ kids.length ≤ 10 ∧ ∀ c ∈ kids, sc c (d + 1) = true := by
  rw [sc] at h
  cases hb : (decide (d > 6) || decide ((k.length : Int) > 20) || decide ((p.length : Int) > 40) || decide ((kids.length : Int) > 10))
  · rw [hb, br_false] at h
    simp only [Bool.or_eq_false_iff, decide_eq_false_iff_not] at hb
    obtain ⟨⟨⟨h1, h2⟩, h3⟩, h4⟩ := hb
    have hw : IntKind.i64.wrap (d + 1) = d + 1 := wrap_i64 (by omega) (by omega)
    rw [hw] at h
    exact ⟨by omega, by omega, by omega, by omega, scL_mem h⟩
  · rw [hb] at h; cases h
theorem sc_fits : ∀ (c : Cond) (d : Int), 1 ≤ d → sc c d = true → c.fits ∧ leaves c ≤ 11 ^ (7 - d.toNat) := by
  intro c
  induction c using Cond.ind with
  | h kind a b mi ma pat nl kids ih =>
  intro d hd h
  obtain ⟨h1, h2, h3, h4, h5⟩ := sc_spec h hd
  have hk : ∀ x ∈ kids, x.fits ∧ leaves x ≤ 11 ^ (6 - d.toNat) := fun x hx => by
    have := ih x hx (d + 1) (by omega) (h5 x hx)
    rwa [show 7 - (d + 1).toNat = 6 - d.toNat from by omega] at this
  refine ⟨?_, ?_⟩
  · rw [Cond.fits]
    exact ⟨by omega, by omega, fun x hx => (hk x hx).1⟩
  · rw [leaves]
    have : ∀ l : List Cond, (∀ x ∈ l, x ∈ kids) → leavesL l ≤ l.length * 11 ^ (6 - d.toNat) := by
      intro l
      induction l with
      | nil => intro _; simp [leavesL]
      | cons c l ihl =>
        intro hl
        have := ihl fun x hx => hl x (List.mem_cons_of_mem _ hx)
        have := (hk c (hl c (List.mem_cons_self ..))).2
        rw [leavesL, List.length_cons, Nat.add_mul]; omega
    have h6 := this kids fun _ h => h
    have h7 : kids.length * 11 ^ (6 - d.toNat) ≤ 10 * 11 ^ (6 - d.toNat) := Nat.mul_le_mul_right _ h4
    have h8 : 11 ^ (7 - d.toNat) = 11 * 11 ^ (6 - d.toNat) := by
      rw [show 7 - d.toNat = (6 - d.toNat) + 1 from by omega, Nat.pow_succ, Nat.mul_comm]
    have h9 : 1 ≤ 11 ^ (6 - d.toNat) := Nat.one_le_pow _ _ (by omega)
    omega
theorem sc_leaves {c : Cond} (h : sc c 1 = true) : leaves c < 2 ^ 62 := by
  have := (sc_fits c 1 (by omega) h).2
  have e : 11 ^ (7 - (1 : Int).toNat) = 1771561 := rfl
  rw [e] at this
  omega

def shortC (c : Cond) (n : Int) : Bool := sc c 1 && decide ((leaves c : Int) ≤ n)
theorem c21 (c : Cond) (n : Int) : calV U 72 [encC c, .int .i64 n] = some (.bool (shortC c n)) := by
  refine pure_go k21 (by kernel_rfl) (by simp [stills, still_encC, still]) ?_
  have h86 := c86 c 1
  have h87 : sc c 1 = true → calV U 143 [encC c] = some (.int .i64 (leaves c)) := fun h => c87 c (sc_leaves h)
  rw [encC_cells] at h86 h87 ⊢
  simp only [Cond.cells] at h86 h87 ⊢
  simp (config := { maxSteps := 2000000 }) +contextual only [go_sem, ↓reduceIte, r21, h86, h87, noAgg_encS]
  rfl
end Go.Am
set_option linter.all false
namespace Go.Am
open Go
variable [MaxLen]
set_option maxRecDepth 100000
/-- (strobe/trigger.Cond).compound; results .tmp 2 -/
def r213 : RC := (.seq (.ops [⟨some 1, none, none, false, .box 78 (.t 0)⟩,
  ⟨some 2, none, none, false, .mov (.v (.bool false))⟩]) (.seq (.ops [⟨some 3, none, none, false, .fa 0 (.t 1)⟩,
  ⟨some 4, none, none, false, .ld1 (.t 3)⟩,
  ⟨some 5, none, none, false, .bin .eql 9 true (.t 4) (.v (.str [110, 111, 116]))⟩,
  ⟨some 6, none, none, false, .mov (.t 5)⟩,
  ⟨some 7, some (6, false), none, false, .fa 0 (.t 1)⟩,
  ⟨some 8, some (6, false), none, false, .ld1 (.t 7)⟩,
  ⟨some 9, some (6, false), none, false, .bin .eql 9 true (.t 8) (.v (.str [97, 108, 108]))⟩,
  ⟨some 10, none, none, false, .pick (.t 6) (.v (.bool true)) (.t 9)⟩,
  ⟨some 11, none, none, false, .mov (.t 10)⟩,
  ⟨some 12, some (11, false), none, false, .fa 0 (.t 1)⟩,
  ⟨some 13, some (11, false), none, false, .ld1 (.t 12)⟩,
  ⟨some 14, some (11, false), none, false, .bin .eql 9 true (.t 13) (.v (.str [97, 110, 121]))⟩,
  ⟨some 15, none, none, false, .pick (.t 11) (.v (.bool true)) (.t 14)⟩,
  ⟨some 2, none, none, false, .mov (.t 15)⟩]) .ret))
theorem k213 : fnRC 168 = some ([.tmp 2], r213) := by kernel_rfl

/-- strobe/trigger.limited; results .tmp 4 -/
def r170 : RC := (.seq (.ops [⟨some 4, none, none, false, .mov (.v (.int .i64 0))⟩]) (.seq (.ops [⟨some 5, none, none, false, .mov (.t 0)⟩,
  ⟨some 6, none, none, false, .mov (.t 1)⟩,
  ⟨some 7, none, none, false, .bin .mul 3 false (.t 5) (.t 6)⟩,
  ⟨some 8, none, none, false, .raw (.call { callee := .builtin .min, args := #[(.tmp 7), (.const (.int .i64 65537))], argTypes := #[3, 3] })⟩,
  ⟨some 4, none, none, false, .mov (.t 8)⟩]) .ret))
theorem k170 : fnRC 128 = some ([.tmp 4], r170) := by kernel_rfl

def r171_l0 : RC := (.seq (.ops [⟨some 20, none, none, false, .bin .lss 3 false (.t 19) (.t 18)⟩]) (.seq (.cond (.t 20) .skip (.exit 0)) (.seq (.block 1 (.seq (.ops [⟨some 21, none, none, false, .ixa 7 (.t 17) (.t 19)⟩,
  ⟨some 22, none, none, false, .ldn 7 (.t 21)⟩,
  ⟨some 5, none, none, false, .al [(.str []), (.int .i64 0), (.int .i64 0), (.int .i64 0), (.int .i64 0), (.str []), .nils] 78⟩,
  ⟨none, none, none, false, .st 7 (.t 5) (.t 22)⟩]) (.ops [⟨some 23, none, none, false, .mov (.t 3)⟩,
  ⟨some 24, none, none, false, .ldn 7 (.t 5)⟩,
  ⟨some 25, none, none, false, .call 129 [(.t 24)]⟩,
  ⟨some 26, none, none, false, .call 128 [(.t 23), (.t 25)]⟩,
  ⟨some 3, none, none, false, .mov (.t 26)⟩]))) (.ops [⟨some 27, none, none, false, .bin .add 3 true (.t 19) (.v (.int .i64 1))⟩,
  ⟨some 19, none, none, false, .mov (.t 27)⟩]))))
/-- (strobe/trigger.Cond).size; results .tmp 2 -/
def r171 : RC := (.seq (.ops [⟨some 1, none, none, false, .box 78 (.t 0)⟩,
  ⟨some 2, none, none, false, .mov (.v (.int .i64 0))⟩]) (.seq (.seq (.ops [⟨some 6, none, none, false, .ldn 7 (.t 1)⟩,
  ⟨some 7, none, none, false, .call 168 [(.t 6)]⟩,
  ⟨some 8, none, none, false, .un .not (.t 7)⟩]) (.cond (.t 8) (.seq (.drw 8 [⟨some 9, none, none, false, .call 136 []⟩,
  ⟨some 10, none, none, false, .fa 0 (.t 1)⟩,
  ⟨some 11, none, none, false, .ld1 (.t 10)⟩,
  ⟨some 12, none, none, false, .raw (.lookup 215 (.tmp 9) (.tmp 11) false)⟩,
  ⟨some 13, none, none, false, .fd1 6 (.t 12)⟩,
  ⟨some 14, none, none, false, .ldn 7 (.t 1)⟩,
  ⟨some 15, none, none, true, .callv (.t 13) [(.t 14)]⟩,
  ⟨some 2, none, none, false, .mov (.t 15)⟩]) .ret) .skip)) (.seq (.ops [⟨some 3, none, none, false, .mov (.v (.int .i64 1))⟩]) (.seq (.seq (.ops [⟨some 16, none, none, false, .fa 6 (.t 1)⟩,
  ⟨some 17, none, none, false, .ld1 (.t 16)⟩,
  ⟨some 18, none, none, false, .lenL (.t 17)⟩,
  ⟨some 19, none, none, false, .mov (.v (.int .i64 0))⟩]) (.block 0 (.loop r171_l0))) (.seq (.ops [⟨some 28, none, none, false, .mov (.t 3)⟩,
  ⟨some 2, none, none, false, .mov (.t 28)⟩]) .ret)))))
theorem k171 : fnRC 129 = some ([.tmp 2], r171) := by kernel_rfl

/-- strobe/trigger.kinds$1; results .tmp 2 -/
def r192 : RC := (.seq (.ops [⟨some 1, none, none, false, .box 78 (.t 0)⟩,
  ⟨some 2, none, none, false, .mov (.v (.int .i64 0))⟩]) (.seq (.ops [⟨some 3, none, none, false, .fa 4 (.t 1)⟩,
  ⟨some 4, none, none, false, .ld1 (.t 3)⟩,
  ⟨some 5, none, none, false, .bin .add 3 true (.t 4) (.v (.int .i64 3))⟩,
  ⟨some 2, none, none, false, .mov (.t 5)⟩]) .ret))
theorem k192 : fnRC 174 = some ([.tmp 2], r192) := by kernel_rfl

/-- strobe/trigger.kinds$2; results .tmp 2 -/
def r193 : RC := (.seq (.ops [⟨some 1, none, none, false, .box 78 (.t 0)⟩,
  ⟨some 2, none, none, false, .mov (.v (.int .i64 0))⟩]) (.seq (.ops [⟨some 3, none, none, false, .fa 3 (.t 1)⟩,
  ⟨some 4, none, none, false, .ld1 (.t 3)⟩,
  ⟨some 5, none, none, false, .bin .add 3 true (.t 4) (.v (.int .i64 2))⟩,
  ⟨some 2, none, none, false, .mov (.t 5)⟩]) .ret))
theorem k193 : fnRC 175 = some ([.tmp 2], r193) := by kernel_rfl

/-- strobe/trigger.one; results .tmp 2 -/
def r194 : RC := (.seq (.ops [⟨some 1, none, none, false, .box 78 (.t 0)⟩,
  ⟨some 2, none, none, false, .mov (.v (.int .i64 0))⟩]) (.seq (.ops [⟨some 2, none, none, false, .mov (.v (.int .i64 1))⟩]) .ret))
theorem k194 : fnRC 176 = some ([.tmp 2], r194) := by kernel_rfl

/-- strobe/trigger.kinds$10; results .tmp 2 -/
def r210 : RC := (.seq (.ops [⟨some 1, none, none, false, .box 78 (.t 0)⟩,
  ⟨some 2, none, none, false, .mov (.v (.int .i64 0))⟩]) (.seq (.ops [⟨some 2, none, none, false, .mov (.v (.int .i64 4))⟩]) .ret))
theorem k210 : fnRC 192 = some ([.tmp 2], r210) := by kernel_rfl

end Go.Am
set_option linter.all false
namespace Go.Am
open Go
variable [MaxLen]
set_option maxRecDepth 100000
set_option maxHeartbeats 8000000
attribute [go_sem] calv_fn List.nil_append List.append_nil List.cons_append
def lim (a b : Int) : Int := min (IntKind.i64.wrap (a * b)) 65537
theorem c170 (a b : Int) : calV U 128 [.int .i64 a, .int .i64 b] = some (.int .i64 (lim a b)) := by
  refine pure_go k170 (by kernel_rfl) rfl ?_
  simp +contextual only [go_sem, ↓reduceIte, r170]
  rfl
def isComp (k : Str) : Bool := k == [110, 111, 116] || (k == [97, 108, 108] || k == [97, 110, 121])
theorem c213 (c : Cond) : calV U 168 [encC c] = some (.bool (isComp c.kind)) := by
  refine pure_go k213 (by kernel_rfl) (by simp [stills, still_encC]) ?_
  rw [encC_cells]
  simp +contextual only [go_sem, ↓reduceIte, r213, Cond.cells, noAgg_encS, br_tt]
  rw [isComp]
  cases c.kind == [110, 111, 116] <;> rfl
theorem c192 (c : Cond) : calV U 174 [encC c] = some (.int .i64 (IntKind.i64.wrap (c.ma + 3))) := by
  refine pure_go k192 (by kernel_rfl) (by simp [stills, still_encC]) ?_
  rw [encC_cells]
  simp +contextual only [go_sem, ↓reduceIte, r192, Cond.cells, noAgg_encS]
theorem c193 (c : Cond) : calV U 175 [encC c] = some (.int .i64 (IntKind.i64.wrap (c.mi + 2))) := by
  refine pure_go k193 (by kernel_rfl) (by simp [stills, still_encC]) ?_
  rw [encC_cells]
  simp +contextual only [go_sem, ↓reduceIte, r193, Cond.cells, noAgg_encS]
theorem c194 (c : Cond) : calV U 176 [encC c] = some (.int .i64 1) := by
  refine pure_go k194 (by kernel_rfl) (by simp [stills, still_encC]) ?_
  rw [encC_cells]
  simp +contextual only [go_sem, ↓reduceIte, r194, Cond.cells, noAgg_encS]
theorem c210 (c : Cond) : calV U 192 [encC c] = some (.int .i64 4) := by
  refine pure_go k210 (by kernel_rfl) (by simp [stills, still_encC]) ?_
  rw [encC_cells]
  simp +contextual only [go_sem, ↓reduceIte, r210, Cond.cells, noAgg_encS]
def leafSize (d : Kd) (c : Cond) : Int := match d with
  | .pulse | .gap => IntKind.i64.wrap (c.ma + 3)
  | .idle | .setup => IntKind.i64.wrap (c.mi + 2)
  | .runt => 4
  | _ => 1
def Kd.leaf : Kd → Bool
  | .not_ | .all_ | .any_ | .other => false
  | _ => true
theorem size_call (d : Kd) (h : d.leaf = true) (c : Cond) (s : St) : calv U (kSize d) [encC c] s = some (.int .i64 (leafSize d c), s) := by
  cases d <;> first | cases h | skip
  all_goals simp only [kSize, calv_fn, List.nil_append, List.append_nil, c192, c193, c194, c210, callK_some, leafSize]
theorem isComp_kd (k : Str) (h : (kdOf k).known = true) : isComp k = !(kdOf k).leaf := by
  obtain ⟨h0, h1, h2, h3, h4, h5, h6, h7, h8, h9, h10, h11, h12, h13, h14⟩ := kd_facts k
  rw [isComp, h12, h13, h14]
  generalize kdOf k = d at *
  cases d <;> first | rfl | cases h
mutual
def Cond.allKnown : Cond → Bool
  | .mk k _ _ _ _ _ _ kids => (kdOf k).known && ((kdOf k).leaf || knownL kids)
def knownL : List Cond → Bool
  | [] => true
  | c :: l => c.allKnown && knownL l
end
theorem knownL_mem : ∀ {l : List Cond}, knownL l = true → ∀ c ∈ l, c.allKnown = true
  | c :: l, h, x, hx => by
    rw [knownL, Bool.and_eq_true] at h
    rcases List.mem_cons.1 hx with rfl | hx
    · exact h.1
    · exact knownL_mem h.2 x hx
mutual
def szP : Cond → Int
  | .mk k a b mi ma p nl kids => bif (kdOf k).leaf then leafSize (kdOf k) (.mk k a b mi ma p nl kids) else szPL kids 1
def szPL : List Cond → Int → Int
  | [], x => x
  | c :: l, x => szPL l (lim x (szP c))
end
theorem c171 : ∀ c : Cond, c.fits → c.allKnown = true → calV U 129 [encC c] = some (.int .i64 (szP c)) := by
  intro c
  induction c using Cond.ind with
  | h kind a b mi ma pat nl kids ih =>
  intro hf hk
  rw [Cond.fits] at hf
  obtain ⟨f1, f2, f3⟩ := hf
  rw [Cond.allKnown, Bool.and_eq_true] at hk
  obtain ⟨hk1, hk2⟩ := hk
  refine pure_go k171 (by kernel_rfl) (by simp [stills, still_encC]) ?_
  have h213 := c213 (.mk kind a b mi ma pat nl kids)
  have hcall : (kdOf kind).leaf = true → ∀ s, calv U (kSize (kdOf kind)) [encC (.mk kind a b mi ma pat nl kids)] s = some (.int .i64 (leafSize (kdOf kind) (.mk kind a b mi ma pat nl kids)), s) := fun h s => size_call _ h _ s
  have hlk := lookup_kinds0 kind
  rw [show (Cond.mk kind a b mi ma pat nl kids).kind = kind from rfl, isComp_kd kind hk1] at h213
  rw [szP]
  rw [encC] at h213 hcall ⊢
  rw [kindV] at hlk
  generalize leafSize (kdOf kind) (.mk kind a b mi ma pat nl kids) = ls at *
  cases hlf : (kdOf kind).leaf
  · rw [hlf] at h213 hk2
    simp (config := { maxSteps := 2000000 }) +contextual only [go_sem, ↓reduceIte, r171, h213, lenL_encS, encL_len, noAgg_encS]
    rw [Bool.false_or] at hk2
    refine loop_to (σ := Nat × Int) (fun x => kids.length - x.1) (fun x => some (AV.int .i64 (szPL (kids.drop x.1) x.2))) (fun x e s => x.1 ≤ kids.length ∧ Env.get e 3 = .int .i64 x.2 ∧ Env.get e 17 = encS nl (encL kids) ∧ Env.get e 18 = .int .i64 kids.length ∧ Env.get e 19 = .int .i64 x.1) (0, 1) ?_ rfl ?_
    · rintro L ⟨i, acc⟩ e s ⟨hi, h3, h17, h18, h19⟩ IH
      simp only at hi h3 h17 h18 h19 IH ⊢
      by_cases hd : i < kids.length
      · have hx : (encL kids)[i]? = some (encC kids[i]) := by rw [encL_get, List.getElem?_eq_getElem hd]; rfl
        have hw := wrap_succ hd (by omega)
        have hc := ih kids[i] (List.getElem_mem hd) (f3 _ (List.getElem_mem hd)) (knownL_mem hk2 _ (List.getElem_mem hd))
        rw [encC_cells] at hx hc
        simp only [Cond.cells] at hx hc
        rw [encS_ne (encL_ne hd)] at h17
        simp +contextual only [go_sem, ↓reduceIte, r171_l0, h3, h17, h18, h19, nat_lt_dec, hd, hx, hc, c170, noAgg_encS, hw]
        rw [List.drop_eq_getElem_cons hd, szPL]
        refine IH (i + 1, lim acc (szP kids[i])) _ _ (by simp only; omega) ⟨by simp only; omega, ?_, ?_, ?_, ?_⟩ <;> simp +contextual only [go_sem, ↓reduceIte, h3, h17, h18, h19, hw, encS_ne (encL_ne hd)]
      · have : i = kids.length := by omega
        subst this
        simp +contextual only [go_sem, ↓reduceIte, r171_l0, h3, h17, h18, h19, nat_lt_dec, Nat.lt_irrefl]
        rw [List.drop_length, szPL]
    · refine ⟨Nat.zero_le _, ?_, ?_, ?_, ?_⟩ <;> simp +contextual only [go_sem, ↓reduceIte] <;> rfl
  · rw [hlf] at h213
    have hcall := hcall hlf
    simp (config := { maxSteps := 2000000 }) +contextual only [go_sem, ↓reduceIte, r171, h213, c156, hlk, noAgg_encS, hcall]
end Go.Am
set_option linter.all false
namespace Go.Am
open Go
variable [MaxLen]
set_option maxRecDepth 100000
set_option maxHeartbeats 8000000
/-! what a program that is in order is -/
theorem ckR_known (lines : Int) : ∀ (c : Cond) (d : Int), ckR lines c d = 0 → c.allKnown = true ∧ ((kdOf c.kind).leaf = true → c.kids = []) := by
  intro c
  induction c using Cond.ind with
  | h kind a b mi ma pat nl kids ih =>
  intro d h
  rw [ckR] at h
  have ne : ∀ {p : Bool} {e x : Int}, (e ≠ 0) → br p e x = 0 → p = false ∧ x = 0 := fun {p e x} he h => by
    cases p
    · exact ⟨rfl, h⟩
    · exact absurd h he
  obtain ⟨_, h⟩ := ne (by omega) h
  obtain ⟨hk, h⟩ := ne (by omega) h
  obtain ⟨hu, h⟩ := ne (by omega) h
  obtain ⟨_, h⟩ := ne (by omega) h
  obtain ⟨_, h⟩ := ne (by omega) h
  obtain ⟨_, h⟩ := ne (by omega) h
  obtain ⟨_, h⟩ := ne (by omega) h
  obtain ⟨_, h⟩ := ne (by omega) h
  obtain ⟨_, h⟩ := ne (by omega) h
  obtain ⟨_, h⟩ := ne (by omega) h
  obtain ⟨_, h⟩ := ne (by omega) h
  have hk : (kdOf kind).known = true := by simpa using hk
  have hkids : (kdOf kind).leaf = true → kids = [] := fun hl => by
    have hun : (usesOf (kdOf kind)).kids = false := by
      cases hd : kdOf kind <;> rw [hd] at hl <;> first | rfl | cases hl
    simp only [Bool.or_eq_false_iff, Bool.and_eq_false_iff, hun] at hu
    have := hu.2
    simp only [Bool.not_false, Bool.true_eq_false, decide_eq_false_iff_not, false_or] at this
    cases kids with
    | nil => rfl
    | cons c l => simp at this
  refine ⟨?_, hkids⟩
  rw [Cond.allKnown, hk, Bool.true_and]
  cases hl : (kdOf kind).leaf
  · rw [Bool.false_or]
    have : ∀ l : List Cond, (∀ x ∈ l, x ∈ kids) → ckRL lines l (IntKind.i64.wrap (d + 1)) = 0 → knownL l = true := by
      intro l
      induction l with
      | nil => intro _ _; rfl
      | cons c l ihl =>
        intro hl h
        rw [ckRL] at h
        cases hb : ckR lines c (IntKind.i64.wrap (d + 1)) != 0
        · rw [hb, br_false] at h
          rw [knownL, ihl (fun x hx => hl x (List.mem_cons_of_mem _ hx)) h, (ih c (hl c (List.mem_cons_self ..)) _ (by simpa using hb)).1]
          rfl
        · rw [hb, br_true] at h
          rw [h] at hb; cases hb
    exact this kids (fun _ h => h) h
  · rfl
theorem within_br (n a b : Int) : within n a b = br (outside n a b) 3 0 := rfl
theorem cpL_eq (lines : Int) (hl : 1 ≤ lines) (hl' : lines ≤ 16) : ∀ (l : List Step) (i : Nat), cpPL lines i l = cpRL lines i l
  | [], _ => rfl
  | s :: l, i => by
    rw [cpPL, cpRL, ck_eq lines hl hl', cpL_eq lines hl hl' l (i + 1)]
    simp only [within_br]
    generalize ckR lines s.cond 1 = c
    generalize outside s.times 1 64 = a
    generalize outside s.within 0 255 = b
    generalize ((i : Int) == 0 && s.within != 0) = d
    cases hc : c != 0
    · have : c = 0 := by simpa using hc
      subst this
      cases a <;> cases b <;> cases d <;> rfl
    · simp only [firstOf, hc, br_true]
theorem cp_eq (p : Prog) : cpP p = cpR p := by
  rw [cpP, cpR, checkLines, within_br]
  cases h : outside p.lines 1 16
  · have hl : 1 ≤ p.lines ∧ p.lines ≤ 16 := by
      simp only [outside, Bool.or_eq_false_iff, decide_eq_false_iff_not] at h; omega
    rw [cpL_eq p.lines hl.1 hl.2]
    cases h1 : ((p.steps.length : Int) == 0) <;> cases h2 : decide ((p.steps.length : Int) > 8) <;> rfl
  · rfl

/-- a program that is in order -/
structure Prog.ok (p : Prog) : Prop where
  lines : 1 ≤ p.lines ∧ p.lines ≤ 16
  ne : p.steps ≠ []
  few : p.steps.length ≤ 8
  cond : ∀ s ∈ p.steps, ckR p.lines s.cond 1 = 0
  tm : ∀ s ∈ p.steps, 1 ≤ s.times ∧ s.times ≤ 64
  wi : ∀ s ∈ p.steps, 0 ≤ s.within ∧ s.within ≤ 255
  first : ∀ s, p.steps[0]? = some s → s.within = 0
theorem Prog.ok.known {p : Prog} (h : p.ok) : ∀ s ∈ p.steps, s.cond.allKnown = true := fun s hs => (ckR_known _ _ _ (h.cond s hs)).1

/-! # Both answers are one -/

theorem tlen_pos (c : UInt8) (l : Str) : 1 ≤ tlen c l := by
  unfold tlen
  cases letter c
  · simp only [br_false]; omega
  · simp only [br_true]; omega
theorem rtk_txt (S : Str) : ∀ f i, ∀ t ∈ rtk S f i, t.txt ≠ [] ∧ t.txt.length ≤ S.length
  | 0, i, t, h => by simp [rtk] at h
  | f + 1, i, t, h => by
    rw [rtk] at h
    cases hd : S.drop i with
    | nil => rw [hd] at h; simp at h
    | cons c l =>
      rw [hd] at h
      simp only at h
      cases hc : (c == 32 || c == 10) with
      | true => rw [hc, br_true] at h; exact rtk_txt S f _ t h
      | false =>
        rw [hc, br_false] at h
        rcases List.mem_cons.1 h with rfl | h
        · have hi : i < S.length := by
            rcases Nat.lt_or_ge i S.length with h1 | h1
            · exact h1
            · rw [List.drop_eq_nil_of_le h1] at hd; cases hd
          have := tlen_pos c l
          refine ⟨fun h0 => ?_, ?_⟩
          · have := congrArg List.length h0
            simp [slc] at this
            omega
          · simp [slc]; omega
        · exact rtk_txt S f _ t h
def rlines (en : Nat) (r : Rd) : Int × Rd := rnum en (rtake en sLines r)
def rprog (en N m : Nat) (r : Rd) : Prog := ⟨(rlines en r).1, true, (rsteps en N m (rlines en r).2).1.map PS.st⟩
def rans (en N m : Nat) (r : Rd) : Prog × Int × Int :=
  br (decide ((rsteps en N m (rlines en r).2).2.bad ≥ 0)) (P0, (rsteps en N m (rlines en r).2).2.bad, 25) <| br (cpR (rprog en N m r) != 0) (P0, 0, cpR (rprog en N m r)) (rprog en N m r, 0, 0)
theorem lines_rel {en : Nat} {r p : Rd} (h : Rel en r p) : Eqv en (rlines en r) (plines p) := by
  have ht := take_word h (w := sLines) rfl
  unfold rlines plines
  rw [ht.bad]
  cases hb : decide ((rtake en sLines r).bad < 0) with
  | true => rw [br_true]; exact num_rel ht
  | false =>
    rw [decide_eq_false_iff_not] at hb
    rw [br_false, rnum_bad (by omega)]
    exact Eqv.dead ht.bad (by show 0 ≤ (rtake en sLines r).bad; omega)
theorem all_rel {en N m : Nat} {r p : Rd} (h : Rel en r p) : (psteps N m (plines p).2).2.bad = (rsteps en N m (rlines en r).2).2.bad ∧ ((rsteps en N m (rlines en r).2).2.bad < 0 → rprog en N m r = pprog N m p ∧ (rsteps en N m (rlines en r).2).1 = (psteps N m (plines p).2).1) := by
  have h1 := lines_rel h
  have h2 := steps_rel (N := N) m h1.rel
  refine ⟨h2.rel.bad, fun hb => ?_⟩
  have hb1 : (rlines en r).2.bad < 0 := by
    rcases Int.lt_or_le (rlines en r).2.bad 0 with g | g
    · exact g
    · rw [rsteps_bad m g] at hb; exact hb
  refine ⟨?_, h2.val hb⟩
  unfold rprog pprog
  rw [h1.val hb1, h2.val hb]
theorem ans_eq {en N m : Nat} {r p : Rd} (h : Rel en r p) : rans en N m r = pans N m p := by
  obtain ⟨h1, h2⟩ := all_rel (N := N) (m := m) h
  unfold rans pans
  rw [h1]
  cases hb : decide ((rsteps en N m (rlines en r).2).2.bad ≥ 0) with
  | true => rfl
  | false =>
    rw [decide_eq_false_iff_not] at hb
    obtain ⟨h3, _⟩ := h2 (by omega)
    rw [h3, cp_eq]
theorem toks_Rel (S : Str) : Rel S.length ⟨rtoks S, -1⟩ ⟨ptoks S, -1⟩ := ⟨rfl, fun _ => toks_rel S⟩
theorem call23 {s : St} {P : Nat → Prop} {D : Nat} {L : List PS} {sv : AV} {lines : Int} (k : StJ s P L sv) (hn : ∀ p ∈ L, okPS D p) (hd : 2 * D + 3 ≤ 4000) (hf : (Prog.mk lines true (L.map PS.st)).fits) :
    callK U (calV U 23 [.agg [.int .i64 lines, sv]]) 23 [.agg [.int .i64 lines, sv]] s = some (.int .i64 (cpR ⟨lines, true, L.map PS.st⟩), s) := by
  have h := c34 _ hf
  rw [encP_pr] at h
  rcases k with ⟨rfl, rfl⟩ | ⟨b, cs, h1, rfl, h3, h4, h5⟩
  · rw [ck]
    exact calV_eq h s
  · have hz := frzStJ (d := 3999) (.inr ⟨b, cs, h1, rfl, h3, h4, h5⟩ : StJ s P L _) hn (by omega)
    rw [z_of (by kernel_rfl) s (by simp [stills, still])]
    have : mapO (frz U s 4000) [AV.agg [.int .i64 lines, .sl b 0 L.length none 9]] = some [.agg [.int .i64 lines, encS true (encPS L)]] := by
      have e : frz U s 4000 (AV.agg [.int .i64 lines, .sl b 0 L.length none 9]) = (match mapO (frz U s 3999) [.int .i64 lines, .sl b 0 L.length none 9] with | some cs' => some (AV.agg cs') | none => none) := rfl
      rw [mapO_cons, mapO_nil, e, mapO_cons, mapO_cons, mapO_nil, hz]
      rfl
    rw [this]
    exact cz_of h (by kernel_rfl) (by rw [← encP_pr]; simp [stills, still_encP]) rfl s
/-! # Parse, the reference's -/

theorem encS_cells (l : List AV) : (encS true l).cells = [encS true l] := cells_encS _ _
theorem c1010 {S : Str} (hS : S.length ≤ 300) : calV U 10 [.str S] = some (encPA (rans S.length 1300 700 ⟨rtoks S, -1⟩)) := by
  refine pure_go k1010 (by kernel_rfl) rfl ?_
  have hl : decide ((S.length : Int) > 4096) = false := decide_eq_false (by omega)
  have hlen : (rtoks S).length ≤ S.length + 1 := rtk_len S _ _
  have htx := rtk_txt S (S.length + 1) 0
  have h48 := c1048 (S := S) (by omega)
  obtain ⟨s0, hs0⟩ : ∃ s0, s0 = ((ownSt U).new (.cells [.int .i64 0, .nils] 31 false 0 0)).new (.cells [encS true ((rtoks S).map encT), .int .i64 S.length, .int .i64 (-1)] 101 false 0 0) := ⟨_, rfl⟩
  have fr0 : Fr s0 := by rw [hs0]; exact (Fr.own.new _).new _
  have in0 : InR s0 9 S.length ⟨rtoks S, -1⟩ := by
    refine ⟨⟨encS true ((rtoks S).map encT), by rw [hs0]; simp +contextual only [go_sem, ↓reduceIte], ?_⟩, by rw [hs0]; simp +contextual only [go_sem, ↓reduceIte], by show (rtoks S).length < 2 ^ 30; omega, fun t ht => (htx t ht).1⟩
    show (rtoks S = [] ∧ _) ∨ _
    cases hr : rtoks S with
    | nil => exact .inl ⟨rfl, rfl⟩
    | cons t l => exact .inr rfl
  have tx0 : Tx ⟨rtoks S, -1⟩ := fun t ht => by have := (htx t ht).2; omega
  have n0 : s0.next = 10 := by rw [hs0]; rfl
  have g80 : s0.get 8 = some (.cells [.int .i64 0, .nils] 31 false 0 0) := by rw [hs0]; simp +contextual only [go_sem, ↓reduceIte]
  -- the loop's own cells
  have frA : Frm 9 s0 (s0.new (.cells [.int .i64 0, .nils] 31 false 0 0)) := (Frm.refl fr0).new _
  have inA : InR (s0.new (.cells [.int .i64 0, .nils] 31 false 0 0)) 9 S.length ⟨rtoks S, -1⟩ := in0.mono (by rw [next_new]; omega) (by rw [get_new, if_neg (by omega)])
  have gA : (s0.new (.cells [.int .i64 0, .nils] 31 false 0 0)).get 10 = some (.cells [.int .i64 0, .nils] 31 false 0 0) := by rw [get_new, if_pos n0]
  obtain ⟨v1, s1, p1, p2, p3⟩ := c1049 inA frA.fr sLines
  have tx1 : Tx (rtake S.length sLines ⟨rtoks S, -1⟩) := tx0.sf (sr_take _ _ _)
  have len1 := (sr_take S.length sLines ⟨rtoks S, -1⟩).length_le
  obtain ⟨s2, d1, d2, d3⟩ := c1050 p2 p3.fr (fun t ht => by have := tx1 t ht; omega)
  have len2 := (sr_num S.length (rtake S.length sLines ⟨rtoks S, -1⟩)).length_le
  have tx2 : Tx (rlines S.length ⟨rtoks S, -1⟩).2 := tx1.sf (sr_num _ _)
  have hrl : rnum S.length (rtake S.length sLines ⟨rtoks S, -1⟩) = rlines S.length ⟨rtoks S, -1⟩ := rfl
  rw [hrl] at d1 d2 len2
  have frB := (frA.trans p3).trans d3
  have nA : (s0.new (.cells [.int .i64 0, .nils] 31 false 0 0)).next = 11 := by rw [next_new, n0]
  have n1 := p3.next
  have n2 := d3.next
  have g102 : s2.get 10 = some (.cells [.int .i64 0, .nils] 31 false 0 0) := by rw [d3.get 10 (by omega) (by omega), p3.get 10 (by omega) (by omega)]; exact gA
  have g82 : s2.get 8 = some (.cells [.int .i64 0, .nils] 31 false 0 0) := by rw [frB.get 8 (by omega) (by omega)]; exact g80
  obtain ⟨s3, hs3⟩ : ∃ s3, s3 = s2.put 10 (.cells [.int .i64 (rlines S.length ⟨rtoks S, -1⟩).1, .nils] 31 false 0 0) := ⟨_, rfl⟩
  have frC : Frm 9 s0 s3 := by rw [hs3]; exact frB.put _ (.inr (by omega)) (by omega)
  have inC : InR s3 9 S.length (rlines S.length ⟨rtoks S, -1⟩).2 := d2.mono (by rw [hs3, next_put]; omega) (by rw [hs3, get_put, if_neg (by omega)])
  obtain ⟨v4, s4, q1, q2, q3⟩ := c1049 inC frC.fr [59]
  have n3 : s3.next = s2.next := by rw [hs3, next_put]
  have n4 := q3.next
  have g104 : s4.get 10 = some (.cells [.int .i64 (rlines S.length ⟨rtoks S, -1⟩).1, .nils] 31 false 0 0) := by rw [q3.get 10 (by omega) (by omega), hs3, get_put, if_pos rfl]
  have g84 : s4.get 8 = some (.cells [.int .i64 0, .nils] 31 false 0 0) := by rw [q3.get 8 (by omega) (by omega), hs3, get_put, if_neg (by omega)]; exact g82
  simp only [sLines] at p1
  rw [hs0] at p1
  rw [hs3] at q1
  simp (config := { maxSteps := 2000000 }) +contextual only [go_sem, ↓reduceIte, r1010, hl, h48, encS_cells, noAgg_encS, ck, p1, d1, g102, q1]
  refine l1010 (Post := fun x => x = some (encPA (rans S.length 1300 700 ⟨rtoks S, -1⟩))) (S0 := s0) (R := 9) (en := S.length) (c6 := 10) (lo := s4.next) (m := 700) (N := 1300) (lines := (rlines S.length ⟨rtoks S, -1⟩).1) (r0 := (rlines S.length ⟨rtoks S, -1⟩).2) (X := rsteps S.length 1300 700 (rlines S.length ⟨rtoks S, -1⟩).2)
    (by have := len1; have := len2; show _ < 700; have h9 : (rtoks S).length = (Rd.mk (rtoks S) (-1)).l.length := rfl; omega) (by have h9 : (rtoks S).length = (Rd.mk (rtoks S) (-1)).l.length := rfl; omega) (by have h9 : (rtoks S).length = (Rd.mk (rtoks S) (-1)).l.length := rfl; omega)
    ⟨q2, frC.trans q3, tx2.sf (sr_take _ _ _), ⟨by omega, by omega, Nat.le_refl _, by omega⟩, g104, RowI.nil _ _ _ _, .nil, ?_, ?_, rfl, fun x c h _ _ _ => h⟩ rfl ?_
  any_goals (simp +contextual only [go_sem, ↓reduceIte]; done)
  rintro e s5 cs sv ⟨i5, f5, t5, ⟨_, _, lo5, _⟩, hc5, row5, sc5, w5, w6, w2, hs5⟩
  obtain ⟨hbad, hval⟩ := all_rel (N := 1300) (m := 700) (toks_Rel S)
  have h85 := hs5 8 _ g84 (by omega) (by omega) (by omega)
  have fr5 := f5.fr
  have hfk := fr5.at
  obtain ⟨g8', g8''⟩ := get8 (s := s5) (by omega)
  simp +contextual only [go_sem, ↓reduceIte] at w2
  generalize hX : rsteps S.length 1300 700 (rlines S.length ⟨rtoks S, -1⟩).2 = X at *
  have st4 : StJ s5 (fun j => s0.next ≤ j ∧ j ≠ 8) X.1 sv := by
    rcases row5 with ⟨h0, rfl, rfl⟩ | ⟨h0, h1, bb, h4, h5, rfl, h6⟩
    · exact .inl ⟨List.length_eq_zero_iff.1 h0, rfl⟩
    · exact .inr ⟨bb, cs, by intro h; rw [h] at h0; simp at h0, rfl, ⟨by omega, by omega⟩, h6, sc5.mono fun j c g1 g2 => ⟨⟨by have := g1.1; omega, by have := g1.1; omega⟩, g2⟩⟩
  have hna := st4.noAgg
  have hcl := st4.cells
  have hR : ∃ vl, s5.get 9 = some (.cells [vl, .int .i64 S.length, .int .i64 X.2.bad] 101 false 0 0) := by obtain ⟨⟨vl, h, _⟩, _⟩ := i5; exact ⟨vl, h⟩
  obtain ⟨vl, hR⟩ := hR
  cases hb : decide (X.2.bad ≥ 0) with
  | true =>
    have hA : rans S.length 1300 700 ⟨rtoks S, -1⟩ = (P0, X.2.bad, 25) := by rw [rans, hX, hb, br_true]
    rw [hA]
    simp (config := { maxSteps := 2000000 }) +contextual only [go_sem, ↓reduceIte, w5, w6, w2, h85, hna, hcl, hR, g8', g8'', hb, go_drcU d1010_0, hfk]
    rfl
  | false =>
    rw [decide_eq_false_iff_not] at hb
    obtain ⟨hv1, hv2⟩ := hval (by omega)
    have gd := ptoks_gd S (by omega) (-1)
    have ok : ∀ p ∈ X.1, okPS 1301 p := by rw [hv2]; exact psteps_ok 1300 700 _
    have hfit : (Prog.mk (rlines S.length ⟨rtoks S, -1⟩).1 true (X.1.map PS.st)).fits := by
      have := psteps_fits (N := 1300) (by omega) 700 (plines ⟨ptoks S, -1⟩).2 (gd.sf (sf_plines _))
      rw [← hv2] at this
      refine ⟨by show (List.map PS.st _).length < 2 ^ 30; rw [List.length_map]; omega, fun x hx => ?_⟩
      obtain ⟨p, h1, rfl⟩ := List.mem_map.1 hx
      exact this.2 p h1
    have hb : decide (X.2.bad ≥ 0) = false := by rw [decide_eq_false_iff_not]; exact hb
    have hc := call23 st4 ok (by omega) hfit
    have st6 : StJ (s5.put 8 (.cells [.int .i64 (rlines S.length ⟨rtoks S, -1⟩).1, sv] 31 false 0 0)) (fun _ => True) X.1 sv :=
      st4.mono fun j c hj h => ⟨trivial, by rw [get_put, if_neg (by omega)]; exact h⟩
    have hz := frzStJ (d := 3998) st6 ok (by omega)
    simp (config := { maxSteps := 2000000 }) +contextual only [go_sem, ↓reduceIte, w5, w6, w2, hc5, h85, hna, hcl, hR, g8', g8'', hb, hfk, hc, hz]
    rw [rans, hX, hb, br_false]
    unfold rprog
    rw [hX]
    cases cpR ⟨(rlines S.length ⟨rtoks S, -1⟩).1, true, X.1.map PS.st⟩ != 0
    · simp only [br_false, encPA, encP_pr]
    · rfl
theorem c1010l {S : Str} (hS : 4096 < S.length) : calV U 10 [.str S] = some (encPA (P0, 0, 26)) := by
  refine pure_go k1010 (by kernel_rfl) rfl ?_
  have hl : decide ((S.length : Int) > 4096) = true := decide_eq_true (by omega)
  simp (config := { maxSteps := 2000000 }) +contextual only [go_sem, ↓reduceIte, r1010, hl]
  rfl
/-! # The law's own copy of a program -/

theorem c1054 : ∀ c : Cond, c.fits → calV U 54 [encC c] = some (encC c.norm) := by
  intro c
  induction c using Cond.ind with
  | h kind a b mi ma pat nl kids ih =>
  intro hf
  rw [Cond.fits] at hf
  obtain ⟨f1, f2, f3⟩ := hf
  refine pure_go k1054 (by kernel_rfl) (by simp [stills, still_encC]) ?_
  rw [encC, Cond.norm]
  simp (config := { maxSteps := 2000000 }) +contextual only [go_sem, ↓reduceIte, r1054, lenL_encS, encL_len, cells_encS, noAgg_encS]
  refine loop_to (σ := Nat) (fun i => kids.length - i) (fun i => some (encC (.mk kind a b mi ma pat true (normL kids)))) (fun i e s => i ≤ kids.length ∧ Env.get e 1 = .ptr 8 0 ∧ Env.get e 2 = .ptr 9 0 ∧ Env.get e 3 = .ptr 10 0 ∧ Env.get e 4 = .int .i64 i ∧ 10 < s.next ∧ Fr s ∧
    s.get 8 = some (.cells [.str kind, .int .i64 a, .int .i64 b, .int .i64 mi, .int .i64 ma, .str pat, encS nl (encL kids)] 78 false 0 0) ∧ s.get 9 = some (.cells [.str [], .int .i64 0, .int .i64 0, .int .i64 0, .int .i64 0, .str [], .nils] 106 false 0 0) ∧
    ∃ v, s.get 10 = some (.cells [.str kind, .int .i64 a, .int .i64 b, .int .i64 mi, .int .i64 ma, .str pat, v] 106 false 0 0) ∧ RowI s 11 106 7 i ((kids.take i).flatMap fun c => (encC c.norm).cells) v) 0 ?_ rfl ?_
  · rintro L i e s ⟨hi, h1, h2, h3, h4, hn, hfr, hs8, hs9, v, hs10, hv⟩ IH
    have ne : ∀ a k, a ≤ 10 → (s.next + k = a) = False := fun a k ha => by simp; omega
    have ne' : ∀ a, a ≤ 10 → (s.next = a) = False := fun a ha => by simp; omega
    have hfk := hfr.at
    by_cases hd : i < kids.length
    · have hx : (encL kids)[i]? = some (encC kids[i]) := by rw [encL_get, List.getElem?_eq_getElem hd]; rfl
      have hw := wrap_succ hd (by omega)
      have hc := ih kids[i] (List.getElem_mem hd) (f3 _ (List.getElem_mem hd))
      rw [encC_cells] at hc
      rw [encC_cells] at hx hc
      simp only [Cond.cells] at hx hc
      rw [encS_ne (encL_ne hd)] at hs8
      have hb1 : (i + 1) * 88 ≤ 1099511627776 := by omega
      have hb2 : i + 1 ≤ 1099511627776 := by omega
      have htk : (kids.take (i + 1)).flatMap (fun c => (encC c.norm).cells) = (kids.take i).flatMap (fun c => (encC c.norm).cells) ++ kids[i].norm.cells := by
        rw [List.take_succ_eq_append_getElem hd, List.flatMap_append, List.flatMap_singleton, encC_cells]; rfl
      simp only [Cond.cells] at htk
      have hla := hv.lenA
      have hna := hv.noAgg
      simp +contextual only [go_sem, ↓reduceIte, r1054_l0, h1, h2, h3, h4, hs8, hs9, hs10, nat_lt_dec, hd, encL_len, hx, hc, ne, ne', noAgg_encS, hfk, appK_some, Nat.reducePow, Nat.one_mul, hla, hna, hb1, hb2]
      have hv0 : RowI ((s.upto (s.next + 12)).put (s.next + 8) (.cells kids[i].norm.cells 106 false 0 0)) 11 106 7 i ((kids.take i).flatMap fun c => (encC c.norm).cells) v := hv.mono (by rw [next_put, upto_next]; omega) fun j _ hj => by rw [get_put, upto_get, if_neg (by omega)]
      obtain ⟨s1, e1, e2, e3, e4, e5⟩ := hv0.app (by rw [next_put, upto_next]; omega) (m := 1) (new := kids[i].norm.cells) (by omega) (by rfl) (by simp only [Cond.cells, go_sem, noAgg_encS])
      simp only [Cond.cells] at e1 e3 e4 e5
      have k8 := e4 8 (by omega)
      have k9 := e4 9 (by omega)
      have k10 := e4 10 (by omega)
      simp only [get_put, upto_get, ne, ↓reduceIte, hs8, hs9, hs10, Nat.reduceLeDiff, next_put, upto_next] at k8 k9 k10 e2
      rw [e1]
      simp +contextual only [go_sem, ↓reduceIte, h3, k10, noAgg_encS, hw, h4]
      refine IH (i + 1) _ _ (by omega) ⟨by omega, ?_, ?_, ?_, ?_, ?_, ?_, ?_, ?_, .sl (s.next + 12) 0 (i + 1) none 7, ?_, ?_⟩
      case refine_10 =>
        rw [htk]
        exact e3.mono (by rw [next_put]; omega) fun j hj _ => by rw [get_put, if_neg (by omega)]
      case refine_9 => rw [get_put, if_pos rfl]
      case refine_6 =>
        refine (e5 ?_).put (by omega) _
        exact (hfr.upto (by omega)).put (by rw [upto_next]; omega) _
      all_goals simp +contextual only [go_sem, ↓reduceIte, h1, h2, h3, k8, k9, e2, encS_ne (encL_ne hd), Nat.reduceEqDiff]
      all_goals omega
    · have : i = kids.length := by omega
      subst this
      rw [List.take_length] at hv
      have hv1 : ∀ x, RowI (s.put 9 x) 11 106 7 (kids.map Cond.norm).length ((kids.map Cond.norm).flatMap fun c => (encC c).cells) v := fun x => by
        rw [List.length_map, List.flatMap_map]
        exact hv.mono (by rw [next_put]; omega) fun j hj _ => by rw [get_put, if_neg (by omega)]
      have hfz : ∀ x d, frz U (s.put 9 x) (d + 3) v = some (encS true (encL (normL kids))) := fun x d => by
        rw [(hv1 x).frz_agg U agJ szJ (by omega) encC_agg (d := d + 2) (fun a => frz_encC _ _ _), encL_map, normL_map]
      have hna := hv.noAgg
      simp +contextual only [go_sem, ↓reduceIte, r1054_l0, h1, h2, h3, h4, hs8, hs9, hs10, nat_lt_dec, Nat.lt_irrefl, lenL_encS, encL_len, hna, hfz]
      rw [encC]
  · refine ⟨Nat.zero_le _, ?_, ?_, ?_, ?_, ?_, ?_, ?_, ?_, .nils, ?_, RowI.nil _ _ _ _⟩
    case refine_6 =>
      repeat first | exact Fr.own | apply Fr.new | apply Fr.put | apply Fr.upto
      all_goals simp +contextual only [go_sem, ↓reduceIte]
    all_goals simp +contextual only [go_sem, ↓reduceIte]
    all_goals rfl
theorem c1012 (p : Prog) (hf : p.fits) : calV U 12 [encP p] = some (encP p.norm) := by
  obtain ⟨lines, nl, steps⟩ := p
  obtain ⟨f1, f2⟩ := hf
  simp only at f1 f2
  refine pure_go k1012 (by kernel_rfl) (by simp [stills, still_encP]) ?_
  rw [encP_eq, Prog.norm, encP_eq]
  simp (config := { maxSteps := 2000000 }) +contextual only [go_sem, ↓reduceIte, r1012, lenL_encS, encSteps_len, cells_encS, noAgg_encS]
  refine loop_to (σ := Nat) (fun i => steps.length - i) (fun i => some (.agg [.int .i64 lines, encS true (encSteps (steps.map Step.norm))])) (fun i e s => i ≤ steps.length ∧ Env.get e 1 = .ptr 8 0 ∧ Env.get e 2 = .ptr 9 0 ∧ Env.get e 3 = .ptr 10 0 ∧ Env.get e 4 = .int .i64 i ∧ 10 < s.next ∧ Fr s ∧
    s.get 8 = some (.cells [.int .i64 lines, encS nl (encSteps steps)] 25 false 0 0) ∧ s.get 9 = some (.cells [.int .i64 0, .nils] 31 false 0 0) ∧
    ∃ v, s.get 10 = some (.cells [.int .i64 lines, v] 31 false 0 0) ∧ RowI s 11 109 9 i ((steps.take i).flatMap fun c => (encStep c.norm).cells) v) 0 ?_ rfl ?_
  · rintro L i e s ⟨hi, h1, h2, h3, h4, hn, hfr, hs8, hs9, v, hs10, hv⟩ IH
    have ne : ∀ a k, a ≤ 10 → (s.next + k = a) = False := fun a k ha => by simp; omega
    have ne' : ∀ a, a ≤ 10 → (s.next = a) = False := fun a ha => by simp; omega
    have hfk := hfr.at
    by_cases hd : i < steps.length
    · have hx : (encSteps steps)[i]? = some (encStep steps[i]) := by rw [encSteps_get, List.getElem?_eq_getElem hd]; rfl
      have hw := wrap_succ hd (by omega)
      have hc := c1054 steps[i].cond (f2 _ (List.getElem_mem hd))
      rw [encC_cells, encC_cells] at hc
      simp only [Cond.cells, encStep] at hx hc
      rw [encS_ne (encSteps_ne hd)] at hs8
      have hb1 : (i + 1) * 104 ≤ 1099511627776 := by omega
      have hb2 : i + 1 ≤ 1099511627776 := by omega
      have htk : (steps.take (i + 1)).flatMap (fun c => (encStep c.norm).cells) = (steps.take i).flatMap (fun c => (encStep c.norm).cells) ++ steps[i].norm.cells9 := by
        rw [List.take_succ_eq_append_getElem hd, List.flatMap_append, List.flatMap_singleton]; rfl
      have hla := hv.lenA
      have hna := hv.noAgg
      simp +contextual only [go_sem, ↓reduceIte, r1012_l0, h1, h2, h3, h4, hs8, hs9, hs10, nat_lt_dec, hd, encSteps_len, hx, hc, ne, ne', noAgg_encS, hfk, appK_some, Nat.reducePow, Nat.one_mul, hla, hna, hb1, hb2]
      have hv0 : RowI ((s.upto (s.next + 26)).put (s.next + 22) (.cells steps[i].norm.cells9 109 false 0 0)) 11 109 9 i ((steps.take i).flatMap fun c => (encStep c.norm).cells) v := hv.mono (by rw [next_put, upto_next]; omega) fun j _ hj => by rw [get_put, upto_get, if_neg (by omega)]
      obtain ⟨s1, e1, e2, e3, e4, e5⟩ := hv0.app (by rw [next_put, upto_next]; omega) (m := 1) (new := steps[i].norm.cells9) (by omega) (by rfl) (by simp only [Step.cells9, go_sem, noAgg_encS])
      simp only [Step.cells9, Step.norm] at e1 e3 e4 e5
      have k8 := e4 8 (by omega)
      have k9 := e4 9 (by omega)
      have k10 := e4 10 (by omega)
      simp only [get_put, upto_get, ne, ↓reduceIte, hs8, hs9, hs10, Nat.reduceLeDiff, next_put, upto_next] at k8 k9 k10 e2
      rw [e1]
      simp +contextual only [go_sem, ↓reduceIte, h3, k10, noAgg_encS, hw, h4]
      refine IH (i + 1) _ _ (by omega) ⟨by omega, ?_, ?_, ?_, ?_, ?_, ?_, ?_, ?_, .sl (s.next + 26) 0 (i + 1) none 9, ?_, ?_⟩
      case refine_10 =>
        rw [htk]
        exact e3.mono (by rw [next_put]; omega) fun j hj _ => by rw [get_put, if_neg (by omega)]
      case refine_9 => rw [get_put, if_pos rfl]
      case refine_6 =>
        refine (e5 ?_).put (by omega) _
        exact (hfr.upto (by omega)).put (by rw [upto_next]; omega) _
      all_goals simp +contextual only [go_sem, ↓reduceIte, h1, h2, h3, k8, k9, e2, encS_ne (encSteps_ne hd), Nat.reduceEqDiff]
      all_goals omega
    · have : i = steps.length := by omega
      subst this
      rw [List.take_length] at hv
      have hv1 : ∀ x, RowI (s.put 9 x) 11 109 9 (steps.map Step.norm).length ((steps.map Step.norm).flatMap fun c => (encStep c).cells) v := fun x => by
        rw [List.length_map, List.flatMap_map]
        exact hv.mono (by rw [next_put]; omega) fun j hj _ => by rw [get_put, if_neg (by omega)]
      have hfz : ∀ x d, frz U (s.put 9 x) (d + 3) v = some (encS true (encSteps (steps.map Step.norm))) := fun x d => by
        rw [(hv1 x).frz_agg U ag109 sz109 (by omega) encStep_agg (d := d + 2) (fun a => frz_encStep _ _ _)]; rfl
      have hna := hv.noAgg
      simp +contextual only [go_sem, ↓reduceIte, r1012_l0, h1, h2, h3, h4, hs8, hs9, hs10, nat_lt_dec, Nat.lt_irrefl, lenL_encS, encSteps_len, hna, hfz]
  · refine ⟨Nat.zero_le _, ?_, ?_, ?_, ?_, ?_, ?_, ?_, ?_, .nils, ?_, RowI.nil _ _ _ _⟩
    case refine_6 =>
      repeat first | exact Fr.own | apply Fr.new | apply Fr.put | apply Fr.upto
      all_goals simp +contextual only [go_sem, ↓reduceIte]
    all_goals simp +contextual only [go_sem, ↓reduceIte]
    all_goals rfl
/-! # A program is like itself -/

theorem int_nn (n : Int) : (n != n) = false := by simp
theorem str_nn (n : Str) : (n != n) = false := by simp
theorem c1053 : ∀ c : Cond, c.fits → calV U 53 [encC c, encC c] = some (.bool true) := by
  intro c
  induction c using Cond.ind with
  | h kind a b mi ma pat nl kids ih =>
  intro hf
  rw [Cond.fits] at hf
  obtain ⟨f1, f2, f3⟩ := hf
  refine pure_go k1053 (by kernel_rfl) (by simp [stills, still_encC]) ?_
  rw [encC]
  simp (config := { maxSteps := 2000000 }) +contextual only [go_sem, ↓reduceIte, r1053, lenL_encS, encL_len, cells_encS, noAgg_encS, int_nn, str_nn, beq_self_eq_true, Bool.not_true, gateV_true, gateR_true, gateC_true, gateV_false, gateR_false, gateC_false]
  refine loop_to (σ := Nat) (fun i => kids.length - i) (fun i => some (AV.bool true)) (fun i e s => i ≤ kids.length ∧ Env.get e 2 = .ptr 8 0 ∧ Env.get e 3 = .ptr 9 0 ∧ Env.get e 5 = .int .i64 i ∧ Fr s ∧ 9 < s.next ∧
    s.get 8 = some (.cells [.str kind, .int .i64 a, .int .i64 b, .int .i64 mi, .int .i64 ma, .str pat, encS nl (encL kids)] 106 false 0 0) ∧ s.get 9 = some (.cells [.str kind, .int .i64 a, .int .i64 b, .int .i64 mi, .int .i64 ma, .str pat, encS nl (encL kids)] 106 false 0 0)) 0 ?_ rfl ?_
  · rintro L i e s ⟨hi, h2, h3, h5, hfr, hn, hs8, hs9⟩ IH
    have hfk := hfr.at
    by_cases hd : i < kids.length
    · have hx : (encL kids)[i]? = some (encC kids[i]) := by rw [encL_get, List.getElem?_eq_getElem hd]; rfl
      have hw := wrap_succ hd (by omega)
      have hc := ih kids[i] (List.getElem_mem hd) (f3 _ (List.getElem_mem hd))
      rw [encC_cells] at hc hx
      simp only [Cond.cells] at hx hc
      rw [encS_ne (encL_ne hd)] at hs8 hs9
      simp (config := { maxSteps := 2000000 }) +contextual only [go_sem, ↓reduceIte, r1053_l0, h2, h3, h5, hs8, hs9, nat_lt_dec, hd, encL_len, hx, hc, noAgg_encS, hfk]
      refine IH (i + 1) _ _ (by omega) ⟨by omega, ?_, ?_, ?_, ?_, ?_, ?_, ?_⟩
      case refine_4 =>
        repeat first | exact hfr | apply Fr.new | apply Fr.put | apply Fr.upto
        all_goals omega
      all_goals simp +contextual only [go_sem, ↓reduceIte, h2, h3, h5, hs8, hs9, hw, encS_ne (encL_ne hd)]
      all_goals omega
    · have : i = kids.length := by omega
      subst this
      simp +contextual only [go_sem, ↓reduceIte, r1053_l0, h2, h3, h5, hs8, hs9, nat_lt_dec, Nat.lt_irrefl, lenL_encS, encL_len]
  · refine ⟨Nat.zero_le _, ?_, ?_, ?_, ?_, ?_, ?_, ?_⟩
    case refine_4 =>
      repeat first | exact Fr.own | apply Fr.new | apply Fr.put | apply Fr.upto
    all_goals simp +contextual only [go_sem, ↓reduceIte]
    all_goals rfl
theorem c1011 (p : Prog) (hf : p.fits) : calV U 11 [encP p, encP p] = some (.bool true) := by
  obtain ⟨lines, nl, steps⟩ := p
  obtain ⟨f1, f2⟩ := hf
  simp only at f1 f2
  refine pure_go k1011 (by kernel_rfl) (by simp [stills, still_encP]) ?_
  rw [encP_eq]
  simp (config := { maxSteps := 2000000 }) +contextual only [go_sem, ↓reduceIte, r1011, lenL_encS, encSteps_len, cells_encS, noAgg_encS, int_nn, str_nn, beq_self_eq_true, Bool.not_true, gateV_true, gateR_true, gateC_true, gateV_false, gateR_false, gateC_false]
  refine loop_to (σ := Nat) (fun i => steps.length - i) (fun i => some (AV.bool true)) (fun i e s => i ≤ steps.length ∧ Env.get e 2 = .ptr 8 0 ∧ Env.get e 3 = .ptr 9 0 ∧ Env.get e 5 = .int .i64 i ∧ Fr s ∧ 9 < s.next ∧
    s.get 8 = some (.cells [.int .i64 lines, encS nl (encSteps steps)] 31 false 0 0) ∧ s.get 9 = some (.cells [.int .i64 lines, encS nl (encSteps steps)] 31 false 0 0)) 0 ?_ rfl ?_
  · rintro L i e s ⟨hi, h2, h3, h5, hfr, hn, hs8, hs9⟩ IH
    have hfk := hfr.at
    by_cases hd : i < steps.length
    · have hx : (encSteps steps)[i]? = some (encStep steps[i]) := by rw [encSteps_get, List.getElem?_eq_getElem hd]; rfl
      have hw := wrap_succ hd (by omega)
      have hc := c1053 steps[i].cond (f2 _ (List.getElem_mem hd))
      rw [encC_cells] at hc
      simp only [Cond.cells, encStep] at hx hc
      rw [encS_ne (encSteps_ne hd)] at hs8 hs9
      simp (config := { maxSteps := 2000000 }) +contextual only [go_sem, ↓reduceIte, r1011_l0, h2, h3, h5, hs8, hs9, nat_lt_dec, hd, encSteps_len, hx, hc, noAgg_encS, hfk, int_nn, str_nn, beq_self_eq_true, Bool.not_true, gateV_true, gateR_true, gateC_true, gateV_false, gateR_false, gateC_false]
      refine IH (i + 1) _ _ (by omega) ⟨by omega, ?_, ?_, ?_, ?_, ?_, ?_, ?_⟩
      case refine_4 =>
        repeat first | exact hfr | apply Fr.new | apply Fr.put | apply Fr.upto
        all_goals omega
      all_goals simp +contextual only [go_sem, ↓reduceIte, h2, h3, h5, hs8, hs9, hw, encS_ne (encSteps_ne hd)]
      all_goals omega
    · have : i = steps.length := by omega
      subst this
      simp +contextual only [go_sem, ↓reduceIte, r1011_l0, h2, h3, h5, hs8, hs9, nat_lt_dec, Nat.lt_irrefl, lenL_encS, encSteps_len]
  · refine ⟨Nat.zero_le _, ?_, ?_, ?_, ?_, ?_, ?_, ?_⟩
    case refine_4 =>
      repeat first | exact Fr.own | apply Fr.new | apply Fr.put | apply Fr.upto
    all_goals simp +contextual only [go_sem, ↓reduceIte]
    all_goals rfl
end Go.Am
