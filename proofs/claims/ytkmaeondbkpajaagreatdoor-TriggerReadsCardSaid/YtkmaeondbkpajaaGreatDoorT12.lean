/- A part of the proof of a statement of this seat: the machine on which the program is read, and what it computes; for every input. -/
import Derived.Test.YtkmaeondbkpajaaGreatDoorT11
import Derived.Test.YtkmaeondbkpajaaGreatDoorT09
import Derived.Test.YtkmaeondbkpajaaGreatDoorT05
import Derived.Test.YtkmaeondbkpajaaGreatDoorT10
set_option linter.all false
set_option linter.all false
namespace Go.Am
open Go
variable [MaxLen]
set_option maxRecDepth 100000
set_option maxHeartbeats 8000000
mutual
def Cond.norm : Cond → Cond
  | .mk k a b mi ma p _ kids => .mk k a b mi ma p true (normL kids)
def normL : List Cond → List Cond
  | [] => []
  | c :: l => c.norm :: normL l
end
theorem normL_map : ∀ l, normL l = l.map Cond.norm
  | [] => by simp [normL]
  | c :: l => by simp [normL, normL_map l]
theorem encC_agg (c : Cond) : ∃ l, encC c = .agg l ∧ l.length = 7 := ⟨_, encC_cells c, rfl⟩
theorem frz_encC (s : St) (d : Nat) (c : Cond) : frz U s (d + 2) (encC c) = some (encC c) := by
  rw [encC_cells]
  simp only [Cond.cells, frz_agg, mapO_cons, mapO_nil, frz_str, frz_int, frz_encS, resK_some, aggK_some]
theorem c24 : ∀ c : Cond, c.fits → calV U 82 [encC c] = some (encC c.norm) := by
  intro c
  induction c using Cond.ind with
  | h kind a b mi ma pat nl kids ih =>
  intro hf
  rw [Cond.fits] at hf
  obtain ⟨f1, f2, f3⟩ := hf
  refine pure_go k24 (by kernel_rfl) (by simp [stills, still_encC]) ?_
  rw [encC, Cond.norm]
  simp (config := { maxSteps := 2000000 }) +contextual only [go_sem, ↓reduceIte, r24, lenL_encS, encL_len, cells_encS, noAgg_encS]
  refine loop_to (σ := Nat) (fun i => kids.length - i) (fun i => some (encC (.mk kind a b mi ma pat true (normL kids)))) (fun i e s => i ≤ kids.length ∧ Env.get e 1 = .ptr 8 0 ∧ Env.get e 2 = .ptr 9 0 ∧ Env.get e 3 = .ptr 10 0 ∧ Env.get e 4 = .int .i64 i ∧ 10 < s.next ∧ Fr s ∧
    s.get 8 = some (.cells [.str kind, .int .i64 a, .int .i64 b, .int .i64 mi, .int .i64 ma, .str pat, encS nl (encL kids)] 106 false 0 0) ∧ s.get 9 = some (.cells [.str [], .int .i64 0, .int .i64 0, .int .i64 0, .int .i64 0, .str [], .nils] 78 false 0 0) ∧
    ∃ v, s.get 10 = some (.cells [.str kind, .int .i64 a, .int .i64 b, .int .i64 mi, .int .i64 ma, .str pat, v] 78 false 0 0) ∧ RowI s 11 78 7 i ((kids.take i).flatMap fun c => (encC c.norm).cells) v) 0 ?_ rfl ?_
  · rintro L i e s ⟨hi, h1, h2, h3, h4, hn, hfr, hs8, hs9, v, hs10, hv⟩ IH
    have ne : ∀ a k, a ≤ 10 → (s.next + k = a) = False := fun a k ha => by simp; omega
    have ne' : ∀ a, a ≤ 10 → (s.next = a) = False := fun a ha => by simp; omega
    have hfk := hfr.at
    by_cases hd : i < kids.length
    · have hx : (encL kids)[i]? = some (encC kids[i]) := by rw [encL_get, List.getElem?_eq_getElem hd]; rfl
      have hw := wrap_succ hd (by omega)
      have hc := ih kids[i] (List.getElem_mem hd) (f3 _ (List.getElem_mem hd))
      rw [encC_cells] at hc
      rw [encC_cells] at hx hc
      simp only [Cond.cells] at hx hc
      rw [encS_ne (encL_ne hd)] at hs8
      have hb1 : (i + 1) * 88 ≤ 1099511627776 := by omega
      have hb2 : i + 1 ≤ 1099511627776 := by omega
      have htk : (kids.take (i + 1)).flatMap (fun c => (encC c.norm).cells) = (kids.take i).flatMap (fun c => (encC c.norm).cells) ++ kids[i].norm.cells := by
        rw [List.take_succ_eq_append_getElem hd, List.flatMap_append, List.flatMap_singleton, encC_cells]; rfl
      simp only [Cond.cells] at htk
      have hla := hv.lenA
      have hna := hv.noAgg
      simp +contextual only [go_sem, ↓reduceIte, r24_l0, h1, h2, h3, h4, hs8, hs9, hs10, nat_lt_dec, hd, encL_len, hx, hc, ne, ne', noAgg_encS, hfk, appK_some, Nat.reducePow, Nat.one_mul, hla, hna, hb1, hb2]
      have hv0 : RowI ((s.upto (s.next + 12)).put (s.next + 8) (.cells kids[i].norm.cells 78 false 0 0)) 11 78 7 i ((kids.take i).flatMap fun c => (encC c.norm).cells) v := hv.mono (by rw [next_put, upto_next]; omega) fun j _ hj => by rw [get_put, upto_get, if_neg (by omega)]
      obtain ⟨s1, e1, e2, e3, e4, e5⟩ := hv0.app (by rw [next_put, upto_next]; omega) (m := 1) (new := kids[i].norm.cells) (by omega) (by rfl) (by simp only [Cond.cells, go_sem, noAgg_encS])
      simp only [Cond.cells] at e1 e3 e4 e5
      have k8 := e4 8 (by omega)
      have k9 := e4 9 (by omega)
      have k10 := e4 10 (by omega)
      simp only [get_put, upto_get, ne, ↓reduceIte, hs8, hs9, hs10, Nat.reduceLeDiff, next_put, upto_next] at k8 k9 k10 e2
      rw [e1]
      simp +contextual only [go_sem, ↓reduceIte, h3, k10, noAgg_encS, hw, h4]
      refine IH (i + 1) _ _ (by omega) ⟨by omega, ?_, ?_, ?_, ?_, ?_, ?_, ?_, ?_, .sl (s.next + 12) 0 (i + 1) none 7, ?_, ?_⟩
      case refine_10 =>
        rw [htk]
        exact e3.mono (by rw [next_put]; omega) fun j hj _ => by rw [get_put, if_neg (by omega)]
      case refine_9 => rw [get_put, if_pos rfl]
      case refine_6 =>
        refine (e5 ?_).put (by omega) _
        exact (hfr.upto (by omega)).put (by rw [upto_next]; omega) _
      all_goals simp +contextual only [go_sem, ↓reduceIte, h1, h2, h3, k8, k9, e2, encS_ne (encL_ne hd), Nat.reduceEqDiff]
      all_goals omega
    · have : i = kids.length := by omega
      subst this
      rw [List.take_length] at hv
      have hv1 : ∀ x, RowI (s.put 9 x) 11 78 7 (kids.map Cond.norm).length ((kids.map Cond.norm).flatMap fun c => (encC c).cells) v := fun x => by
        rw [List.length_map, List.flatMap_map]
        exact hv.mono (by rw [next_put]; omega) fun j hj _ => by rw [get_put, if_neg (by omega)]
      have hfz : ∀ x d, frz U (s.put 9 x) (d + 3) v = some (encS true (encL (normL kids))) := fun x d => by
        rw [(hv1 x).frz_agg U ag_48 sz_48 (by omega) encC_agg (d := d + 2) (fun a => frz_encC _ _ _), encL_map, normL_map]
      have hna := hv.noAgg
      simp +contextual only [go_sem, ↓reduceIte, r24_l0, h1, h2, h3, h4, hs8, hs9, hs10, nat_lt_dec, Nat.lt_irrefl, lenL_encS, encL_len, hna, hfz]
      rw [encC]
  · refine ⟨Nat.zero_le _, ?_, ?_, ?_, ?_, ?_, ?_, ?_, ?_, .nils, ?_, RowI.nil _ _ _ _⟩
    case refine_6 =>
      repeat first | exact Fr.own | apply Fr.new | apply Fr.put | apply Fr.upto
      all_goals simp +contextual only [go_sem, ↓reduceIte]
    all_goals simp +contextual only [go_sem, ↓reduceIte]
    all_goals rfl
end Go.Am
set_option linter.all false
namespace Go.Am
open Go
variable [MaxLen]
set_option maxRecDepth 100000
set_option maxHeartbeats 8000000
def Step.norm (s : Step) : Step := { s with cond := s.cond.norm }
def Prog.norm (p : Prog) : Prog := { p with nl := true, steps := p.steps.map Step.norm }
def Step.cells9 (s : Step) : List AV := [.str s.cond.kind, .int .i64 s.cond.a, .int .i64 s.cond.b, .int .i64 s.cond.mi, .int .i64 s.cond.ma, .str s.cond.pat, encS s.cond.nl (encL s.cond.kids), .int .i64 s.times, .int .i64 s.within]
theorem encStep_agg (s : Step) : ∃ l, encStep s = .agg l ∧ l.length = 9 := ⟨_, rfl, rfl⟩
theorem frz_encStep (s : St) (d : Nat) (c : Step) : frz U s (d + 2) (encStep c) = some (encStep c) := by
  unfold encStep
  simp only [frz_agg, mapO_cons, mapO_nil, frz_str, frz_int, frz_encS, resK_some, aggK_some]

theorem c33 (p : Prog) (hf : p.fits) : calV U 25 [encP p] = some (encP p.norm) := by
  obtain ⟨lines, nl, steps⟩ := p
  obtain ⟨f1, f2⟩ := hf
  simp only at f1 f2
  refine pure_go k33 (by kernel_rfl) (by simp [stills, still_encP]) ?_
  rw [encP_eq, Prog.norm, encP_eq]
  simp (config := { maxSteps := 2000000 }) +contextual only [go_sem, ↓reduceIte, r33, lenL_encS, encSteps_len, cells_encS, noAgg_encS]
  refine loop_to (σ := Nat) (fun i => steps.length - i) (fun i => some (.agg [.int .i64 lines, encS true (encSteps (steps.map Step.norm))])) (fun i e s => i ≤ steps.length ∧ Env.get e 1 = .ptr 8 0 ∧ Env.get e 2 = .ptr 9 0 ∧ Env.get e 3 = .ptr 10 0 ∧ Env.get e 4 = .int .i64 i ∧ 10 < s.next ∧ Fr s ∧
    s.get 8 = some (.cells [.int .i64 lines, encS nl (encSteps steps)] 31 false 0 0) ∧ s.get 9 = some (.cells [.int .i64 0, .nils] 25 false 0 0) ∧
    ∃ v, s.get 10 = some (.cells [.int .i64 lines, v] 25 false 0 0) ∧ RowI s 11 113 9 i ((steps.take i).flatMap fun c => (encStep c.norm).cells) v) 0 ?_ rfl ?_
  · rintro L i e s ⟨hi, h1, h2, h3, h4, hn, hfr, hs8, hs9, v, hs10, hv⟩ IH
    have ne : ∀ a k, a ≤ 10 → (s.next + k = a) = False := fun a k ha => by simp; omega
    have ne' : ∀ a, a ≤ 10 → (s.next = a) = False := fun a ha => by simp; omega
    have hfk := hfr.at
    by_cases hd : i < steps.length
    · have hx : (encSteps steps)[i]? = some (encStep steps[i]) := by rw [encSteps_get, List.getElem?_eq_getElem hd]; rfl
      have hw := wrap_succ hd (by omega)
      have hc := c24 steps[i].cond (f2 _ (List.getElem_mem hd))
      rw [encC_cells, encC_cells] at hc
      simp only [Cond.cells, encStep] at hx hc
      rw [encS_ne (encSteps_ne hd)] at hs8
      have hb1 : (i + 1) * 104 ≤ 1099511627776 := by omega
      have hb2 : i + 1 ≤ 1099511627776 := by omega
      have htk : (steps.take (i + 1)).flatMap (fun c => (encStep c.norm).cells) = (steps.take i).flatMap (fun c => (encStep c.norm).cells) ++ steps[i].norm.cells9 := by
        rw [List.take_succ_eq_append_getElem hd, List.flatMap_append, List.flatMap_singleton]; rfl
      have hla := hv.lenA
      have hna := hv.noAgg
      simp +contextual only [go_sem, ↓reduceIte, r33_l0, h1, h2, h3, h4, hs8, hs9, hs10, nat_lt_dec, hd, encSteps_len, hx, hc, ne, ne', noAgg_encS, hfk, appK_some, Nat.reducePow, Nat.one_mul, hla, hna, hb1, hb2]
      have hv0 : RowI ((s.upto (s.next + 26)).put (s.next + 22) (.cells steps[i].norm.cells9 113 false 0 0)) 11 113 9 i ((steps.take i).flatMap fun c => (encStep c.norm).cells) v := hv.mono (by rw [next_put, upto_next]; omega) fun j _ hj => by rw [get_put, upto_get, if_neg (by omega)]
      obtain ⟨s1, e1, e2, e3, e4, e5⟩ := hv0.app (by rw [next_put, upto_next]; omega) (m := 1) (new := steps[i].norm.cells9) (by omega) (by rfl) (by simp only [Step.cells9, go_sem, noAgg_encS])
      simp only [Step.cells9, Step.norm] at e1 e3 e4 e5
      have k8 := e4 8 (by omega)
      have k9 := e4 9 (by omega)
      have k10 := e4 10 (by omega)
      simp only [get_put, upto_get, ne, ↓reduceIte, hs8, hs9, hs10, Nat.reduceLeDiff, next_put, upto_next] at k8 k9 k10 e2
      rw [e1]
      simp +contextual only [go_sem, ↓reduceIte, h3, k10, noAgg_encS, hw, h4]
      refine IH (i + 1) _ _ (by omega) ⟨by omega, ?_, ?_, ?_, ?_, ?_, ?_, ?_, ?_, .sl (s.next + 26) 0 (i + 1) none 9, ?_, ?_⟩
      case refine_10 =>
        rw [htk]
        exact e3.mono (by rw [next_put]; omega) fun j hj _ => by rw [get_put, if_neg (by omega)]
      case refine_9 => rw [get_put, if_pos rfl]
      case refine_6 =>
        refine (e5 ?_).put (by omega) _
        exact (hfr.upto (by omega)).put (by rw [upto_next]; omega) _
      all_goals simp +contextual only [go_sem, ↓reduceIte, h1, h2, h3, k8, k9, e2, encS_ne (encSteps_ne hd), Nat.reduceEqDiff]
      all_goals omega
    · have : i = steps.length := by omega
      subst this
      rw [List.take_length] at hv
      have hv1 : ∀ x, RowI (s.put 9 x) 11 113 9 (steps.map Step.norm).length ((steps.map Step.norm).flatMap fun c => (encStep c).cells) v := fun x => by
        rw [List.length_map, List.flatMap_map]
        exact hv.mono (by rw [next_put]; omega) fun j hj _ => by rw [get_put, if_neg (by omega)]
      have hfz : ∀ x d, frz U (s.put 9 x) (d + 3) v = some (encS true (encSteps (steps.map Step.norm))) := fun x d => by
        rw [(hv1 x).frz_agg U ag_144 sz_144 (by omega) encStep_agg (d := d + 2) (fun a => frz_encStep _ _ _)]; rfl
      have hna := hv.noAgg
      simp +contextual only [go_sem, ↓reduceIte, r33_l0, h1, h2, h3, h4, hs8, hs9, hs10, nat_lt_dec, Nat.lt_irrefl, lenL_encS, encSteps_len, hna, hfz]
  · refine ⟨Nat.zero_le _, ?_, ?_, ?_, ?_, ?_, ?_, ?_, ?_, .nils, ?_, RowI.nil _ _ _ _⟩
    case refine_6 =>
      repeat first | exact Fr.own | apply Fr.new | apply Fr.put | apply Fr.upto
      all_goals simp +contextual only [go_sem, ↓reduceIte]
    all_goals simp +contextual only [go_sem, ↓reduceIte]
    all_goals rfl
mutual
def sc : Cond → Int → Bool
  | .mk k _ _ _ _ p _ kids, d => br (decide (d > 6) || decide ((k.length : Int) > 20) || decide ((p.length : Int) > 40) || decide ((kids.length : Int) > 10)) false (scL kids (IntKind.i64.wrap (d + 1)))
def scL : List Cond → Int → Bool
  | [], _ => true
  | c :: l, d => br (!(sc c d)) false (scL l d)
end
mutual
def leaves : Cond → Nat
  | .mk _ _ _ _ _ _ _ kids => leavesL kids + 1
def leavesL : List Cond → Nat
  | [] => 0
  | c :: l => leaves c + leavesL l
end
theorem brB_some' (p x y : Bool) : some (AV.bool (br p x y)) = br p (some (.bool x)) (some (.bool y)) := by cases p <;> rfl

theorem c86 : ∀ c : Cond, ∀ depth : Int, calV U 142 [encC c, .int .i64 depth] = some (.bool (sc c depth)) := by
  intro c
  induction c using Cond.ind with
  | h kind a b mi ma pat nl kids ih =>
  intro depth
  refine pure_go k86 (by kernel_rfl) (by simp [stills, still_encC, still]) ?_
  rw [encC, sc]
  simp (config := { maxSteps := 2000000 }) +contextual only [go_sem, ↓reduceIte, r86, lenL_encS, encL_len, cells_encS, noAgg_encS, br_tt]
  simp only [brB_some']
  refine br_r fun hsh => ?_
  have hlen : kids.length ≤ 10 := by
    simp only [Bool.or_eq_false_iff, decide_eq_false_iff_not] at hsh
    omega
  refine loop_to (σ := Nat) (fun i => kids.length - i) (fun i => some (AV.bool (scL (kids.drop i) (IntKind.i64.wrap (depth + 1))))) (fun i e s => i ≤ kids.length ∧ Env.get e 5 = .int .i64 i ∧ Env.get e 1 = .int .i64 depth ∧ Env.get e 2 = .ptr 8 0 ∧
    s.get 8 = some (.cells [.str kind, .int .i64 a, .int .i64 b, .int .i64 mi, .int .i64 ma, .str pat, encS nl (encL kids)] 106 false 0 0)) 0 ?_ rfl ?_
  · rintro L i e s ⟨hi, h5, h1, h2, hs⟩ IH
    by_cases hd : i < kids.length
    · have hx : (encL kids)[i]? = some (encC kids[i]) := by rw [encL_get, List.getElem?_eq_getElem hd]; rfl
      have hw := wrap_succ hd (by omega)
      have hc := ih kids[i] (List.getElem_mem hd) (IntKind.i64.wrap (depth + 1))
      rw [encS_ne (encL_ne hd)] at hs
      rw [encC_cells] at hx hc
      simp only [Cond.cells] at hx hc
      simp +contextual only [go_sem, ↓reduceIte, r86_l0, h5, h1, h2, hs, nat_lt_dec, hd, encL_len, hx, hc]
      rw [List.drop_eq_getElem_cons hd, scL]
      cases hb : sc kids[i] (IntKind.i64.wrap (depth + 1))
      · simp only [go_sem, ↓reduceIte]
      · simp only [go_sem, ↓reduceIte, hw]
        refine IH (i + 1) _ _ (by omega) ⟨by omega, ?_, ?_, ?_, ?_⟩ <;> simp +contextual only [go_sem, ↓reduceIte, h5, h1, h2, hs, hw, encS_ne (encL_ne hd)]
    · have : i = kids.length := by omega
      subst this
      simp +contextual only [go_sem, ↓reduceIte, r86_l0, h5, h1, h2, hs, lenL_encS, encL_len, nat_lt_dec, Nat.lt_irrefl]
      rw [List.drop_length, scL]
  · refine ⟨Nat.zero_le _, ?_, ?_, ?_, ?_⟩ <;> simp +contextual only [go_sem, ↓reduceIte] <;> rfl

theorem leaves_pos (c : Cond) : 1 ≤ leaves c := by cases c; simp [leaves]
theorem leavesL_len : ∀ l, l.length ≤ leavesL l
  | [] => Nat.zero_le _
  | c :: l => by have := leavesL_len l; have := leaves_pos c; simp only [leavesL, List.length_cons]; omega
theorem leavesL_mem : ∀ {l : List Cond} {c : Cond}, c ∈ l → leaves c ≤ leavesL l
  | c' :: l, c, h => by
    rw [leavesL]
    rcases List.mem_cons.1 h with rfl | h
    · omega
    · have := leavesL_mem h; omega
theorem leavesL_app (l m : List Cond) : leavesL (l ++ m) = leavesL l + leavesL m := by
  induction l with
  | nil => simp [leavesL]
  | cons c l ih => simp only [List.cons_append, leavesL, ih]; omega
theorem c87 : ∀ c : Cond, leaves c < 2 ^ 62 → calV U 143 [encC c] = some (.int .i64 (leaves c)) := by
  intro c
  induction c using Cond.ind with
  | h kind a b mi ma pat nl kids ih =>
  intro hb
  rw [leaves] at hb ⊢
  have hlen := leavesL_len kids
  refine pure_go k87 (by kernel_rfl) (by simp [stills, still_encC, still]) ?_
  rw [encC]
  simp (config := { maxSteps := 2000000 }) +contextual only [go_sem, ↓reduceIte, r87, lenL_encS, encL_len, cells_encS, noAgg_encS, br_tt]
  refine loop_to (σ := Nat) (fun i => kids.length - i) (fun i => some (AV.int .i64 ((leavesL kids + 1 : Nat) : Int))) (fun i e s => i ≤ kids.length ∧ Env.get e 4 = .int .i64 i ∧ Env.get e 3 = .int .i64 ((leavesL (kids.take i) + 1 : Nat) : Int) ∧ Env.get e 1 = .ptr 8 0 ∧
    s.get 8 = some (.cells [.str kind, .int .i64 a, .int .i64 b, .int .i64 mi, .int .i64 ma, .str pat, encS nl (encL kids)] 106 false 0 0)) 0 ?_ rfl ?_
  · rintro L i e s ⟨hi, h4, h3, h1, hs⟩ IH
    by_cases hd : i < kids.length
    · have hx : (encL kids)[i]? = some (encC kids[i]) := by rw [encL_get, List.getElem?_eq_getElem hd]; rfl
      have hw := wrap_succ hd (by omega)
      have hc := ih kids[i] (List.getElem_mem hd) (by have := leavesL_mem (List.getElem_mem hd); omega)
      have htk : leavesL (kids.take (i + 1)) = leavesL (kids.take i) + leaves kids[i] := by
        rw [List.take_succ_eq_append_getElem hd, leavesL_app]; simp [leavesL]
      have hle : leavesL (kids.take (i + 1)) ≤ leavesL kids := by
        have := leavesL_app (kids.take (i + 1)) (kids.drop (i + 1))
        rw [List.take_append_drop] at this; omega
      have hw2 : IntKind.i64.wrap (((leavesL (kids.take i) + 1 : Nat) : Int) + (leaves kids[i] : Int)) = ((leavesL (kids.take (i + 1)) + 1 : Nat) : Int) := by rw [wrap_i64] <;> omega
      rw [encS_ne (encL_ne hd)] at hs
      rw [encC_cells] at hx hc
      simp only [Cond.cells] at hx hc
      simp +contextual only [go_sem, ↓reduceIte, r87_l0, h4, h3, h1, hs, nat_lt_dec, hd, encL_len, hx, hc, hw, hw2]
      refine IH (i + 1) _ _ (by omega) ⟨by omega, ?_, ?_, ?_, ?_⟩ <;> simp +contextual only [go_sem, ↓reduceIte, h4, h3, h1, hs, hw, hw2, encS_ne (encL_ne hd)]
    · have : i = kids.length := by omega
      subst this
      rw [List.take_length] at h3
      simp +contextual only [go_sem, ↓reduceIte, r87_l0, h4, h3, h1, hs, lenL_encS, encL_len, nat_lt_dec, Nat.lt_irrefl]
  · refine ⟨Nat.zero_le _, ?_, ?_, ?_, ?_⟩ <;> simp +contextual only [go_sem, ↓reduceIte] <;> rfl
end Go.Am
set_option linter.all false
namespace Go.Am
open Go
variable [MaxLen]
set_option maxRecDepth 100000
set_option maxHeartbeats 8000000
theorem scL_mem {d : Int} : ∀ {l : List Cond}, scL l d = true → ∀ c ∈ l, sc c d = true
  | c :: l, h, x, hx => by
    rw [scL] at h
    cases hc : sc c d
    · rw [hc] at h; cases h
    · rw [hc] at h
      rcases List.mem_cons.1 hx with rfl | hx
      · exact hc
      · exact scL_mem h x hx
theorem sc_spec {k : Str} {a b mi ma : Int} {p : Str} {nl : Bool} {kids : List Cond} {d : Int} (h : sc (.mk k a b mi ma p nl kids) d = true) (hd : 1 ≤ d) : d ≤ 6 ∧ k.length ≤ 20 ∧ p.length ≤ 40 ∧ kids.length ≤ 10 ∧ ∀ c ∈ kids, sc c (d + 1) = true := by
  rw [sc] at h
  cases hb : (decide (d > 6) || decide ((k.length : Int) > 20) || decide ((p.length : Int) > 40) || decide ((kids.length : Int) > 10))
  · rw [hb, br_false] at h
    simp only [Bool.or_eq_false_iff, decide_eq_false_iff_not] at hb
    obtain ⟨⟨⟨h1, h2⟩, h3⟩, h4⟩ := hb
    have hw : IntKind.i64.wrap (d + 1) = d + 1 := wrap_i64 (by omega) (by omega)
    rw [hw] at h
    exact ⟨by omega, by omega, by omega, by omega, scL_mem h⟩
  · rw [hb] at h; cases h
theorem sc_fits : ∀ (c : Cond) (d : Int), 1 ≤ d → sc c d = true → c.fits ∧ leaves c ≤ 11 ^ (7 - d.toNat) := by
  intro c
  induction c using Cond.ind with
  | h kind a b mi ma pat nl kids ih =>
  intro d hd h
  obtain ⟨h1, h2, h3, h4, h5⟩ := sc_spec h hd
  have hk : ∀ x ∈ kids, x.fits ∧ leaves x ≤ 11 ^ (6 - d.toNat) := fun x hx => by
    have := ih x hx (d + 1) (by omega) (h5 x hx)
    rwa [show 7 - (d + 1).toNat = 6 - d.toNat from by omega] at this
  refine ⟨?_, ?_⟩
  · rw [Cond.fits]
    exact ⟨by omega, by omega, fun x hx => (hk x hx).1⟩
  · rw [leaves]
    have : ∀ l : List Cond, (∀ x ∈ l, x ∈ kids) → leavesL l ≤ l.length * 11 ^ (6 - d.toNat) := by
      intro l
      induction l with
      | nil => intro _; simp [leavesL]
      | cons c l ihl =>
        intro hl
        have := ihl fun x hx => hl x (List.mem_cons_of_mem _ hx)
        have := (hk c (hl c (List.mem_cons_self ..))).2
        rw [leavesL, List.length_cons, Nat.add_mul]; omega
    have h6 := this kids fun _ h => h
    have h7 : kids.length * 11 ^ (6 - d.toNat) ≤ 10 * 11 ^ (6 - d.toNat) := Nat.mul_le_mul_right _ h4
    have h8 : 11 ^ (7 - d.toNat) = 11 * 11 ^ (6 - d.toNat) := by
      rw [show 7 - d.toNat = (6 - d.toNat) + 1 from by omega, Nat.pow_succ, Nat.mul_comm]
    have h9 : 1 ≤ 11 ^ (6 - d.toNat) := Nat.one_le_pow _ _ (by omega)
    omega
theorem sc_leaves {c : Cond} (h : sc c 1 = true) : leaves c < 2 ^ 62 := by
  have := (sc_fits c 1 (by omega) h).2
  have e : 11 ^ (7 - (1 : Int).toNat) = 1771561 := rfl
  rw [e] at this
  omega

def shortC (c : Cond) (n : Int) : Bool := sc c 1 && decide ((leaves c : Int) ≤ n)
theorem c21 (c : Cond) (n : Int) : calV U 72 [encC c, .int .i64 n] = some (.bool (shortC c n)) := by
  refine pure_go k21 (by kernel_rfl) (by simp [stills, still_encC, still]) ?_
  have h86 := c86 c 1
  have h87 : sc c 1 = true → calV U 143 [encC c] = some (.int .i64 (leaves c)) := fun h => c87 c (sc_leaves h)
  rw [encC_cells] at h86 h87 ⊢
  simp only [Cond.cells] at h86 h87 ⊢
  simp (config := { maxSteps := 2000000 }) +contextual only [go_sem, ↓reduceIte, r21, h86, h87, noAgg_encS]
  rfl
def shortL (n : Int) : List Step → Bool
  | [] => true
  | s :: l => br (!(shortC s.cond n)) false (shortL n l)
def short (p : Prog) (n : Int) : Bool := br (decide ((p.steps.length : Int) > 10)) false (shortL n p.steps)
theorem c31 (p : Prog) (n : Int) : calV U 22 [encP p, .int .i64 n] = some (.bool (short p n)) := by
  obtain ⟨lines, nl, steps⟩ := p
  refine pure_go k31 (by kernel_rfl) (by simp [stills, still_encP, still]) ?_
  rw [encP_eq, short]
  simp (config := { maxSteps := 2000000 }) +contextual only [go_sem, ↓reduceIte, r31, lenL_encS, encSteps_len, cells_encS, noAgg_encS]
  simp only [brB_some']
  refine br_r fun hsh => ?_
  have hlen : steps.length ≤ 10 := by
    simp only [decide_eq_false_iff_not] at hsh
    omega
  refine loop_to (σ := Nat) (fun i => steps.length - i) (fun i => some (AV.bool (shortL n (steps.drop i)))) (fun i e s => i ≤ steps.length ∧ Env.get e 5 = .int .i64 i ∧ Env.get e 1 = .int .i64 n ∧ Env.get e 2 = .ptr 8 0 ∧
    s.get 8 = some (.cells [.int .i64 lines, encS nl (encSteps steps)] 31 false 0 0)) 0 ?_ rfl ?_
  · rintro L i e s ⟨hi, h5, h1, h2, hs⟩ IH
    by_cases hd : i < steps.length
    · have hx : (encSteps steps)[i]? = some (encStep steps[i]) := by rw [encSteps_get, List.getElem?_eq_getElem hd]; rfl
      have hw := wrap_succ hd (by omega)
      have hc := c21 steps[i].cond n
      rw [encS_ne (encSteps_ne hd)] at hs
      rw [encC_cells] at hc
      simp only [Cond.cells, encStep] at hx hc
      simp +contextual only [go_sem, ↓reduceIte, r31_l0, h5, h1, h2, hs, nat_lt_dec, hd, encSteps_len, hx, hc]
      rw [List.drop_eq_getElem_cons hd, shortL]
      cases hb : shortC steps[i].cond n
      · simp only [go_sem, ↓reduceIte]
      · simp only [go_sem, ↓reduceIte, hw]
        refine IH (i + 1) _ _ (by omega) ⟨by omega, ?_, ?_, ?_, ?_⟩ <;> simp +contextual only [go_sem, ↓reduceIte, h5, h1, h2, hs, hw, encS_ne (encSteps_ne hd)]
    · have : i = steps.length := by omega
      subst this
      simp +contextual only [go_sem, ↓reduceIte, r31_l0, h5, h1, h2, hs, lenL_encS, encSteps_len, nat_lt_dec, Nat.lt_irrefl]
      rw [List.drop_length, shortL]
  · refine ⟨Nat.zero_le _, ?_, ?_, ?_, ?_⟩ <;> simp +contextual only [go_sem, ↓reduceIte] <;> rfl
theorem short_spec {p : Prog} {n : Int} (h : short p n = true) : p.steps.length ≤ 10 ∧ ∀ s ∈ p.steps, sc s.cond 1 = true ∧ (leaves s.cond : Int) ≤ n := by
  unfold short at h
  cases hb : decide ((p.steps.length : Int) > 10)
  · rw [hb, br_false] at h
    refine ⟨by simp only [decide_eq_false_iff_not] at hb; omega, ?_⟩
    have : ∀ l : List Step, shortL n l = true → ∀ s ∈ l, sc s.cond 1 = true ∧ (leaves s.cond : Int) ≤ n := by
      intro l
      induction l with
      | nil => intro _ s hs; cases hs
      | cons x l ih =>
        intro h s hs
        rw [shortL] at h
        cases hx : shortC x.cond n
        · rw [hx] at h; cases h
        · rw [hx] at h
          rcases List.mem_cons.1 hs with rfl | hs
          · simpa [shortC] using hx
          · exact ih h s hs
    exact this _ h
  · rw [hb] at h; cases h
theorem short_fits {p : Prog} {n : Int} (h : short p n = true) : p.fits := by
  obtain ⟨h1, h2⟩ := short_spec h
  exact ⟨by omega, fun s hs => (sc_fits _ 1 (by omega) (h2 s hs).1).1⟩
end Go.Am
set_option linter.all false
namespace Go.Am
open Go
variable [MaxLen]
set_option maxRecDepth 100000
/-- (strobe/trigger.Cond).compound; results .tmp 2 -/
def r213 : RC := (.seq (.ops [⟨some 1, none, none, false, .box 78 (.t 0)⟩,
  ⟨some 2, none, none, false, .mov (.v (.bool false))⟩]) (.seq (.ops [⟨some 3, none, none, false, .fa 0 (.t 1)⟩,
  ⟨some 4, none, none, false, .ld1 (.t 3)⟩,
  ⟨some 5, none, none, false, .bin .eql 9 true (.t 4) (.v (.str [110, 111, 116]))⟩,
  ⟨some 6, none, none, false, .mov (.t 5)⟩,
  ⟨some 7, some (6, false), none, false, .fa 0 (.t 1)⟩,
  ⟨some 8, some (6, false), none, false, .ld1 (.t 7)⟩,
  ⟨some 9, some (6, false), none, false, .bin .eql 9 true (.t 8) (.v (.str [97, 108, 108]))⟩,
  ⟨some 10, none, none, false, .pick (.t 6) (.v (.bool true)) (.t 9)⟩,
  ⟨some 11, none, none, false, .mov (.t 10)⟩,
  ⟨some 12, some (11, false), none, false, .fa 0 (.t 1)⟩,
  ⟨some 13, some (11, false), none, false, .ld1 (.t 12)⟩,
  ⟨some 14, some (11, false), none, false, .bin .eql 9 true (.t 13) (.v (.str [97, 110, 121]))⟩,
  ⟨some 15, none, none, false, .pick (.t 11) (.v (.bool true)) (.t 14)⟩,
  ⟨some 2, none, none, false, .mov (.t 15)⟩]) .ret))
theorem k213 : fnRC 168 = some ([.tmp 2], r213) := by kernel_rfl

/-- strobe/trigger.limited; results .tmp 4 -/
def r170 : RC := (.seq (.ops [⟨some 4, none, none, false, .mov (.v (.int .i64 0))⟩]) (.seq (.ops [⟨some 5, none, none, false, .mov (.t 0)⟩,
  ⟨some 6, none, none, false, .mov (.t 1)⟩,
  ⟨some 7, none, none, false, .bin .mul 3 false (.t 5) (.t 6)⟩,
  ⟨some 8, none, none, false, .raw (.call { callee := .builtin .min, args := #[(.tmp 7), (.const (.int .i64 65537))], argTypes := #[3, 3] })⟩,
  ⟨some 4, none, none, false, .mov (.t 8)⟩]) .ret))
theorem k170 : fnRC 128 = some ([.tmp 4], r170) := by kernel_rfl

def r171_l0 : RC := (.seq (.ops [⟨some 20, none, none, false, .bin .lss 3 false (.t 19) (.t 18)⟩]) (.seq (.cond (.t 20) .skip (.exit 0)) (.seq (.block 1 (.seq (.ops [⟨some 21, none, none, false, .ixa 7 (.t 17) (.t 19)⟩,
  ⟨some 22, none, none, false, .ldn 7 (.t 21)⟩,
  ⟨some 5, none, none, false, .al [(.str []), (.int .i64 0), (.int .i64 0), (.int .i64 0), (.int .i64 0), (.str []), .nils] 78⟩,
  ⟨none, none, none, false, .st 7 (.t 5) (.t 22)⟩]) (.ops [⟨some 23, none, none, false, .mov (.t 3)⟩,
  ⟨some 24, none, none, false, .ldn 7 (.t 5)⟩,
  ⟨some 25, none, none, false, .call 129 [(.t 24)]⟩,
  ⟨some 26, none, none, false, .call 128 [(.t 23), (.t 25)]⟩,
  ⟨some 3, none, none, false, .mov (.t 26)⟩]))) (.ops [⟨some 27, none, none, false, .bin .add 3 true (.t 19) (.v (.int .i64 1))⟩,
  ⟨some 19, none, none, false, .mov (.t 27)⟩]))))
/-- (strobe/trigger.Cond).size; results .tmp 2 -/
def r171 : RC := (.seq (.ops [⟨some 1, none, none, false, .box 78 (.t 0)⟩,
  ⟨some 2, none, none, false, .mov (.v (.int .i64 0))⟩]) (.seq (.seq (.ops [⟨some 6, none, none, false, .ldn 7 (.t 1)⟩,
  ⟨some 7, none, none, false, .call 168 [(.t 6)]⟩,
  ⟨some 8, none, none, false, .un .not (.t 7)⟩]) (.cond (.t 8) (.seq (.drw 8 [⟨some 9, none, none, false, .call 136 []⟩,
  ⟨some 10, none, none, false, .fa 0 (.t 1)⟩,
  ⟨some 11, none, none, false, .ld1 (.t 10)⟩,
  ⟨some 12, none, none, false, .raw (.lookup 215 (.tmp 9) (.tmp 11) false)⟩,
  ⟨some 13, none, none, false, .fd1 6 (.t 12)⟩,
  ⟨some 14, none, none, false, .ldn 7 (.t 1)⟩,
  ⟨some 15, none, none, true, .callv (.t 13) [(.t 14)]⟩,
  ⟨some 2, none, none, false, .mov (.t 15)⟩]) .ret) .skip)) (.seq (.ops [⟨some 3, none, none, false, .mov (.v (.int .i64 1))⟩]) (.seq (.seq (.ops [⟨some 16, none, none, false, .fa 6 (.t 1)⟩,
  ⟨some 17, none, none, false, .ld1 (.t 16)⟩,
  ⟨some 18, none, none, false, .lenL (.t 17)⟩,
  ⟨some 19, none, none, false, .mov (.v (.int .i64 0))⟩]) (.block 0 (.loop r171_l0))) (.seq (.ops [⟨some 28, none, none, false, .mov (.t 3)⟩,
  ⟨some 2, none, none, false, .mov (.t 28)⟩]) .ret)))))
theorem k171 : fnRC 129 = some ([.tmp 2], r171) := by kernel_rfl

/-- strobe/trigger.kinds$1; results .tmp 2 -/
def r192 : RC := (.seq (.ops [⟨some 1, none, none, false, .box 78 (.t 0)⟩,
  ⟨some 2, none, none, false, .mov (.v (.int .i64 0))⟩]) (.seq (.ops [⟨some 3, none, none, false, .fa 4 (.t 1)⟩,
  ⟨some 4, none, none, false, .ld1 (.t 3)⟩,
  ⟨some 5, none, none, false, .bin .add 3 true (.t 4) (.v (.int .i64 3))⟩,
  ⟨some 2, none, none, false, .mov (.t 5)⟩]) .ret))
theorem k192 : fnRC 174 = some ([.tmp 2], r192) := by kernel_rfl

/-- strobe/trigger.kinds$2; results .tmp 2 -/
def r193 : RC := (.seq (.ops [⟨some 1, none, none, false, .box 78 (.t 0)⟩,
  ⟨some 2, none, none, false, .mov (.v (.int .i64 0))⟩]) (.seq (.ops [⟨some 3, none, none, false, .fa 3 (.t 1)⟩,
  ⟨some 4, none, none, false, .ld1 (.t 3)⟩,
  ⟨some 5, none, none, false, .bin .add 3 true (.t 4) (.v (.int .i64 2))⟩,
  ⟨some 2, none, none, false, .mov (.t 5)⟩]) .ret))
theorem k193 : fnRC 175 = some ([.tmp 2], r193) := by kernel_rfl

/-- strobe/trigger.one; results .tmp 2 -/
def r194 : RC := (.seq (.ops [⟨some 1, none, none, false, .box 78 (.t 0)⟩,
  ⟨some 2, none, none, false, .mov (.v (.int .i64 0))⟩]) (.seq (.ops [⟨some 2, none, none, false, .mov (.v (.int .i64 1))⟩]) .ret))
theorem k194 : fnRC 176 = some ([.tmp 2], r194) := by kernel_rfl

/-- strobe/trigger.kinds$10; results .tmp 2 -/
def r210 : RC := (.seq (.ops [⟨some 1, none, none, false, .box 78 (.t 0)⟩,
  ⟨some 2, none, none, false, .mov (.v (.int .i64 0))⟩]) (.seq (.ops [⟨some 2, none, none, false, .mov (.v (.int .i64 4))⟩]) .ret))
theorem k210 : fnRC 192 = some ([.tmp 2], r210) := by kernel_rfl

end Go.Am
set_option linter.all false
namespace Go.Am
open Go
variable [MaxLen]
set_option maxRecDepth 100000
set_option maxHeartbeats 8000000
attribute [go_sem] calv_fn List.nil_append List.append_nil List.cons_append
def lim (a b : Int) : Int := min (IntKind.i64.wrap (a * b)) 65537
theorem c170 (a b : Int) : calV U 128 [.int .i64 a, .int .i64 b] = some (.int .i64 (lim a b)) := by
  refine pure_go k170 (by kernel_rfl) rfl ?_
  simp +contextual only [go_sem, ↓reduceIte, r170]
  rfl
def isComp (k : Str) : Bool := k == [110, 111, 116] || (k == [97, 108, 108] || k == [97, 110, 121])
theorem c213 (c : Cond) : calV U 168 [encC c] = some (.bool (isComp c.kind)) := by
  refine pure_go k213 (by kernel_rfl) (by simp [stills, still_encC]) ?_
  rw [encC_cells]
  simp +contextual only [go_sem, ↓reduceIte, r213, Cond.cells, noAgg_encS, br_tt]
  rw [isComp]
  cases c.kind == [110, 111, 116] <;> rfl
theorem c192 (c : Cond) : calV U 174 [encC c] = some (.int .i64 (IntKind.i64.wrap (c.ma + 3))) := by
  refine pure_go k192 (by kernel_rfl) (by simp [stills, still_encC]) ?_
  rw [encC_cells]
  simp +contextual only [go_sem, ↓reduceIte, r192, Cond.cells, noAgg_encS]
theorem c193 (c : Cond) : calV U 175 [encC c] = some (.int .i64 (IntKind.i64.wrap (c.mi + 2))) := by
  refine pure_go k193 (by kernel_rfl) (by simp [stills, still_encC]) ?_
  rw [encC_cells]
  simp +contextual only [go_sem, ↓reduceIte, r193, Cond.cells, noAgg_encS]
theorem c194 (c : Cond) : calV U 176 [encC c] = some (.int .i64 1) := by
  refine pure_go k194 (by kernel_rfl) (by simp [stills, still_encC]) ?_
  rw [encC_cells]
  simp +contextual only [go_sem, ↓reduceIte, r194, Cond.cells, noAgg_encS]
theorem c210 (c : Cond) : calV U 192 [encC c] = some (.int .i64 4) := by
  refine pure_go k210 (by kernel_rfl) (by simp [stills, still_encC]) ?_
  rw [encC_cells]
  simp +contextual only [go_sem, ↓reduceIte, r210, Cond.cells, noAgg_encS]
def leafSize (d : Kd) (c : Cond) : Int := match d with
  | .pulse | .gap => IntKind.i64.wrap (c.ma + 3)
  | .idle | .setup => IntKind.i64.wrap (c.mi + 2)
  | .runt => 4
  | _ => 1
def Kd.leaf : Kd → Bool
  | .not_ | .all_ | .any_ | .other => false
  | _ => true
theorem size_call (d : Kd) (h : d.leaf = true) (c : Cond) (s : St) : calv U (kSize d) [encC c] s = some (.int .i64 (leafSize d c), s) := by
  cases d <;> first | cases h | skip
  all_goals simp only [kSize, calv_fn, List.nil_append, List.append_nil, c192, c193, c194, c210, callK_some, leafSize]
theorem isComp_kd (k : Str) (h : (kdOf k).known = true) : isComp k = !(kdOf k).leaf := by
  obtain ⟨h0, h1, h2, h3, h4, h5, h6, h7, h8, h9, h10, h11, h12, h13, h14⟩ := kd_facts k
  rw [isComp, h12, h13, h14]
  generalize kdOf k = d at *
  cases d <;> first | rfl | cases h
mutual
def Cond.allKnown : Cond → Bool
  | .mk k _ _ _ _ _ _ kids => (kdOf k).known && ((kdOf k).leaf || knownL kids)
def knownL : List Cond → Bool
  | [] => true
  | c :: l => c.allKnown && knownL l
end
theorem knownL_mem : ∀ {l : List Cond}, knownL l = true → ∀ c ∈ l, c.allKnown = true
  | c :: l, h, x, hx => by
    rw [knownL, Bool.and_eq_true] at h
    rcases List.mem_cons.1 hx with rfl | hx
    · exact h.1
    · exact knownL_mem h.2 x hx
mutual
def szP : Cond → Int
  | .mk k a b mi ma p nl kids => bif (kdOf k).leaf then leafSize (kdOf k) (.mk k a b mi ma p nl kids) else szPL kids 1
def szPL : List Cond → Int → Int
  | [], x => x
  | c :: l, x => szPL l (lim x (szP c))
end
theorem c171 : ∀ c : Cond, c.fits → c.allKnown = true → calV U 129 [encC c] = some (.int .i64 (szP c)) := by
  intro c
  induction c using Cond.ind with
  | h kind a b mi ma pat nl kids ih =>
  intro hf hk
  rw [Cond.fits] at hf
  obtain ⟨f1, f2, f3⟩ := hf
  rw [Cond.allKnown, Bool.and_eq_true] at hk
  obtain ⟨hk1, hk2⟩ := hk
  refine pure_go k171 (by kernel_rfl) (by simp [stills, still_encC]) ?_
  have h213 := c213 (.mk kind a b mi ma pat nl kids)
  have hcall : (kdOf kind).leaf = true → ∀ s, calv U (kSize (kdOf kind)) [encC (.mk kind a b mi ma pat nl kids)] s = some (.int .i64 (leafSize (kdOf kind) (.mk kind a b mi ma pat nl kids)), s) := fun h s => size_call _ h _ s
  have hlk := lookup_kinds0 kind
  rw [show (Cond.mk kind a b mi ma pat nl kids).kind = kind from rfl, isComp_kd kind hk1] at h213
  rw [szP]
  rw [encC] at h213 hcall ⊢
  rw [kindV] at hlk
  generalize leafSize (kdOf kind) (.mk kind a b mi ma pat nl kids) = ls at *
  cases hlf : (kdOf kind).leaf
  · rw [hlf] at h213 hk2
    simp (config := { maxSteps := 2000000 }) +contextual only [go_sem, ↓reduceIte, r171, h213, lenL_encS, encL_len, noAgg_encS]
    rw [Bool.false_or] at hk2
    refine loop_to (σ := Nat × Int) (fun x => kids.length - x.1) (fun x => some (AV.int .i64 (szPL (kids.drop x.1) x.2))) (fun x e s => x.1 ≤ kids.length ∧ Env.get e 3 = .int .i64 x.2 ∧ Env.get e 17 = encS nl (encL kids) ∧ Env.get e 18 = .int .i64 kids.length ∧ Env.get e 19 = .int .i64 x.1) (0, 1) ?_ rfl ?_
    · rintro L ⟨i, acc⟩ e s ⟨hi, h3, h17, h18, h19⟩ IH
      simp only at hi h3 h17 h18 h19 IH ⊢
      by_cases hd : i < kids.length
      · have hx : (encL kids)[i]? = some (encC kids[i]) := by rw [encL_get, List.getElem?_eq_getElem hd]; rfl
        have hw := wrap_succ hd (by omega)
        have hc := ih kids[i] (List.getElem_mem hd) (f3 _ (List.getElem_mem hd)) (knownL_mem hk2 _ (List.getElem_mem hd))
        rw [encC_cells] at hx hc
        simp only [Cond.cells] at hx hc
        rw [encS_ne (encL_ne hd)] at h17
        simp +contextual only [go_sem, ↓reduceIte, r171_l0, h3, h17, h18, h19, nat_lt_dec, hd, hx, hc, c170, noAgg_encS, hw]
        rw [List.drop_eq_getElem_cons hd, szPL]
        refine IH (i + 1, lim acc (szP kids[i])) _ _ (by simp only; omega) ⟨by simp only; omega, ?_, ?_, ?_, ?_⟩ <;> simp +contextual only [go_sem, ↓reduceIte, h3, h17, h18, h19, hw, encS_ne (encL_ne hd)]
      · have : i = kids.length := by omega
        subst this
        simp +contextual only [go_sem, ↓reduceIte, r171_l0, h3, h17, h18, h19, nat_lt_dec, Nat.lt_irrefl]
        rw [List.drop_length, szPL]
    · refine ⟨Nat.zero_le _, ?_, ?_, ?_, ?_⟩ <;> simp +contextual only [go_sem, ↓reduceIte] <;> rfl
  · rw [hlf] at h213
    have hcall := hcall hlf
    simp (config := { maxSteps := 2000000 }) +contextual only [go_sem, ↓reduceIte, r171, h213, c156, hlk, noAgg_encS, hcall]
end Go.Am
set_option linter.all false
namespace Go.Am
open Go
variable [MaxLen]
set_option maxRecDepth 100000
set_option maxHeartbeats 8000000
/-! what a program that is in order is -/
theorem ckR_known (lines : Int) : ∀ (c : Cond) (d : Int), ckR lines c d = 0 → c.allKnown = true ∧ ((kdOf c.kind).leaf = true → c.kids = []) := by
  intro c
  induction c using Cond.ind with
  | h kind a b mi ma pat nl kids ih =>
  intro d h
  rw [ckR] at h
  have ne : ∀ {p : Bool} {e x : Int}, (e ≠ 0) → br p e x = 0 → p = false ∧ x = 0 := fun {p e x} he h => by
    cases p
    · exact ⟨rfl, h⟩
    · exact absurd h he
  obtain ⟨_, h⟩ := ne (by omega) h
  obtain ⟨hk, h⟩ := ne (by omega) h
  obtain ⟨hu, h⟩ := ne (by omega) h
  obtain ⟨_, h⟩ := ne (by omega) h
  obtain ⟨_, h⟩ := ne (by omega) h
  obtain ⟨_, h⟩ := ne (by omega) h
  obtain ⟨_, h⟩ := ne (by omega) h
  obtain ⟨_, h⟩ := ne (by omega) h
  obtain ⟨_, h⟩ := ne (by omega) h
  obtain ⟨_, h⟩ := ne (by omega) h
  obtain ⟨_, h⟩ := ne (by omega) h
  have hk : (kdOf kind).known = true := by simpa using hk
  have hkids : (kdOf kind).leaf = true → kids = [] := fun hl => by
    have hun : (usesOf (kdOf kind)).kids = false := by
      cases hd : kdOf kind <;> rw [hd] at hl <;> first | rfl | cases hl
    simp only [Bool.or_eq_false_iff, Bool.and_eq_false_iff, hun] at hu
    have := hu.2
    simp only [Bool.not_false, Bool.true_eq_false, decide_eq_false_iff_not, false_or] at this
    cases kids with
    | nil => rfl
    | cons c l => simp at this
  refine ⟨?_, hkids⟩
  rw [Cond.allKnown, hk, Bool.true_and]
  cases hl : (kdOf kind).leaf
  · rw [Bool.false_or]
    have : ∀ l : List Cond, (∀ x ∈ l, x ∈ kids) → ckRL lines l (IntKind.i64.wrap (d + 1)) = 0 → knownL l = true := by
      intro l
      induction l with
      | nil => intro _ _; rfl
      | cons c l ihl =>
        intro hl h
        rw [ckRL] at h
        cases hb : ckR lines c (IntKind.i64.wrap (d + 1)) != 0
        · rw [hb, br_false] at h
          rw [knownL, ihl (fun x hx => hl x (List.mem_cons_of_mem _ hx)) h, (ih c (hl c (List.mem_cons_self ..)) _ (by simpa using hb)).1]
          rfl
        · rw [hb, br_true] at h
          rw [h] at hb; cases hb
    exact this kids (fun _ h => h) h
  · rfl
theorem within_br (n a b : Int) : within n a b = br (outside n a b) 3 0 := rfl
theorem cpL_eq (lines : Int) (hl : 1 ≤ lines) (hl' : lines ≤ 16) : ∀ (l : List Step) (i : Nat), cpPL lines i l = cpRL lines i l
  | [], _ => rfl
  | s :: l, i => by
    rw [cpPL, cpRL, ck_eq lines hl hl', cpL_eq lines hl hl' l (i + 1)]
    simp only [within_br]
    generalize ckR lines s.cond 1 = c
    generalize outside s.times 1 64 = a
    generalize outside s.within 0 255 = b
    generalize ((i : Int) == 0 && s.within != 0) = d
    cases hc : c != 0
    · have : c = 0 := by simpa using hc
      subst this
      cases a <;> cases b <;> cases d <;> rfl
    · simp only [firstOf, hc, br_true]
theorem cp_eq (p : Prog) : cpP p = cpR p := by
  rw [cpP, cpR, checkLines, within_br]
  cases h : outside p.lines 1 16
  · have hl : 1 ≤ p.lines ∧ p.lines ≤ 16 := by
      simp only [outside, Bool.or_eq_false_iff, decide_eq_false_iff_not] at h; omega
    rw [cpL_eq p.lines hl.1 hl.2]
    cases h1 : ((p.steps.length : Int) == 0) <;> cases h2 : decide ((p.steps.length : Int) > 8) <;> rfl
  · rfl

/-- a program that is in order -/
structure Prog.ok (p : Prog) : Prop where
  lines : 1 ≤ p.lines ∧ p.lines ≤ 16
  ne : p.steps ≠ []
  few : p.steps.length ≤ 8
  cond : ∀ s ∈ p.steps, ckR p.lines s.cond 1 = 0
  tm : ∀ s ∈ p.steps, 1 ≤ s.times ∧ s.times ≤ 64
  wi : ∀ s ∈ p.steps, 0 ≤ s.within ∧ s.within ≤ 255
  first : ∀ s, p.steps[0]? = some s → s.within = 0
theorem outside_false {n a b : Int} (h : outside n a b = false) : a ≤ n ∧ n ≤ b := by
  simp only [outside, Bool.or_eq_false_iff, decide_eq_false_iff_not] at h; omega
theorem br_zero {p : Bool} {e x : Int} (he : e ≠ 0) (h : br p e x = 0) : p = false ∧ x = 0 := by
  cases p
  · exact ⟨rfl, h⟩
  · exact absurd h he
theorem br_err {e x : Int} (h : br (e != 0) e x = 0) : e = 0 ∧ x = 0 := by
  cases he : e != 0
  · rw [he, br_false] at h; exact ⟨by simpa using he, h⟩
  · rw [he, br_true] at h; rw [h] at he; cases he
theorem cpRL_zero {lines : Int} : ∀ {l : List Step} {i : Nat}, cpRL lines i l = 0 → ∀ s ∈ l, ckR lines s.cond 1 = 0 ∧ (1 ≤ s.times ∧ s.times ≤ 64) ∧ (0 ≤ s.within ∧ s.within ≤ 255)
  | x :: l, i, h, s, hs => by
    rw [cpRL] at h
    obtain ⟨h1, h⟩ := br_err h
    obtain ⟨h2, h⟩ := br_zero (by omega) h
    rcases List.mem_cons.1 hs with rfl | hs
    · simp only [Bool.or_eq_false_iff] at h2
      exact ⟨h1, outside_false h2.1.1, outside_false h2.1.2⟩
    · exact cpRL_zero h s hs
theorem ok_of {p : Prog} (h : cpR p = 0) : p.ok := by
  rw [cpR] at h
  obtain ⟨h1, h⟩ := br_err h
  obtain ⟨h2, h⟩ := br_zero (by omega) h
  obtain ⟨h3, h⟩ := br_zero (by omega) h
  have h4 := cpRL_zero h
  refine ⟨?_, ?_, ?_, fun s hs => (h4 s hs).1, fun s hs => (h4 s hs).2.1, fun s hs => (h4 s hs).2.2, ?_⟩
  · rw [checkLines] at h1; exact outside_false (br_zero (x := 0) (by omega : (3 : Int) ≠ 0) h1).1
  · intro e; rw [e] at h2; cases h2
  · simp only [decide_eq_false_iff_not] at h3; omega
  · intro s hs
    cases hp : p.steps with
    | nil => rw [hp] at hs; cases hs
    | cons x l =>
      rw [hp] at hs h
      cases hs
      rw [cpRL] at h
      obtain ⟨_, h⟩ := br_err h
      obtain ⟨h2, _⟩ := br_zero (by omega) h
      simp only [Bool.or_eq_false_iff] at h2
      simpa using h2.2
theorem Prog.ok.known {p : Prog} (h : p.ok) : ∀ s ∈ p.steps, s.cond.allKnown = true := fun s hs => (ckR_known _ _ _ (h.cond s hs)).1

/-! # Both answers are one -/

theorem tlen_pos (c : UInt8) (l : Str) : 1 ≤ tlen c l := by
  unfold tlen
  cases letter c
  · simp only [br_false]; omega
  · simp only [br_true]; omega
theorem rtk_txt (S : Str) : ∀ f i, ∀ t ∈ rtk S f i, t.txt ≠ [] ∧ t.txt.length ≤ S.length
  | 0, i, t, h => by simp [rtk] at h
  | f + 1, i, t, h => by
    rw [rtk] at h
    cases hd : S.drop i with
    | nil => rw [hd] at h; simp at h
    | cons c l =>
      rw [hd] at h
      simp only at h
      cases hc : (c == 32 || c == 10) with
      | true => rw [hc, br_true] at h; exact rtk_txt S f _ t h
      | false =>
        rw [hc, br_false] at h
        rcases List.mem_cons.1 h with rfl | h
        · have hi : i < S.length := by
            rcases Nat.lt_or_ge i S.length with h1 | h1
            · exact h1
            · rw [List.drop_eq_nil_of_le h1] at hd; cases hd
          have := tlen_pos c l
          refine ⟨fun h0 => ?_, ?_⟩
          · have := congrArg List.length h0
            simp [slc] at this
            omega
          · simp [slc]; omega
        · exact rtk_txt S f _ t h
def rlines (en : Nat) (r : Rd) : Int × Rd := rnum en (rtake en sLines r)
def rprog (en N m : Nat) (r : Rd) : Prog := ⟨(rlines en r).1, true, (rsteps en N m (rlines en r).2).1.map PS.st⟩
def rans (en N m : Nat) (r : Rd) : Prog × Int × Int :=
  br (decide ((rsteps en N m (rlines en r).2).2.bad ≥ 0)) (P0, (rsteps en N m (rlines en r).2).2.bad, 25) <| br (cpR (rprog en N m r) != 0) (P0, 0, cpR (rprog en N m r)) (rprog en N m r, 0, 0)
theorem lines_rel {en : Nat} {r p : Rd} (h : Rel en r p) : Eqv en (rlines en r) (plines p) := by
  have ht := take_word h (w := sLines) rfl
  unfold rlines plines
  rw [ht.bad]
  cases hb : decide ((rtake en sLines r).bad < 0) with
  | true => rw [br_true]; exact num_rel ht
  | false =>
    rw [decide_eq_false_iff_not] at hb
    rw [br_false, rnum_bad (by omega)]
    exact Eqv.dead ht.bad (by show 0 ≤ (rtake en sLines r).bad; omega)
theorem all_rel {en N m : Nat} {r p : Rd} (h : Rel en r p) : (psteps N m (plines p).2).2.bad = (rsteps en N m (rlines en r).2).2.bad ∧ ((rsteps en N m (rlines en r).2).2.bad < 0 → rprog en N m r = pprog N m p ∧ (rsteps en N m (rlines en r).2).1 = (psteps N m (plines p).2).1) := by
  have h1 := lines_rel h
  have h2 := steps_rel (N := N) m h1.rel
  refine ⟨h2.rel.bad, fun hb => ?_⟩
  have hb1 : (rlines en r).2.bad < 0 := by
    rcases Int.lt_or_le (rlines en r).2.bad 0 with g | g
    · exact g
    · rw [rsteps_bad m g] at hb; exact hb
  refine ⟨?_, h2.val hb⟩
  unfold rprog pprog
  rw [h1.val hb1, h2.val hb]
theorem ans_eq {en N m : Nat} {r p : Rd} (h : Rel en r p) : rans en N m r = pans N m p := by
  obtain ⟨h1, h2⟩ := all_rel (N := N) (m := m) h
  unfold rans pans
  rw [h1]
  cases hb : decide ((rsteps en N m (rlines en r).2).2.bad ≥ 0) with
  | true => rfl
  | false =>
    rw [decide_eq_false_iff_not] at hb
    obtain ⟨h3, _⟩ := h2 (by omega)
    rw [h3, cp_eq]
theorem toks_Rel (S : Str) : Rel S.length ⟨rtoks S, -1⟩ ⟨ptoks S, -1⟩ := ⟨rfl, fun _ => toks_rel S⟩
/-! The two sizes agree -/
theorem ckRL_mem {lines d : Int} : ∀ {l : List Cond}, ckRL lines l d = 0 → ∀ c ∈ l, ckR lines c d = 0
  | c :: l, h, x, hx => by
    rw [ckRL] at h
    obtain ⟨h1, h2⟩ := br_err h
    rcases List.mem_cons.1 hx with rfl | hx
    · exact h1
    · exact ckRL_mem h2 x hx
abbrev o (d : Nat) (r : ROp) : RO := ⟨some d, none, none, false, r⟩
/-- (*strings.Builder).WriteString; results .tmp 4,.tmp 5 -/
def r131 : RC := (.seq (.ops [⟨some 4, none, none, false, .mov (.v (.int .i64 0))⟩,
  ⟨some 5, none, none, false, .mov (.v .nili)⟩]) (.seq (.ops [⟨some 6, none, none, false, .mov (.t 0)⟩,
  ⟨some 7, none, none, false, .call 147 [(.t 6)]⟩]) (.seq (.ops [⟨some 8, none, none, false, .mov (.t 0)⟩,
  ⟨some 9, none, none, false, .mov (.t 0)⟩,
  ⟨some 10, none, none, false, .raw (.nilCheck (.tmp 9))⟩,
  ⟨some 11, none, none, false, .fa 1 (.t 10)⟩,
  ⟨some 12, none, none, false, .ld1 (.t 11)⟩,
  ⟨some 13, none, none, false, .mov (.t 1)⟩,
  ⟨some 14, none, none, false, .app 5 1 1 (.t 12) (.t 13)⟩,
  ⟨some 15, none, none, false, .raw (.nilCheck (.tmp 8))⟩,
  ⟨some 16, none, none, false, .fa 1 (.t 15)⟩,
  ⟨none, none, none, false, .st 1 (.t 16) (.t 14)⟩]) (.seq (.ops [⟨some 17, none, none, false, .mov (.t 1)⟩,
  ⟨some 18, none, none, false, .lenS (.t 17)⟩,
  ⟨some 4, none, none, false, .mov (.t 18)⟩,
  ⟨some 5, none, none, false, .mov (.v .nili)⟩]) .ret))))
theorem k131 : fnRC 79 = some ([.tmp 4, .tmp 5], r131) := by kernel_rfl

/-- (*strings.Builder).String; results .tmp 2 -/
def r133 : RC := (.seq (.ops [⟨some 2, none, none, false, .mov (.v (.str []))⟩]) (.seq (.drw 12 [⟨some 3, none, none, false, .mov (.t 0)⟩,
  ⟨some 4, none, none, false, .raw (.nilCheck (.tmp 3))⟩,
  ⟨some 5, none, none, false, .fa 1 (.t 4)⟩,
  ⟨some 6, none, none, false, .ld1 (.t 5)⟩,
  ⟨some 7, none, none, false, .raw (.call { callee := .builtin .unsafeSliceData, args := #[(.tmp 6)], argTypes := #[148] })⟩,
  ⟨some 8, none, none, false, .mov (.t 0)⟩,
  ⟨some 9, none, none, false, .raw (.nilCheck (.tmp 8))⟩,
  ⟨some 10, none, none, false, .fa 1 (.t 9)⟩,
  ⟨some 11, none, none, false, .ld1 (.t 10)⟩,
  ⟨some 12, none, none, false, .lenL (.t 11)⟩,
  ⟨some 13, none, none, true, .raw (.call { callee := .builtin .unsafeString, args := #[(.tmp 7), (.tmp 12)], argTypes := #[228, 3] })⟩,
  ⟨some 2, none, none, false, .mov (.t 13)⟩]) .ret))
theorem k133 : fnRC 81 = some ([.tmp 2], r133) := by kernel_rfl

end Go.Am
set_option linter.all false
namespace Go.Am
open Go
variable [MaxLen]
set_option maxRecDepth 100000
def r128_l0 : RC := (.seq (.ops [⟨some 39, none, none, false, .bin .lss 3 false (.t 38) (.t 37)⟩]) (.seq (.cond (.t 39) .skip (.exit 0)) (.seq (.block 1 (.seq (.ops [⟨some 40, none, none, false, .ixa 2 (.t 36) (.t 38)⟩,
  ⟨some 41, none, none, false, .ldn 2 (.t 40)⟩,
  ⟨some 6, none, none, false, .al [(.bool false), (.int .i64 0)] 225⟩,
  ⟨none, none, none, false, .st 2 (.t 6) (.t 41)⟩]) (.seq (.ops [⟨some 42, none, none, false, .fa 0 (.t 6)⟩,
  ⟨some 43, none, none, false, .ld1 (.t 42)⟩]) (.cond (.t 43) (.ops [⟨some 44, none, none, false, .mov (.t 3)⟩,
  ⟨some 45, none, none, false, .fa 1 (.t 6)⟩,
  ⟨some 46, none, none, false, .ld1 (.t 45)⟩,
  ⟨some 47, none, none, false, .call 75 [(.t 46)]⟩,
  ⟨some 48, none, none, false, .bsl 9 1 1 [(.str [])] [(0, 1, (.t 47))]⟩,
  ⟨some 49, none, none, false, .app 9 1 16 (.t 44) (.t 48)⟩,
  ⟨some 3, none, none, false, .mov (.t 49)⟩]) .skip)))) (.ops [⟨some 50, none, none, false, .bin .add 3 true (.t 38) (.v (.int .i64 1))⟩,
  ⟨some 38, none, none, false, .mov (.t 50)⟩]))))
def r128_l1 : RC := (.seq (.ops [⟨some 62, none, none, false, .bin .lss 3 false (.t 61) (.t 60)⟩]) (.seq (.cond (.t 62) .skip (.exit 2)) (.seq (.block 3 (.seq (.ops [⟨some 63, none, none, false, .mov (.t 61)⟩,
  ⟨some 64, none, none, false, .ixa 7 (.t 59) (.t 61)⟩,
  ⟨some 65, none, none, false, .ldn 7 (.t 64)⟩,
  ⟨some 8, none, none, false, .al [(.str []), (.int .i64 0), (.int .i64 0), (.int .i64 0), (.int .i64 0), (.str []), .nils] 78⟩,
  ⟨some 7, none, none, false, .mov (.t 63)⟩,
  ⟨none, none, none, false, .st 7 (.t 8) (.t 65)⟩]) (.seq (.ops [⟨some 66, none, none, false, .mov (.t 3)⟩,
  ⟨some 67, none, none, false, .bsl 9 1 2 [(.str []), (.str [])] [(0, 1, (.v (.str [40]))), (1, 1, (.v (.str [44])))]⟩,
  ⟨some 68, none, none, false, .mov (.t 7)⟩,
  ⟨some 69, none, none, false, .raw (.call { callee := .builtin .min, args := #[(.tmp 68), (.const (.int .i64 1))], argTypes := #[3, 3] })⟩,
  ⟨some 70, none, none, false, .ixa 1 (.t 67) (.t 69)⟩,
  ⟨some 71, none, none, false, .ld1 (.t 70)⟩,
  ⟨some 72, none, none, false, .bsl 9 1 1 [(.str [])] [(0, 1, (.t 71))]⟩,
  ⟨some 73, none, none, false, .app 9 1 16 (.t 66) (.t 72)⟩,
  ⟨some 3, none, none, false, .mov (.t 73)⟩]) (.ops [⟨some 74, none, none, false, .mov (.t 3)⟩,
  ⟨some 75, none, none, false, .ldn 7 (.t 8)⟩,
  ⟨some 76, none, none, false, .call 76 [(.t 75)]⟩,
  ⟨some 77, none, none, false, .app 9 1 16 (.t 74) (.t 76)⟩,
  ⟨some 3, none, none, false, .mov (.t 77)⟩])))) (.ops [⟨some 78, none, none, false, .bin .add 3 true (.t 61) (.v (.int .i64 1))⟩,
  ⟨some 61, none, none, false, .mov (.t 78)⟩]))))
/-- (strobe/trigger.Cond).tokens; results .tmp 2 -/
def r128 : RC := (.seq (.ops [⟨some 1, none, none, false, .box 78 (.t 0)⟩,
  ⟨some 2, none, none, false, .mov (.v .nils)⟩]) (.seq (.ops [⟨some 9, none, none, false, .fa 0 (.t 1)⟩,
  ⟨some 10, none, none, false, .ld1 (.t 9)⟩,
  ⟨some 11, none, none, false, .bsl 9 1 1 [(.str [])] [(0, 1, (.t 10))]⟩,
  ⟨some 3, none, none, false, .mov (.t 11)⟩]) (.seq (.drw 6 [⟨some 12, none, none, false, .call 136 []⟩,
  ⟨some 13, none, none, false, .fa 0 (.t 1)⟩,
  ⟨some 14, none, none, false, .ld1 (.t 13)⟩,
  ⟨some 15, none, none, false, .raw (.lookup 215 (.tmp 12) (.tmp 14) false)⟩,
  ⟨some 4, none, some 4, false, .al [(.bool false), (.bool false), (.bool false), (.bool false), (.bool false), (.bool false), .nilfn, .nilfn, .nilfn] 220⟩,
  ⟨none, none, none, true, .st 9 (.t 4) (.t 15)⟩]) (.seq (.seq (.ops [⟨some 16, none, none, false, .fa 0 (.t 4)⟩,
  ⟨some 17, none, none, false, .ld1 (.t 16)⟩,
  ⟨some 18, none, none, false, .fa 1 (.t 1)⟩,
  ⟨some 19, none, none, false, .ld1 (.t 18)⟩,
  ⟨some 20, none, none, false, .bld [(.bool false), (.int .i64 0)] [(0, 1, (.t 17)), (1, 1, (.t 19))]⟩,
  ⟨some 21, none, none, false, .fa 1 (.t 4)⟩,
  ⟨some 22, none, none, false, .ld1 (.t 21)⟩,
  ⟨some 23, none, none, false, .fa 2 (.t 1)⟩,
  ⟨some 24, none, none, false, .ld1 (.t 23)⟩,
  ⟨some 25, none, none, false, .bld [(.bool false), (.int .i64 0)] [(0, 1, (.t 22)), (1, 1, (.t 24))]⟩,
  ⟨some 26, none, none, false, .fa 2 (.t 4)⟩,
  ⟨some 27, none, none, false, .ld1 (.t 26)⟩,
  ⟨some 28, none, none, false, .fa 3 (.t 1)⟩,
  ⟨some 29, none, none, false, .ld1 (.t 28)⟩,
  ⟨some 30, none, none, false, .bld [(.bool false), (.int .i64 0)] [(0, 1, (.t 27)), (1, 1, (.t 29))]⟩,
  ⟨some 31, none, none, false, .fa 3 (.t 4)⟩,
  ⟨some 32, none, none, false, .ld1 (.t 31)⟩,
  ⟨some 33, none, none, false, .fa 4 (.t 1)⟩,
  ⟨some 34, none, none, false, .ld1 (.t 33)⟩,
  ⟨some 35, none, none, false, .bld [(.bool false), (.int .i64 0)] [(0, 1, (.t 32)), (1, 1, (.t 34))]⟩,
  ⟨some 36, none, none, false, .bsl 225 2 4 [(.bool false), (.int .i64 0), (.bool false), (.int .i64 0), (.bool false), (.int .i64 0), (.bool false), (.int .i64 0)] [(0, 2, (.t 20)), (2, 2, (.t 25)), (4, 2, (.t 30)), (6, 2, (.t 35))]⟩,
  ⟨some 37, none, none, false, .lenL (.t 36)⟩,
  ⟨some 38, none, none, false, .mov (.v (.int .i64 0))⟩]) (.block 0 (.loop r128_l0))) (.seq (.seq (.ops [⟨some 51, none, none, false, .fa 4 (.t 4)⟩,
  ⟨some 52, none, none, false, .ld1 (.t 51)⟩]) (.cond (.t 52) (.ops [⟨some 53, none, none, false, .mov (.t 3)⟩,
  ⟨some 54, none, none, false, .fa 5 (.t 1)⟩,
  ⟨some 55, none, none, false, .ld1 (.t 54)⟩,
  ⟨some 56, none, none, false, .bsl 9 1 1 [(.str [])] [(0, 1, (.t 55))]⟩,
  ⟨some 57, none, none, false, .app 9 1 16 (.t 53) (.t 56)⟩,
  ⟨some 3, none, none, false, .mov (.t 57)⟩]) .skip)) (.seq (.seq (.ops [⟨some 58, none, none, false, .fa 6 (.t 1)⟩,
  ⟨some 59, none, none, false, .ld1 (.t 58)⟩,
  ⟨some 60, none, none, false, .lenL (.t 59)⟩,
  ⟨some 61, none, none, false, .mov (.v (.int .i64 0))⟩]) (.block 2 (.loop r128_l1))) (.seq (.seq (.ops [⟨some 79, none, none, false, .fa 5 (.t 4)⟩,
  ⟨some 80, none, none, false, .ld1 (.t 79)⟩]) (.cond (.t 80) (.ops [⟨some 81, none, none, false, .mov (.t 3)⟩,
  ⟨some 82, none, none, false, .bsl 9 1 1 [(.str [])] [(0, 1, (.v (.str [41])))]⟩,
  ⟨some 83, none, none, false, .app 9 1 16 (.t 81) (.t 82)⟩,
  ⟨some 3, none, none, false, .mov (.t 83)⟩]) .skip)) (.seq (.ops [⟨some 84, none, none, false, .mov (.t 3)⟩,
  ⟨some 2, none, none, false, .mov (.t 84)⟩]) .ret))))))))
theorem k128 : fnRC 76 = some ([.tmp 2], r128) := by kernel_rfl

/-- strings.Contains; results .tmp 4 -/
def r129 : RC := (.seq (.ops [⟨some 4, none, none, false, .mov (.v (.bool false))⟩]) (.seq (.ops [⟨some 5, none, none, false, .mov (.t 0)⟩,
  ⟨some 6, none, none, false, .mov (.t 1)⟩,
  ⟨some 7, none, none, false, .call 146 [(.t 5), (.t 6)]⟩,
  ⟨some 8, none, none, false, .bin .geq 3 true (.t 7) (.v (.int .i64 0))⟩,
  ⟨some 4, none, none, false, .mov (.t 8)⟩]) .ret))
theorem k129 : fnRC 77 = some ([.tmp 4], r129) := by kernel_rfl

/-- (*strings.Builder).WriteByte; results .tmp 4 -/
def r130 : RC := (.seq (.ops [⟨some 4, none, none, false, .mov (.v .nili)⟩]) (.seq (.ops [⟨some 5, none, none, false, .mov (.t 0)⟩,
  ⟨some 6, none, none, false, .call 147 [(.t 5)]⟩]) (.seq (.ops [⟨some 7, none, none, false, .mov (.t 0)⟩,
  ⟨some 8, none, none, false, .mov (.t 0)⟩,
  ⟨some 9, none, none, false, .raw (.nilCheck (.tmp 8))⟩,
  ⟨some 10, none, none, false, .fa 1 (.t 9)⟩,
  ⟨some 11, none, none, false, .ld1 (.t 10)⟩,
  ⟨some 12, none, none, false, .mov (.t 1)⟩,
  ⟨some 13, none, none, false, .bsl 5 1 1 [(.int .u8 0)] [(0, 1, (.t 12))]⟩,
  ⟨some 14, none, none, false, .app 5 1 1 (.t 11) (.t 13)⟩,
  ⟨some 15, none, none, false, .raw (.nilCheck (.tmp 7))⟩,
  ⟨some 16, none, none, false, .fa 1 (.t 15)⟩,
  ⟨none, none, none, false, .st 1 (.t 16) (.t 14)⟩]) (.seq (.ops [⟨some 4, none, none, false, .mov (.v .nili)⟩]) .ret))))
theorem k130 : fnRC 78 = some ([.tmp 4], r130) := by kernel_rfl

/-- (*strings.Builder).Len; results .tmp 2 -/
def r132 : RC := (.seq (.ops [⟨some 2, none, none, false, .mov (.v (.int .i64 0))⟩]) (.seq (.ops [⟨some 3, none, none, false, .mov (.t 0)⟩,
  ⟨some 4, none, none, false, .raw (.nilCheck (.tmp 3))⟩,
  ⟨some 5, none, none, false, .fa 1 (.t 4)⟩,
  ⟨some 6, none, none, false, .ld1 (.t 5)⟩,
  ⟨some 7, none, none, false, .lenL (.t 6)⟩,
  ⟨some 2, none, none, false, .mov (.t 7)⟩]) .ret))
theorem k132 : fnRC 80 = some ([.tmp 2], r132) := by kernel_rfl

def r66_l0 : RC := (.seq (.ops [⟨some 24, none, none, false, .bin .lss 3 false (.t 23) (.t 22)⟩]) (.seq (.cond (.t 24) .skip (.exit 0)) (.seq (.block 1 (.seq (.ops [⟨some 25, none, none, false, .ixa 9 (.t 21) (.t 23)⟩,
  ⟨some 26, none, none, false, .ldn 9 (.t 25)⟩,
  ⟨some 7, none, none, false, .al [(.str []), (.int .i64 0), (.int .i64 0), (.int .i64 0), (.int .i64 0), (.str []), .nils, (.int .i64 0), (.int .i64 0)] 113⟩,
  ⟨none, none, none, false, .st 9 (.t 7) (.t 26)⟩]) (.seq (.ops [⟨some 27, none, none, false, .mov (.t 5)⟩,
  ⟨some 28, none, none, false, .fa 0 (.t 7)⟩,
  ⟨some 29, none, none, false, .ldn 7 (.t 28)⟩,
  ⟨some 30, none, none, false, .call 76 [(.t 29)]⟩,
  ⟨some 31, none, none, false, .app 9 1 16 (.t 27) (.t 30)⟩,
  ⟨some 5, none, none, false, .mov (.t 31)⟩]) (.seq (.seq (.ops [⟨some 32, none, none, false, .fa 7 (.t 7)⟩,
  ⟨some 33, none, none, false, .ld1 (.t 32)⟩,
  ⟨some 34, none, none, false, .bin .neq 3 true (.t 33) (.v (.int .i64 1))⟩]) (.cond (.t 34) (.ops [⟨some 35, none, none, false, .mov (.t 5)⟩,
  ⟨some 36, none, none, false, .fa 7 (.t 7)⟩,
  ⟨some 37, none, none, false, .ld1 (.t 36)⟩,
  ⟨some 38, none, none, false, .call 75 [(.t 37)]⟩,
  ⟨some 39, none, none, false, .bsl 9 1 2 [(.str []), (.str [])] [(0, 1, (.v (.str [116, 105, 109, 101, 115]))), (1, 1, (.t 38))]⟩,
  ⟨some 40, none, none, false, .app 9 1 16 (.t 35) (.t 39)⟩,
  ⟨some 5, none, none, false, .mov (.t 40)⟩]) .skip)) (.seq (.seq (.ops [⟨some 41, none, none, false, .fa 8 (.t 7)⟩,
  ⟨some 42, none, none, false, .ld1 (.t 41)⟩,
  ⟨some 43, none, none, false, .bin .neq 3 true (.t 42) (.v (.int .i64 0))⟩]) (.cond (.t 43) (.ops [⟨some 44, none, none, false, .mov (.t 5)⟩,
  ⟨some 45, none, none, false, .fa 8 (.t 7)⟩,
  ⟨some 46, none, none, false, .ld1 (.t 45)⟩,
  ⟨some 47, none, none, false, .call 75 [(.t 46)]⟩,
  ⟨some 48, none, none, false, .bsl 9 1 2 [(.str []), (.str [])] [(0, 1, (.v (.str [119, 105, 116, 104, 105, 110]))), (1, 1, (.t 47))]⟩,
  ⟨some 49, none, none, false, .app 9 1 16 (.t 44) (.t 48)⟩,
  ⟨some 5, none, none, false, .mov (.t 49)⟩]) .skip)) (.ops [⟨some 50, none, none, false, .mov (.t 5)⟩,
  ⟨some 51, none, none, false, .bsl 9 1 1 [(.str [])] [(0, 1, (.v (.str [59])))]⟩,
  ⟨some 52, none, none, false, .app 9 1 16 (.t 50) (.t 51)⟩,
  ⟨some 5, none, none, false, .mov (.t 52)⟩])))))) (.ops [⟨some 53, none, none, false, .bin .add 3 true (.t 23) (.v (.int .i64 1))⟩,
  ⟨some 23, none, none, false, .mov (.t 53)⟩]))))
def r66_l1 : RC := (.seq (.ops [⟨some 57, none, none, false, .bin .lss 3 false (.t 56) (.t 55)⟩]) (.seq (.cond (.t 57) .skip (.exit 2)) (.seq (.block 3 (.seq (.ops [⟨some 58, none, none, false, .mov (.t 56)⟩,
  ⟨some 59, none, none, false, .ixa 1 (.t 54) (.t 56)⟩,
  ⟨some 60, none, none, false, .ld1 (.t 59)⟩,
  ⟨some 9, none, none, false, .mov (.t 58)⟩,
  ⟨some 10, none, none, false, .mov (.t 60)⟩]) (.seq (.seq (.ops [⟨some 61, none, none, false, .mov (.t 9)⟩,
  ⟨some 62, none, none, false, .bin .gtr 3 true (.t 61) (.v (.int .i64 0))⟩,
  ⟨some 63, none, none, false, .mov (.t 62)⟩,
  ⟨some 64, some (63, true), none, false, .mov (.t 10)⟩,
  ⟨some 65, some (63, true), none, false, .call 77 [(.v (.str [41, 44, 59, 40])), (.t 64)]⟩,
  ⟨some 66, some (63, true), none, false, .un .not (.t 65)⟩,
  ⟨some 67, none, none, false, .pick (.t 63) (.t 66) (.v (.bool false))⟩,
  ⟨some 68, none, none, false, .mov (.t 67)⟩,
  ⟨some 69, some (68, true), none, false, .mov (.t 5)⟩,
  ⟨some 70, some (68, true), none, false, .mov (.t 9)⟩,
  ⟨some 71, some (68, true), none, false, .bin .sub 3 true (.t 70) (.v (.int .i64 1))⟩,
  ⟨some 72, some (68, true), none, false, .ixa 1 (.t 69) (.t 71)⟩,
  ⟨some 73, some (68, true), none, false, .ld1 (.t 72)⟩,
  ⟨some 74, some (68, true), none, false, .bin .neq 9 true (.t 73) (.v (.str [40]))⟩,
  ⟨some 75, none, none, false, .pick (.t 68) (.t 74) (.v (.bool false))⟩]) (.cond (.t 75) (.ops [⟨some 76, none, none, false, .call 78 [(.t 8), (.v (.int .u8 32))]⟩]) .skip)) (.ops [⟨some 77, none, none, false, .mov (.t 10)⟩,
  ⟨some 78, none, none, false, .call 79 [(.t 8), (.t 77)]⟩])))) (.ops [⟨some 79, none, none, false, .bin .add 3 true (.t 56) (.v (.int .i64 1))⟩,
  ⟨some 56, none, none, false, .mov (.t 79)⟩]))))
/-- strobe/trigger.Print; results .tmp 2,.tmp 3 -/
def r66 : RC := (.seq (.ops [⟨some 1, none, none, false, .box 25 (.t 0)⟩,
  ⟨some 2, none, none, false, .mov (.v (.str []))⟩,
  ⟨some 3, none, none, false, .mov (.v (.int .i64 0))⟩]) (.seq (.seq (.ops [⟨some 11, none, none, false, .ldn 2 (.t 1)⟩,
  ⟨some 12, none, none, false, .call 47 [(.t 11)]⟩,
  ⟨some 4, none, none, false, .mov (.t 12)⟩]) (.seq (.ops [⟨some 13, none, none, false, .mov (.t 4)⟩,
  ⟨some 14, none, none, false, .bin .neq 26 true (.t 13) (.v (.int .i64 0))⟩]) (.cond (.t 14) (.seq (.ops [⟨some 15, none, none, false, .mov (.t 4)⟩,
  ⟨some 2, none, none, false, .mov (.v (.str []))⟩,
  ⟨some 3, none, none, false, .mov (.t 15)⟩]) .ret) .skip))) (.seq (.ops [⟨some 16, none, none, false, .fa 0 (.t 1)⟩,
  ⟨some 17, none, none, false, .ld1 (.t 16)⟩,
  ⟨some 18, none, none, false, .call 75 [(.t 17)]⟩,
  ⟨some 19, none, none, false, .bsl 9 1 3 [(.str []), (.str []), (.str [])] [(0, 1, (.v (.str [108, 105, 110, 101, 115]))), (1, 1, (.t 18)), (2, 1, (.v (.str [59])))]⟩,
  ⟨some 5, none, none, false, .mov (.t 19)⟩]) (.seq (.seq (.ops [⟨some 20, none, none, false, .fa 1 (.t 1)⟩,
  ⟨some 21, none, none, false, .ld1 (.t 20)⟩,
  ⟨some 22, none, none, false, .lenL (.t 21)⟩,
  ⟨some 23, none, none, false, .mov (.v (.int .i64 0))⟩]) (.block 0 (.loop r66_l0))) (.seq (.ops [⟨some 8, none, none, false, .al [.nilp, .nils] 150⟩]) (.seq (.seq (.ops [⟨some 54, none, none, false, .mov (.t 5)⟩,
  ⟨some 55, none, none, false, .lenL (.t 54)⟩,
  ⟨some 56, none, none, false, .mov (.v (.int .i64 0))⟩]) (.block 2 (.loop r66_l1))) (.seq (.seq (.ops [⟨some 80, none, none, false, .call 80 [(.t 8)]⟩,
  ⟨some 81, none, none, false, .bin .gtr 3 true (.t 80) (.v (.int .i64 4096))⟩]) (.cond (.t 81) (.seq (.ops [⟨some 2, none, none, false, .mov (.v (.str []))⟩,
  ⟨some 3, none, none, false, .mov (.v (.int .i64 26))⟩]) .ret) .skip)) (.seq (.ops [⟨some 82, none, none, false, .call 81 [(.t 8)]⟩,
  ⟨some 2, none, none, false, .mov (.t 82)⟩,
  ⟨some 3, none, none, false, .mov (.v (.int .i64 0))⟩]) .ret))))))))
theorem k66 : fnRC 24 = some ([.tmp 2, .tmp 3], r66) := by kernel_rfl

end Go.Am
