/- A part of the proof of a statement of this seat: the machine on which the program is read, and what it computes; for every input. -/
import Derived.Test.YtkmaeondbkpajaaGreatDoorT13
import Derived.Test.YtkmaeondbkpajaaGreatDoorT14
import Derived.Test.YtkmaeondbkpajaaGreatDoorT12
set_option linter.all false
set_option linter.all false
namespace Go.Am
open Go
variable [MaxLen]
set_option maxRecDepth 100000
set_option maxHeartbeats 8000000
/-! # strings.Builder -/

def bytesA (bs : Str) : List AV := bs.map fun c => .int .u8 c.toNat
theorem bytesA_len (bs : Str) : (bytesA bs).length = bs.length := by simp [bytesA]
theorem bytesA_noAgg (bs : Str) : (bytesA bs).all noAgg = true := by
  induction bs with
  | nil => rfl
  | cons c l ih => rw [bytesA, List.map_cons, List.all_cons]; exact ih
theorem bytesA_load (bs : Str) : loadBytesA (bytesA bs) = some bs := by
  induction bs with
  | nil => rfl
  | cons c l ih =>
    show loadBytesA (.int .u8 c.toNat :: bytesA l) = _
    simp only [loadBytesA, ih, Int.toNat_natCast, UInt8.ofNat_toNat]
/-- a builder at block b, that holds bs -/
def BldI (s : St) (b : Nat) (bs : Str) : Prop := ∃ p v, s.get b = some (.cells [p, v] 150 false 0 0) ∧ (p = .nilp ∨ p = .ptr b 0) ∧ b < s.next ∧ RowI s (b + 1) 5 1 bs.length (bytesA bs) v
theorem k182 (args : List AV) (s : St) : callK U (calV U 147 args) 147 args s = cal U 147 args s := (callK_eq U 147 args s).symm
theorem k130' (args : List AV) (s : St) : callK U (calV U 78 args) 78 args s = cal U 78 args s := (callK_eq U 78 args s).symm
theorem k131' (args : List AV) (s : St) : callK U (calV U 79 args) 79 args s = cal U 79 args s := (callK_eq U 79 args s).symm
theorem k132' (args : List AV) (s : St) : callK U (calV U 80 args) 80 args s = cal U 80 args s := (callK_eq U 80 args s).symm
theorem k133' (args : List AV) (s : St) : callK U (calV U 81 args) 81 args s = cal U 81 args s := (callK_eq U 81 args s).symm
theorem cal_182 (args : List AV) (s : St) : cal U 147 args s = extCopy args s := by
  unfold cal callF
  rw [U_ext]
  rfl
theorem c182 {s : St} {b : Nat} {p v : AV} (hg : s.get b = some (.cells [p, v] 150 false 0 0)) (hp : p = .nilp ∨ p = .ptr b 0) (hb : b < s.next) :
    ∃ s0, cal U 147 [.ptr b 0] s = some (.tup [], s0) ∧ s0.next = s.next ∧ s0.get b = some (.cells [.ptr b 0, v] 150 false 0 0) ∧ (∀ j, j ≠ b → s0.get j = s.get j) ∧ (Fr s → Fr s0) := by
  rw [cal_182]
  rcases hp with rfl | rfl
  · refine ⟨s.put b (.cells [.ptr b 0, v] 150 false 0 0), by simp only [extCopy, hg, if_true], rfl, by rw [get_put, if_pos rfl], fun j hj => by rw [get_put, if_neg (by omega)], fun h => h.put hb _⟩
  · exact ⟨s, by simp only [extCopy, hg, if_true], rfl, hg, fun _ _ => rfl, fun h => h⟩
theorem source_bytes (t : Str) (s : St) : sourceA 1 (.str t) s = some (t.length, bytesA t) := rfl

theorem c130 {s : St} {b : Nat} {bs : Str} (h : BldI s b bs) (hf : Fr s) (c : UInt8) (hlen : bs.length + 1 ≤ 2 ^ 39) :
    ∃ s', cal U 78 [.ptr b 0, .int .u8 c.toNat] s = some (.nili, s') ∧ BldI s' b (bs ++ [c]) ∧ Fr s' ∧ s.next ≤ s'.next ∧ ∀ j, j < b → s'.get j = s.get j := by
  obtain ⟨p, v, hg, hp, hb, hv⟩ := h
  obtain ⟨s0, g1, g2, g3, g4, g5⟩ := c182 hg hp hb
  have hla := hv.lenA
  have hb1 : (bs.length + 1) * 1 ≤ 1099511627776 := by omega
  have hb2 : bs.length + 1 ≤ 1099511627776 := by omega
  have hv1 : RowI (s0.new (.cells [.int .u8 c.toNat] 5 false 0 0)) (b + 1) 5 1 bs.length (bytesA bs) v := hv.mono (by rw [next_new]; omega) fun j hj hj' => by rw [get_new, if_neg (by omega), g4 j (by omega)]
  obtain ⟨s1, e1, e2, e3, e4, e5⟩ := hv1.app (by rw [next_new]; omega) (m := 1) (new := [.int .u8 c.toNat]) (by omega) rfl rfl
  have kb := e4 b (by omega)
  rw [get_new, if_neg (by omega), g3] at kb
  rw [next_new, g2] at e1 e2 e3
  refine ⟨s1.put b (.cells [.ptr b 0, .sl (s.next + 1) 0 (bs.length + 1) none 1] 150 false 0 0), ?_, ⟨.ptr b 0, .sl (s.next + 1) 0 (bs.length + 1) none 1, by rw [get_put, if_pos rfl], .inr rfl, by rw [next_put]; omega, ?_⟩, (e5 ((g5 hf).new _)).put (by omega) _, by rw [next_put]; omega, fun j hj => ?_⟩
  · refine kept_go k130 (by kernel_rfl) ?_
    simp +contextual only [go_sem, ↓reduceIte, r130, k182, g1, g2, g3, Nat.add_eq_left, appK_some, hla, hb1, hb2, Nat.reducePow]
    rw [e1]
    simp +contextual only [go_sem, ↓reduceIte, kb]
  · have hl : (bs ++ [c]).length = bs.length + 1 := by simp
    rw [hl]
    have hbb : bytesA (bs ++ [c]) = bytesA bs ++ [.int .u8 c.toNat] := by simp [bytesA]
    rw [hbb]
    exact e3.mono (by rw [next_put]; omega) fun j hj _ => by rw [get_put, if_neg (by omega)]
  · rw [get_put, if_neg (by omega), e4 j (by omega), get_new, if_neg (by omega), g4 j (by omega)]
theorem c131 {s : St} {b : Nat} {bs : Str} (h : BldI s b bs) (hf : Fr s) (t : Str) (ht : t ≠ []) (hlen : bs.length + t.length ≤ 2 ^ 39) :
    ∃ s' r, cal U 79 [.ptr b 0, .str t] s = some (r, s') ∧ BldI s' b (bs ++ t) ∧ Fr s' ∧ s.next ≤ s'.next ∧ ∀ j, j < b → s'.get j = s.get j := by
  obtain ⟨p, v, hg, hp, hb, hv⟩ := h
  obtain ⟨s0, g1, g2, g3, g4, g5⟩ := c182 hg hp hb
  have hla := hv.lenA
  have hb1 : (bs.length + t.length) * 1 ≤ 1099511627776 := by omega
  have hb2 : bs.length + t.length ≤ 1099511627776 := by omega
  have ht0 : (t.length = 0) = False := by simp [ht]
  have hv1 : RowI s0 (b + 1) 5 1 bs.length (bytesA bs) v := hv.mono (by omega) fun j hj hj' => g4 j (by omega)
  obtain ⟨s1, e1, e2, e3, e4, e5⟩ := hv1.app (by omega) (m := t.length) (new := bytesA t) (by intro h0; simp [ht] at h0) (by rw [bytesA_len]; omega) (bytesA_noAgg t)
  have kb := e4 b (by omega)
  rw [g3] at kb
  rw [g2] at e1 e2 e3
  refine ⟨s1.put b (.cells [.ptr b 0, .sl s.next 0 (bs.length + t.length) none 1] 150 false 0 0), .tup [.int .i64 t.length, .nili], ?_, ⟨.ptr b 0, .sl s.next 0 (bs.length + t.length) none 1, by rw [get_put, if_pos rfl], .inr rfl, by rw [next_put]; omega, ?_⟩, (e5 (g5 hf)).put (by omega) _, by rw [next_put]; omega, fun j hj => ?_⟩
  · refine kept_go k131 (by kernel_rfl) ?_
    simp +contextual only [go_sem, ↓reduceIte, r131, k182, g1, g2, g3, source_bytes, Nat.add_eq_left, appK_some, hla, hb1, hb2, Nat.reducePow, bytesA_len, ht0, Nat.mul_one, not_false_eq_true]
    rw [e1]
    simp +contextual only [go_sem, ↓reduceIte, kb]
  · have hl : (bs ++ t).length = bs.length + t.length := by simp
    rw [hl]
    have hbb : bytesA (bs ++ t) = bytesA bs ++ bytesA t := by simp [bytesA]
    rw [hbb]
    exact e3.mono (by rw [next_put]; omega) fun j hj _ => by rw [get_put, if_neg (by omega)]
  · rw [get_put, if_neg (by omega), e4 j (by omega), g4 j (by omega)]
theorem c132 {s : St} {b : Nat} {bs : Str} (h : BldI s b bs) : cal U 80 [.ptr b 0] s = some (.int .i64 bs.length, s) := by
  obtain ⟨p, v, hg, hp, hb, hv⟩ := h
  have hll := hv.len
  refine kept_go k132 (by kernel_rfl) ?_
  simp +contextual only [go_sem, ↓reduceIte, r132, hg, hll]
/-! # The program's printer -/

theorem l66a (c127 : ∀ n : Int, 0 ≤ n → n ≤ 255 → calV U 75 [.int .i64 n] = some (.str (dg n))) {nl : Bool} {steps : List Step} (hst : ∀ s ∈ steps, s.pv) (ts0 : List Str) (hb : (ts0 ++ tkSL steps).length ≤ 1100000000) (hb0 : steps.length ≤ 8) {v0 : AV} {e : Env} {s : St} {ks : List K} {r : Option AV}
    (h5 : Env.get e 5 = v0) (hv : TokI s 9 10 ts0 v0) (hn : 9 < s.next) (hfr : Fr s) (h21 : Env.get e 21 = encS nl (encSteps steps)) (h22 : Env.get e 22 = .int .i64 steps.length) (h23 : Env.get e 23 = .int .i64 0)
    (hk : ∀ e' s' v', Env.get e' 5 = v' → TokI s' 9 10 (ts0 ++ tkSL steps) v' → 9 < s'.next → Fr s' → goX U (finP U [.tmp 2, .tmp 3]) ks 0 e' s' = r) : goL U (finP U [.tmp 2, .tmp 3]) ks r66_l0 e s = r := by
  refine loop_to (σ := Nat × List Str) (fun x => steps.length - x.1) (fun _ => r) (fun x e s => x.1 ≤ steps.length ∧ x.2 ++ tkSL (steps.drop x.1) = ts0 ++ tkSL steps ∧ 9 < s.next ∧ Fr s ∧ Env.get e 21 = encS nl (encSteps steps) ∧ Env.get e 22 = .int .i64 steps.length ∧ Env.get e 23 = .int .i64 x.1 ∧ ∃ v, Env.get e 5 = v ∧ TokI s 9 10 x.2 v) (0, ts0) ?_ rfl ⟨Nat.zero_le _, rfl, hn, hfr, h21, h22, h23, v0, h5, hv⟩
  clear h5 hv hn hfr h21 h22 h23 e s
  rintro L ⟨i, ts⟩ e s ⟨hi, hE, hn, hfr, h21, h22, h23, v, h5, hv⟩ IH
  simp only at hi hE hn hfr h21 h22 h23 h5 hv IH ⊢
  by_cases hd : i < steps.length
  · have hx : (encSteps steps)[i]? = some (encStep steps[i]) := by rw [encSteps_get, List.getElem?_eq_getElem hd]; rfl
    have hw := wrap_succ hd (by omega)
    obtain ⟨p1, p2, p3, p4⟩ := hst steps[i] (List.getElem_mem hd)
    have hc := c128 c127 steps[i].cond p1 p2
    have ht := c127 _ p3.1 p3.2
    have hwi := c127 _ p4.1 p4.2
    have htn := tkP_ne steps[i].cond
    have hm0 : ((tkP steps[i].cond).length = 0) = False := by simp [htn]
    rw [List.drop_eq_getElem_cons hd, tkSL, tkS] at hE
    have hl := congrArg List.length hE
    simp only [List.length_append, List.length_cons, List.length_nil] at hl hb
    rw [encC_cells] at hc
    simp only [Cond.cells, encStep] at hx hc
    rw [encS_ne (encSteps_ne hd)] at h21
    generalize tkP steps[i].cond = tk at *
    have hla := hv.lenA
    have hna := hv.noAgg
    have hB : ∀ n, n ≤ 5 → (ts.length + (tk.length + n)) * 16 ≤ 1099511627776 ∧ ts.length + (tk.length + n) ≤ 1099511627776 := fun n hn => by omega
    obtain ⟨lb0, ld0⟩ := hB 0 (by omega)
    obtain ⟨lb1, ld1⟩ := hB 1 (by omega)
    obtain ⟨lb2, ld2⟩ := hB 2 (by omega)
    obtain ⟨lb3, ld3⟩ := hB 3 (by omega)
    obtain ⟨lb4, ld4⟩ := hB 4 (by omega)
    obtain ⟨lb5, ld5⟩ := hB 5 (by omega)
    rw [Nat.add_zero] at lb0 ld0
    have ne : ∀ a k, a ≤ 9 → (s.next + k = a) = False := fun a k ha => by simp; omega
    have ne' : ∀ a, a ≤ 9 → (s.next = a) = False := fun a ha => by simp; omega
    simp +contextual only [go_sem, ↓reduceIte, r66_l0, h5, h21, h22, h23, nat_lt_dec, hd, hx, hc, hw, appK_some, hm0, Nat.reducePow, Nat.one_mul, Nat.mul_one, hla, hna, lb0, ld0, noAgg_encS, List.length_map, not_false_eq_true]
    have hv0 : ∀ x y, TokI ((s.new x).put s.next y) 9 10 ts v := fun x y => hv.mono (by omega) (by rw [next_put, next_new]; omega) fun j _ hj => by rw [get_put, get_new, if_neg (by omega), if_neg (by omega)]
    obtain ⟨s1, v1, e1, e2, e3, e4, e5, e6⟩ := (hv0 (.cells [.str [], .int .i64 0, .int .i64 0, .int .i64 0, .int .i64 0, .str [], .nils, .int .i64 0, .int .i64 0] 113 false 0 0) (.cells steps[i].cells9 113 false 0 0)).app (by simp only [next_new, next_put]; omega) tk htn (m := tk.length) rfl
    simp only [Step.cells9] at e1
    rw [e1]
    have kn := e6 s.next _ 113 0 0 (by simp only [next_new, next_put]; omega) (by decide) (by rw [get_put, if_pos rfl])
    simp only [next_put, next_new] at e2
    simp only [Step.cells9] at kn
    have hl1 := e3.lenA
    rw [List.length_append] at hl1
    have hn1 := e3.noAgg
    have hfr1 := e5 ((hfr.new _).put (by rw [next_new]; omega) _)
    simp +contextual only [go_sem, ↓reduceIte, kn, ht, hwi, hl1, hn1, appK_some, Nat.reducePow, Nat.one_mul, Nat.mul_one, Nat.add_assoc, Nat.reduceAdd, lb1, ld1, lb2, ld2, lb3, ld3, lb4, ld4, lb5, ld5, not_false_eq_true, Nat.add_eq_left]
    cases ht1 : steps[i].times != 1 <;> cases hw1 : steps[i].within != 0
    all_goals rw [ht1, hw1] at hE
    all_goals simp only [cond_true, cond_false, List.nil_append, List.append_assoc] at hE
    all_goals simp only [br_true, br_false]
    · obtain ⟨ta, va, a1, a2, a3, a4, a5, a6⟩ := (e3.mono (s' := s1.new (.cells (([[59]] : List Str).map AV.str) 9 false 0 0)) (by omega) (by rw [next_new]; omega) fun j _ hj => by rw [get_new, if_neg (by omega)]).app (by rw [next_new]; omega) [[59]] (by simp) (m := 1) rfl
      simp only [List.map_cons, List.map_nil, List.length_append, Nat.add_assoc, Nat.reduceAdd, List.length_cons, List.length_nil] at a1
      rw [a1]
      have hla : lenA va = ts.length + (tk.length + 1) := by rw [a3.lenA]; simp only [List.length_append, List.length_cons, List.length_nil]; omega
      have hna := a3.noAgg
      have hfa := a5 (hfr1.new _)
      rw [next_new] at a2
      have ka := a6 s.next _ 113 0 0 (by rw [next_new]; omega) (by decide) (by rw [get_new, if_neg (by omega)]; exact kn)
      simp +contextual only [go_sem, ↓reduceIte, ka, hla, hna, ht, hwi, h23, hw, appK_some, Nat.reducePow, Nat.one_mul, Nat.mul_one, Nat.add_assoc, Nat.reduceAdd, lb1, ld1, lb2, ld2, lb3, ld3, lb4, ld4, lb5, ld5, not_false_eq_true, Nat.add_eq_left, ht1, hw1]
      refine IH (i + 1, _) _ _ (by simp only; omega) ⟨by simp only; omega, ?_, ?_, hfa, ?_, ?_, ?_, va, ?_, a3⟩
      case refine_1 => simp only [List.append_assoc, List.cons_append, List.nil_append]; rw [← hE]; simp only [List.append_assoc, List.cons_append, List.nil_append]
      all_goals simp +contextual only [go_sem, ↓reduceIte, h21, h22, h23, hw, encS_ne (encSteps_ne hd), a2, e2]
      all_goals first | omega | skip
    · obtain ⟨ta, va, a1, a2, a3, a4, a5, a6⟩ := (e3.mono (s' := s1.new (.cells (([[119, 105, 116, 104, 105, 110], dg steps[i].within] : List Str).map AV.str) 9 false 0 0)) (by omega) (by rw [next_new]; omega) fun j _ hj => by rw [get_new, if_neg (by omega)]).app (by rw [next_new]; omega) [[119, 105, 116, 104, 105, 110], dg steps[i].within] (by simp) (m := 2) rfl
      simp only [List.map_cons, List.map_nil, List.length_append, Nat.add_assoc, Nat.reduceAdd, List.length_cons, List.length_nil] at a1
      rw [a1]
      have hla : lenA va = ts.length + (tk.length + 2) := by rw [a3.lenA]; simp only [List.length_append, List.length_cons, List.length_nil]; omega
      have hna := a3.noAgg
      have hfa := a5 (hfr1.new _)
      rw [next_new] at a2
      have ka := a6 s.next _ 113 0 0 (by rw [next_new]; omega) (by decide) (by rw [get_new, if_neg (by omega)]; exact kn)
      simp +contextual only [go_sem, ↓reduceIte, ka, hla, hna, ht, hwi, h23, hw, appK_some, Nat.reducePow, Nat.one_mul, Nat.mul_one, Nat.add_assoc, Nat.reduceAdd, lb1, ld1, lb2, ld2, lb3, ld3, lb4, ld4, lb5, ld5, not_false_eq_true, Nat.add_eq_left, ht1, hw1]
      obtain ⟨tb, vb, b1, b2, b3, b4, b5, b6⟩ := (a3.mono (s' := ta.new (.cells (([[59]] : List Str).map AV.str) 9 false 0 0)) (by omega) (by rw [next_new]; omega) fun j _ hj => by rw [get_new, if_neg (by omega)]).app (by rw [next_new]; omega) [[59]] (by simp) (m := 1) rfl
      simp only [List.map_cons, List.map_nil, List.length_append, Nat.add_assoc, Nat.reduceAdd, List.length_cons, List.length_nil] at b1
      rw [b1]
      have hlb : lenA vb = ts.length + (tk.length + 3) := by rw [b3.lenA]; simp only [List.length_append, List.length_cons, List.length_nil]; omega
      have hnb := b3.noAgg
      have hfb := b5 (hfa.new _)
      rw [next_new] at b2
      have kb := b6 s.next _ 113 0 0 (by rw [next_new]; omega) (by decide) (by rw [get_new, if_neg (by omega)]; exact ka)
      simp +contextual only [go_sem, ↓reduceIte, kb, hlb, hnb, ht, hwi, h23, hw, appK_some, Nat.reducePow, Nat.one_mul, Nat.mul_one, Nat.add_assoc, Nat.reduceAdd, lb1, ld1, lb2, ld2, lb3, ld3, lb4, ld4, lb5, ld5, not_false_eq_true, Nat.add_eq_left, ht1, hw1]
      refine IH (i + 1, _) _ _ (by simp only; omega) ⟨by simp only; omega, ?_, ?_, hfb, ?_, ?_, ?_, vb, ?_, b3⟩
      case refine_1 => simp only [List.append_assoc, List.cons_append, List.nil_append]; rw [← hE]; simp only [List.append_assoc, List.cons_append, List.nil_append]
      all_goals simp +contextual only [go_sem, ↓reduceIte, h21, h22, h23, hw, encS_ne (encSteps_ne hd), a2, b2, e2]
      all_goals first | omega | skip
    · obtain ⟨ta, va, a1, a2, a3, a4, a5, a6⟩ := (e3.mono (s' := s1.new (.cells (([[116, 105, 109, 101, 115], dg steps[i].times] : List Str).map AV.str) 9 false 0 0)) (by omega) (by rw [next_new]; omega) fun j _ hj => by rw [get_new, if_neg (by omega)]).app (by rw [next_new]; omega) [[116, 105, 109, 101, 115], dg steps[i].times] (by simp) (m := 2) rfl
      simp only [List.map_cons, List.map_nil, List.length_append, Nat.add_assoc, Nat.reduceAdd, List.length_cons, List.length_nil] at a1
      rw [a1]
      have hla : lenA va = ts.length + (tk.length + 2) := by rw [a3.lenA]; simp only [List.length_append, List.length_cons, List.length_nil]; omega
      have hna := a3.noAgg
      have hfa := a5 (hfr1.new _)
      rw [next_new] at a2
      have ka := a6 s.next _ 113 0 0 (by rw [next_new]; omega) (by decide) (by rw [get_new, if_neg (by omega)]; exact kn)
      simp +contextual only [go_sem, ↓reduceIte, ka, hla, hna, ht, hwi, h23, hw, appK_some, Nat.reducePow, Nat.one_mul, Nat.mul_one, Nat.add_assoc, Nat.reduceAdd, lb1, ld1, lb2, ld2, lb3, ld3, lb4, ld4, lb5, ld5, not_false_eq_true, Nat.add_eq_left, ht1, hw1]
      obtain ⟨tb, vb, b1, b2, b3, b4, b5, b6⟩ := (a3.mono (s' := ta.new (.cells (([[59]] : List Str).map AV.str) 9 false 0 0)) (by omega) (by rw [next_new]; omega) fun j _ hj => by rw [get_new, if_neg (by omega)]).app (by rw [next_new]; omega) [[59]] (by simp) (m := 1) rfl
      simp only [List.map_cons, List.map_nil, List.length_append, Nat.add_assoc, Nat.reduceAdd, List.length_cons, List.length_nil] at b1
      rw [b1]
      have hlb : lenA vb = ts.length + (tk.length + 3) := by rw [b3.lenA]; simp only [List.length_append, List.length_cons, List.length_nil]; omega
      have hnb := b3.noAgg
      have hfb := b5 (hfa.new _)
      rw [next_new] at b2
      have kb := b6 s.next _ 113 0 0 (by rw [next_new]; omega) (by decide) (by rw [get_new, if_neg (by omega)]; exact ka)
      simp +contextual only [go_sem, ↓reduceIte, kb, hlb, hnb, ht, hwi, h23, hw, appK_some, Nat.reducePow, Nat.one_mul, Nat.mul_one, Nat.add_assoc, Nat.reduceAdd, lb1, ld1, lb2, ld2, lb3, ld3, lb4, ld4, lb5, ld5, not_false_eq_true, Nat.add_eq_left, ht1, hw1]
      refine IH (i + 1, _) _ _ (by simp only; omega) ⟨by simp only; omega, ?_, ?_, hfb, ?_, ?_, ?_, vb, ?_, b3⟩
      case refine_1 => simp only [List.append_assoc, List.cons_append, List.nil_append]; rw [← hE]; simp only [List.append_assoc, List.cons_append, List.nil_append]
      all_goals simp +contextual only [go_sem, ↓reduceIte, h21, h22, h23, hw, encS_ne (encSteps_ne hd), a2, b2, e2]
      all_goals first | omega | skip
    · obtain ⟨ta, va, a1, a2, a3, a4, a5, a6⟩ := (e3.mono (s' := s1.new (.cells (([[116, 105, 109, 101, 115], dg steps[i].times] : List Str).map AV.str) 9 false 0 0)) (by omega) (by rw [next_new]; omega) fun j _ hj => by rw [get_new, if_neg (by omega)]).app (by rw [next_new]; omega) [[116, 105, 109, 101, 115], dg steps[i].times] (by simp) (m := 2) rfl
      simp only [List.map_cons, List.map_nil, List.length_append, Nat.add_assoc, Nat.reduceAdd, List.length_cons, List.length_nil] at a1
      rw [a1]
      have hla : lenA va = ts.length + (tk.length + 2) := by rw [a3.lenA]; simp only [List.length_append, List.length_cons, List.length_nil]; omega
      have hna := a3.noAgg
      have hfa := a5 (hfr1.new _)
      rw [next_new] at a2
      have ka := a6 s.next _ 113 0 0 (by rw [next_new]; omega) (by decide) (by rw [get_new, if_neg (by omega)]; exact kn)
      simp +contextual only [go_sem, ↓reduceIte, ka, hla, hna, ht, hwi, h23, hw, appK_some, Nat.reducePow, Nat.one_mul, Nat.mul_one, Nat.add_assoc, Nat.reduceAdd, lb1, ld1, lb2, ld2, lb3, ld3, lb4, ld4, lb5, ld5, not_false_eq_true, Nat.add_eq_left, ht1, hw1]
      obtain ⟨tb, vb, b1, b2, b3, b4, b5, b6⟩ := (a3.mono (s' := ta.new (.cells (([[119, 105, 116, 104, 105, 110], dg steps[i].within] : List Str).map AV.str) 9 false 0 0)) (by omega) (by rw [next_new]; omega) fun j _ hj => by rw [get_new, if_neg (by omega)]).app (by rw [next_new]; omega) [[119, 105, 116, 104, 105, 110], dg steps[i].within] (by simp) (m := 2) rfl
      simp only [List.map_cons, List.map_nil, List.length_append, Nat.add_assoc, Nat.reduceAdd, List.length_cons, List.length_nil] at b1
      rw [b1]
      have hlb : lenA vb = ts.length + (tk.length + 4) := by rw [b3.lenA]; simp only [List.length_append, List.length_cons, List.length_nil]; omega
      have hnb := b3.noAgg
      have hfb := b5 (hfa.new _)
      rw [next_new] at b2
      have kb := b6 s.next _ 113 0 0 (by rw [next_new]; omega) (by decide) (by rw [get_new, if_neg (by omega)]; exact ka)
      simp +contextual only [go_sem, ↓reduceIte, kb, hlb, hnb, ht, hwi, h23, hw, appK_some, Nat.reducePow, Nat.one_mul, Nat.mul_one, Nat.add_assoc, Nat.reduceAdd, lb1, ld1, lb2, ld2, lb3, ld3, lb4, ld4, lb5, ld5, not_false_eq_true, Nat.add_eq_left, ht1, hw1]
      obtain ⟨tc, vc, c1, c2, c3, c4, c5, c6⟩ := (b3.mono (s' := tb.new (.cells (([[59]] : List Str).map AV.str) 9 false 0 0)) (by omega) (by rw [next_new]; omega) fun j _ hj => by rw [get_new, if_neg (by omega)]).app (by rw [next_new]; omega) [[59]] (by simp) (m := 1) rfl
      simp only [List.map_cons, List.map_nil, List.length_append, Nat.add_assoc, Nat.reduceAdd, List.length_cons, List.length_nil] at c1
      rw [c1]
      have hlc : lenA vc = ts.length + (tk.length + 5) := by rw [c3.lenA]; simp only [List.length_append, List.length_cons, List.length_nil]; omega
      have hnc := c3.noAgg
      have hfc := c5 (hfb.new _)
      rw [next_new] at c2
      have kc := c6 s.next _ 113 0 0 (by rw [next_new]; omega) (by decide) (by rw [get_new, if_neg (by omega)]; exact kb)
      simp +contextual only [go_sem, ↓reduceIte, kc, hlc, hnc, ht, hwi, h23, hw, appK_some, Nat.reducePow, Nat.one_mul, Nat.mul_one, Nat.add_assoc, Nat.reduceAdd, lb1, ld1, lb2, ld2, lb3, ld3, lb4, ld4, lb5, ld5, not_false_eq_true, Nat.add_eq_left, ht1, hw1]
      refine IH (i + 1, _) _ _ (by simp only; omega) ⟨by simp only; omega, ?_, ?_, hfc, ?_, ?_, ?_, vc, ?_, c3⟩
      case refine_1 => simp only [List.append_assoc, List.cons_append, List.nil_append]; rw [← hE]; simp only [List.append_assoc, List.cons_append, List.nil_append]
      all_goals simp +contextual only [go_sem, ↓reduceIte, h21, h22, h23, hw, encS_ne (encSteps_ne hd), a2, b2, c2, e2]
      all_goals first | omega | skip
  · have : i = steps.length := by omega
    subst this
    rw [List.drop_length, tkSL, List.append_nil] at hE
    subst hE
    simp +contextual only [go_sem, ↓reduceIte, r66_l0, h22, h23, nat_lt_dec, Nat.lt_irrefl]
    exact hk _ _ v (by simp +contextual only [go_sem, ↓reduceIte, h5]) hv hn hfr
/-- what a token can be -/
def tokAny (t : Str) : Bool := tokOk t || (t == [41] || (t == [44] || (t == [59] || t == [40])))
theorem tokAny_ne {t : Str} (h : tokAny t = true) : t ≠ [] := by rintro rfl; cases h
theorem tokAny_ok {t : Str} (h : tokOk t = true) : tokAny t = true := by rw [tokAny, h]; rfl
/-- whether the next token follows at once -/
def flagAt (ts : List Str) : Nat → Bool
  | 0 => true
  | n + 1 => match ts[n]? with
    | some t => t == [40]
    | none => true
theorem jn_at {ts : List Str} {i : Nat} (hd : i < ts.length) : jn (flagAt ts i) (ts.drop i) = (bif flagAt ts i || cont ts[i] then ts[i] else 32 :: ts[i]) ++ jn (flagAt ts (i + 1)) (ts.drop (i + 1)) := by
  rw [List.drop_eq_getElem_cons hd, jn, flagAt, List.getElem?_eq_getElem hd]

theorem flagAt_pos {ts : List Str} {i : Nat} (h0 : 0 < i) (hd : i - 1 < ts.length) : flagAt ts i = (ts[i - 1] == [40]) := by
  cases i with
  | zero => omega
  | succ n =>
    have e : ts[n]? = some (ts[n]'hd) := List.getElem?_eq_getElem hd
    rw [flagAt, e]
    rfl

theorem l66b (c129 : ∀ t, tokAny t = true → calV U 77 [.str [41, 44, 59, 40], .str t] = some (.bool (cont t))) {ts : List Str} (hts : ∀ t ∈ ts, tokAny t = true) (hb : (jn true ts).length ≤ 2 ^ 38) (hb0 : ts.length ≤ 2 ^ 38) {j b : Nat} {cap : Option Nat} {e : Env} {s : St} {ks : List K} {r : Option AV}
    (hj : j < b) (hg : s.get j = some (.cells (ts.map AV.str) 9 false 0 0)) (h5 : Env.get e 5 = .sl j 0 ts.length cap 1) (h54 : Env.get e 54 = .sl j 0 ts.length cap 1) (h55 : Env.get e 55 = .int .i64 ts.length) (h56 : Env.get e 56 = .int .i64 0) (h8 : Env.get e 8 = .ptr b 0) (hB : BldI s b []) (hfr : Fr s)
    (hk : ∀ e' s', Env.get e' 8 = .ptr b 0 → BldI s' b (jn true ts) → goX U (finP U [.tmp 2, .tmp 3]) ks 2 e' s' = r) : goL U (finP U [.tmp 2, .tmp 3]) ks r66_l1 e s = r := by
  refine loop_to (σ := Nat × Str) (fun x => ts.length - x.1) (fun _ => r) (fun x e s => x.1 ≤ ts.length ∧ x.2 ++ jn (flagAt ts x.1) (ts.drop x.1) = jn true ts ∧ s.get j = some (.cells (ts.map AV.str) 9 false 0 0) ∧ Env.get e 5 = .sl j 0 ts.length cap 1 ∧ Env.get e 54 = .sl j 0 ts.length cap 1 ∧ Env.get e 55 = .int .i64 ts.length ∧ Env.get e 56 = .int .i64 x.1 ∧ Env.get e 8 = .ptr b 0 ∧ BldI s b x.2 ∧ Fr s) (0, []) ?_ rfl ⟨Nat.zero_le _, rfl, hg, h5, h54, h55, h56, h8, hB, hfr⟩
  clear hg h5 h54 h55 h56 h8 hB hfr e s
  rintro L ⟨i, bs⟩ e s ⟨hi, hE, hg, h5, h54, h55, h56, h8, hB, hfr⟩ IH
  simp only at hi hE hg h5 h54 h55 h56 h8 hB hfr IH ⊢
  by_cases hd : i < ts.length
  · have hx : (ts.map AV.str)[i]? = some (.str ts[i]) := by rw [List.getElem?_map, List.getElem?_eq_getElem hd]; rfl
    have hw := wrap_succ (n := ts.length) hd (by omega)
    have hti := hts ts[i] (List.getElem_mem hd)
    have h129 := c129 ts[i] hti
    have htn := tokAny_ne hti
    have hE0 := hE
    rw [jn_at hd] at hE
    have hl := congrArg List.length hE
    simp only [List.length_append] at hl
    have fin1 : ∀ (e1 : Env) (s1 : St) (bs1 : Str), Env.get e1 5 = .sl j 0 ts.length cap 1 → Env.get e1 54 = .sl j 0 ts.length cap 1 → Env.get e1 55 = .int .i64 ts.length → Env.get e1 56 = .int .i64 ((i + 1 : Nat) : Int) → Env.get e1 8 = .ptr b 0 → BldI s1 b bs1 → Fr s1 → s1.get j = some (.cells (ts.map AV.str) 9 false 0 0) → bs1 ++ jn (flagAt ts (i + 1)) (ts.drop (i + 1)) = jn true ts →
        goL U (finP U [.tmp 2, .tmp 3]) ks L e1 s1 = r := fun e1 s1 bs1 q5 q54 q55 q56 q8 qB qf qg qE => IH (i + 1, bs1) _ _ (by simp only; omega) ⟨by simp only; omega, qE, qg, q5, q54, q55, q56, q8, qB, qf⟩
    by_cases h0 : 0 < i
    · have hgt : decide ((i : Int) > 0) = true := by rw [decide_eq_true_eq]; omega
      have hw1 : IntKind.i64.wrap ((i : Int) - 1) = ((i - 1 : Nat) : Int) := by rw [wrap_i64 (by omega) (by omega)]; omega
      have hd1 : i - 1 < ts.length := by omega
      have hx1 : (ts.map AV.str)[i - 1]? = some (.str ts[i - 1]) := by rw [List.getElem?_map, List.getElem?_eq_getElem hd1]; rfl
      have hfl : flagAt ts i = (ts[i - 1] == [40]) := flagAt_pos h0 hd1
      cases hcn : cont ts[i]
      · cases hop : ts[i - 1] == [40]
        · rw [hfl, hop, hcn] at hE hl
          simp only [Bool.or_self, cond_false, List.length_cons] at hE hl
          rw [hcn] at h129
          obtain ⟨s1, f1, f2, f3, f4, f5⟩ := c130 hB hfr 32 (by omega)
          have f1' : cal U 78 [.ptr b 0, .int .u8 32] s = some (.nili, s1) := f1
          obtain ⟨s2, r2, g1, g2, g3, g4, g5⟩ := c131 f2 f3 ts[i] htn (by simp only [List.length_append, List.length_singleton]; omega)
          simp +contextual only [go_sem, ↓reduceIte, r66_l1, h5, h54, h55, h56, h8, hg, hx, hd, hx1, hd1, hw, hw1, hgt, h129, hop, nat_lt_dec, Nat.mul_one, k130', k131', f1', g1]
          refine fin1 _ _ (bs ++ [32] ++ ts[i]) ?_ ?_ ?_ ?_ ?_ g2 g3 (by rw [g5 j hj, f5 j hj, hg]) (by rw [← hE]; simp [List.append_assoc])
          all_goals simp +contextual only [go_sem, ↓reduceIte, h5, h54, h55, h56, h8, hw]
        · rw [hfl, hop] at hE hl
          simp only [Bool.true_or, cond_true] at hE hl
          rw [hcn] at h129
          obtain ⟨s2, r2, g1, g2, g3, g4, g5⟩ := c131 hB hfr ts[i] htn (by omega)
          simp +contextual only [go_sem, ↓reduceIte, r66_l1, h5, h54, h55, h56, h8, hg, hx, hd, hx1, hd1, hw, hw1, hgt, h129, hop, nat_lt_dec, Nat.mul_one, k130', k131', g1]
          refine fin1 _ _ (bs ++ ts[i]) ?_ ?_ ?_ ?_ ?_ g2 g3 (by rw [g5 j hj, hg]) (by rw [← hE]; simp [List.append_assoc])
          all_goals simp +contextual only [go_sem, ↓reduceIte, h5, h54, h55, h56, h8, hw]
      · rw [hcn] at hE hl h129
        simp only [Bool.or_true, cond_true] at hE hl
        obtain ⟨s2, r2, g1, g2, g3, g4, g5⟩ := c131 hB hfr ts[i] htn (by omega)
        simp +contextual only [go_sem, ↓reduceIte, r66_l1, h5, h54, h55, h56, h8, hg, hx, hd, hw, hgt, h129, nat_lt_dec, Nat.mul_one, k130', k131', g1]
        refine fin1 _ _ (bs ++ ts[i]) ?_ ?_ ?_ ?_ ?_ g2 g3 (by rw [g5 j hj, hg]) (by rw [← hE]; simp [List.append_assoc])
        all_goals simp +contextual only [go_sem, ↓reduceIte, h5, h54, h55, h56, h8, hw]
    · have hi0 : i = 0 := by omega
      have hgt : decide ((i : Int) > 0) = false := by rw [decide_eq_false_iff_not]; omega
      have hfl : flagAt ts i = true := by rw [hi0]; rfl
      rw [hfl] at hE hl
      simp only [Bool.true_or, cond_true] at hE hl
      obtain ⟨s2, r2, g1, g2, g3, g4, g5⟩ := c131 hB hfr ts[i] htn (by omega)
      simp +contextual only [go_sem, ↓reduceIte, r66_l1, h5, h54, h55, h56, h8, hg, hx, hd, hw, hgt, nat_lt_dec, Nat.mul_one, k130', k131', g1]
      refine fin1 _ _ (bs ++ ts[i]) ?_ ?_ ?_ ?_ ?_ g2 g3 (by rw [g5 j hj, hg]) (by rw [← hE]; simp [List.append_assoc])
      all_goals simp +contextual only [go_sem, ↓reduceIte, h5, h54, h55, h56, h8, hw]
  · have : i = ts.length := by omega
    subst this
    rw [List.drop_length, jn, List.append_nil] at hE
    subst hE
    simp +contextual only [go_sem, ↓reduceIte, r66_l1, h55, h56, nat_lt_dec, Nat.lt_irrefl]
    exact hk _ _ (by simp +contextual only [go_sem, ↓reduceIte, h8]) hB

theorem toks_any : ∀ c : Cond, c.pv → ∀ t ∈ tkP c, tokAny t = true := by
  intro c
  induction c using Cond.ind with
  | h k a b mi ma pat nl kids ih =>
  intro h t ht
  rw [Cond.pv] at h
  obtain ⟨h1, _, _, _, _, _, h7, _, h9⟩ := h
  have hn : ∀ (fs : List (Bool × Int)) (t : Str), t ∈ numsT fs → tokAny t = true := by
    intro fs
    induction fs with
    | nil => intro t ht; cases ht
    | cons f fs ihf =>
      intro t ht
      rw [numsT] at ht
      rcases List.mem_append.1 ht with h | h
      · cases hf : f.1 <;> rw [hf] at h
        · cases h
        · simp only [cond_true, List.mem_singleton] at h
          subst h; exact tokAny_ok (dg_tok _)
      · exact ihf t h
  have hkk : ∀ ks : List Cond, (∀ x ∈ ks, x ∈ kids) → ∀ (f : Bool) (t : Str), t ∈ tkPL f ks → tokAny t = true := by
    intro ks
    induction ks with
    | nil => intro _ f t ht; rw [tkPL] at ht; cases ht
    | cons c ks ihk =>
      intro hm f t ht
      rw [tkPL] at ht
      rcases List.mem_cons.1 ht with rfl | ht
      · cases f <;> rfl
      · rcases List.mem_append.1 ht with h | h
        · exact ih c (hm c (List.mem_cons_self ..)) (h9 c (hm c (List.mem_cons_self ..))) t h
        · exact ihk (fun x hx => hm x (List.mem_cons_of_mem _ hx)) false t h
  rw [tkP] at ht
  rcases List.mem_cons.1 ht with rfl | ht
  · exact tokAny_ok (kd_tok h1).2
  rcases List.mem_append.1 ht with h | ht
  · exact hn _ t h
  rcases List.mem_append.1 ht with h | ht
  · cases hu : (usesOf (kdOf k)).pat <;> rw [hu] at h
    · cases h
    · simp only [cond_true, List.mem_singleton] at h
      subst h; exact tokAny_ok (h7 hu)
  rcases List.mem_append.1 ht with h | h
  · exact hkk kids (fun _ h => h) true t h
  · cases hu : (usesOf (kdOf k)).kids <;> rw [hu] at h
    · cases h
    · simp only [cond_true, List.mem_singleton] at h
      subst h; rfl
theorem toks_anyL : ∀ l : List Step, (∀ s ∈ l, s.pv) → ∀ t ∈ tkSL l, tokAny t = true
  | [], _, t, ht => by cases ht
  | s :: l, h, t, ht => by
    rw [tkSL] at ht
    rcases List.mem_append.1 ht with ht | ht
    · rw [tkS] at ht
      rcases List.mem_append.1 ht with ht | ht
      · exact toks_any s.cond (h s (List.mem_cons_self ..)).1 t ht
      · cases h1 : s.times != 1 <;> cases h2 : s.within != 0 <;> rw [h1, h2] at ht <;> simp only [cond_true, cond_false, List.nil_append, List.cons_append, List.mem_cons, List.not_mem_nil, or_false] at ht
        · subst ht; rfl
        · rcases ht with rfl | rfl | rfl
          · rfl
          · exact tokAny_ok (dg_tok _)
          · rfl
        · rcases ht with rfl | rfl | rfl
          · rfl
          · exact tokAny_ok (dg_tok _)
          · rfl
        · rcases ht with rfl | rfl | rfl | rfl | rfl
          · rfl
          · exact tokAny_ok (dg_tok _)
          · rfl
          · exact tokAny_ok (dg_tok _)
          · rfl
    · exact toks_anyL l (fun x hx => h x (List.mem_cons_of_mem _ hx)) t ht
theorem toks_anyP {p : Prog} (h : p.pv) : ∀ t ∈ toksP p, tokAny t = true := by
  intro t ht
  rw [toksP] at ht
  rcases List.mem_cons.1 ht with rfl | ht
  · rfl
  rcases List.mem_cons.1 ht with rfl | ht
  · exact tokAny_ok (dg_tok _)
  rcases List.mem_cons.1 ht with rfl | ht
  · rfl
  · exact toks_anyL _ h.2.2 t ht
theorem tkSL_len : ∀ {l : List Step}, (∀ s ∈ l, s.pv) → (tkSL l).length ≤ l.length * 2 ^ 25
  | [], _ => by simp [tkSL]
  | s :: l, h => by
    have a1 := tkP_len s.cond
    have a2 := tkSL_len fun x hx => h x (List.mem_cons_of_mem _ hx)
    have a3 := (h s (List.mem_cons_self ..)).2.1
    have b1 : (bif s.times != 1 then [[116, 105, 109, 101, 115], dg s.times] else []).length ≤ 2 := by cases s.times != 1 <;> simp
    have b2 : (bif s.within != 0 then [[119, 105, 116, 104, 105, 110], dg s.within] else []).length ≤ 2 := by cases s.within != 0 <;> simp
    rw [tkSL, tkS, List.length_cons, Nat.add_mul]
    simp only [List.length_append, List.length_cons, List.length_nil]
    omega

theorem c66 (c127 : ∀ n : Int, 0 ≤ n → n ≤ 255 → calV U 75 [.int .i64 n] = some (.str (dg n))) (c129 : ∀ t, tokAny t = true → calV U 77 [.str [41, 44, 59, 40], .str t] = some (.bool (cont t)))
    (c133 : ∀ (s : St) (b : Nat) (bs : Str), BldI s b bs → bs.length ≤ 2 ^ 39 → ∃ s', cal U 81 [.ptr b 0] s = some (.str bs, s'))
    (p : Prog) (h : p.pv) (hf : p.fits) (hok : cpR p = 0) : calV U 24 [encP p] = some (outR p) := by
  have h64 := c64 p hf
  rw [cp_eq, hok] at h64
  have hT := jn_prog h
  have hTL := textR_len h
  have hany := toks_anyP h
  have hlen := tkSL_len h.2.2
  have hst := h.2.2
  have hn8 := h.2.1
  have hdl := c127 _ h.1.1 h.1.2
  rw [outR, ← hT]
  rw [← hT] at hTL
  have hb2 : (toksP p).length ≤ 2 ^ 29 := by
    rw [toksP]
    have : p.steps.length * 2 ^ 25 ≤ 8 * 2 ^ 25 := Nat.mul_le_mul_right _ hn8
    simp only [List.length_cons]; omega
  obtain ⟨lines, nl, steps⟩ := p
  simp only at hst hn8 hdl
  refine pure_go k66 (by kernel_rfl) (by simp [stills, still_encP]) ?_
  rw [encP_eq] at h64 ⊢
  simp (config := { maxSteps := 2000000 }) +contextual only [go_sem, ↓reduceIte, r66, h64, hdl, lenL_encS, encSteps_len, cells_encS, noAgg_encS]
  refine l66a c127 hst [[108, 105, 110, 101, 115], dg lines, [59]] (by rw [toksP] at hb2; simp only [List.length_append, List.length_cons, List.length_nil] at hb2 ⊢; omega) hn8 (nl := nl) (v0 := .sl 9 0 3 (some 3) 1) ?_ ⟨by simp, 9, ?_, ?_, .inr ⟨Nat.le_refl _, rfl⟩⟩ ?_ ?_ ?_ ?_ ?_ ?_
  case refine_5 =>
    repeat first | exact Fr.own | apply Fr.new | apply Fr.put | apply Fr.upto
    all_goals simp +contextual only [go_sem, ↓reduceIte]
  case refine_9 =>
    intro e s v h5 hv hn hfr
    have hll := hv.lenL
    have htk : [[108, 105, 110, 101, 115], dg lines, [59]] ++ tkSL steps = toksP ⟨lines, nl, steps⟩ := rfl
    rw [htk] at hll hv
    obtain ⟨hne, j, hj, hg, hcase⟩ := hv
    have hv' : ∃ cap, v = .sl j 0 (toksP ⟨lines, nl, steps⟩).length cap 1 := by
      rcases hcase with ⟨_, rfl⟩ | ⟨_, rfl⟩
      · exact ⟨_, rfl⟩
      · exact ⟨_, rfl⟩
    obtain ⟨cap, rfl⟩ := hv'
    simp (config := { maxSteps := 2000000 }) +contextual only [go_sem, ↓reduceIte, h5, hll]
    refine l66b c129 hany (by omega) (by omega) (j := j) (b := s.next) (cap := cap) hj ?_ ?_ ?_ ?_ ?_ ?_ ⟨.nilp, .nils, ?_, .inl rfl, ?_, RowI.nil _ _ _ _⟩ (hfr.new _) ?_
    case refine_9 =>
      intro e' s' g8 gB
      obtain ⟨s'', h133⟩ := c133 s' _ _ gB (by omega)
      have h132 := c132 gB
      simp (config := { maxSteps := 2000000 }) +contextual only [go_sem, ↓reduceIte, g8, k132', k133', h132, h133]
    have hne : ¬ s.next = j := by omega
    all_goals simp +contextual only [go_sem, ↓reduceIte, h5, hg, hne]
    all_goals first | omega | rfl | skip
  all_goals simp +contextual only [go_sem, ↓reduceIte]
  all_goals rfl
/-! # Programs in order can be printed; programs in the other package's types -/

theorem badPat_ok {pat : Str} {lines : Int} (h : badPat pat lines = false) (hl : 1 ≤ lines) (hl' : lines ≤ 16) : pat.length ≤ 40 ∧ tokOk pat = true := by
  rw [badPat, Bool.or_eq_false_iff] at h
  obtain ⟨h1, h2⟩ := h
  have hlen : (pat.length : Int) = lines := by simpa using h1
  refine ⟨by omega, ?_⟩
  cases pat with
  | nil => simp at hlen; omega
  | cons c l =>
    rw [List.any_cons, Bool.or_eq_false_iff] at h2
    have hc := h2.1
    rw [tokOk]
    have : ∀ d : UInt8, (c != 48 && c != 49 && c != 120) = false → d ≠ 48 → d ≠ 49 → d ≠ 120 → (c == d) = false := fun d hh a1 a2 a3 => by
      rw [beq_eq_false_iff_ne]; rintro rfl
      simp [a1, a2, a3] at hh
    rw [this 40 hc (by decide) (by decide) (by decide), this 41 hc (by decide) (by decide) (by decide), this 44 hc (by decide) (by decide) (by decide), this 59 hc (by decide) (by decide) (by decide)]
    rfl
theorem pv_of {lines : Int} (hl : 1 ≤ lines) (hl' : lines ≤ 16) : ∀ (c : Cond) (d : Int), ckR lines c d = 0 → c.pv := by
  intro c
  induction c using Cond.ind with
  | h k a b mi ma pat nl kids ih =>
  intro d h
  rw [ckR] at h
  obtain ⟨_, h⟩ := br_zero (by omega) h
  obtain ⟨hk, h⟩ := br_zero (by omega) h
  obtain ⟨hu, h⟩ := br_zero (by omega) h
  obtain ⟨ho, h⟩ := br_zero (by omega) h
  obtain ⟨_, h⟩ := br_zero (by omega) h
  obtain ⟨hm, h⟩ := br_zero (by omega) h
  obtain ⟨_, h⟩ := br_zero (by omega) h
  obtain ⟨hp, h⟩ := br_zero (by omega) h
  obtain ⟨_, h⟩ := br_zero (by omega) h
  obtain ⟨_, h⟩ := br_zero (by omega) h
  obtain ⟨h8, h⟩ := br_zero (by omega) h
  have hkids := ckRL_mem h
  have hw : IntKind.i64.wrap (lines - 1) = lines - 1 := wrap_i64 (by omega) (by omega)
  rw [hw] at ho
  have hk : (kdOf k).known = true := by simpa using hk
  rw [Cond.pv]
  generalize hU : usesOf (kdOf k) = u at *
  obtain ⟨ua, ub, um, ux, up, uk⟩ := u
  simp only [Bool.or_eq_false_iff] at hu ho hm
  obtain ⟨⟨⟨⟨⟨u1, u2⟩, u3⟩, u4⟩, u5⟩, u6⟩ := hu
  have z : ∀ {p : Bool} {n : Int}, (!p && n != 0) = false → p = false → n = 0 := fun {p n} h hp => by subst hp; simpa using h
  refine ⟨hk, ?_, ?_, ?_, ?_, ?_, ?_, ?_, fun x hx => ih x hx _ (hkids x hx)⟩
  · cases ua
    · have := z u1 rfl; omega
    · have := outside_false (by simpa using ho.1 : outside a 0 (lines - 1) = false); omega
  · cases ub
    · have := z u2 rfl; omega
    · have := outside_false (by simpa using ho.2 : outside b 0 (lines - 1) = false); omega
  · cases um
    · have := z u3 rfl; omega
    · have := outside_false (by simpa using hm.1 : outside mi 1 255 = false); omega
  · cases ux
    · have := z u4 rfl; omega
    · have := outside_false (by simpa using hm.2 : outside ma 1 255 = false); omega
  · cases up
    · have : pat = [] := by simpa using u5
      rw [this]; simp
    · exact (badPat_ok (by simpa using hp) hl hl').1
  · intro hp'
    simp only at hp'
    subst hp'
    exact (badPat_ok (by simpa using hp) hl hl').2
  · cases uk
    · have : kids.length = 0 := by simpa using u6
      omega
    · simp only [Bool.true_and, decide_eq_false_iff_not] at h8; omega
theorem Prog.ok.pv {p : Prog} (h : p.ok) (hl : ∀ s ∈ p.steps, leaves s.cond < 2 ^ 20) : p.pv :=
  ⟨⟨by have := h.lines; omega, by have := h.lines; omega⟩, h.few, fun s hs => ⟨pv_of h.lines.1 h.lines.2 _ _ (h.cond s hs), hl s hs, ⟨by have := h.tm s hs; omega, by have := h.tm s hs; omega⟩, h.wi s hs⟩⟩

/-! nil or not makes no difference -/
theorem normL_len (l : List Cond) : (normL l).length = l.length := by rw [normL_map]; simp
theorem ckR_norm (lines : Int) : ∀ (c : Cond) (d : Int), ckR lines c.norm d = ckR lines c d := by
  intro c
  induction c using Cond.ind with
  | h k a b mi ma pat nl kids ih =>
  intro d
  have hL : ∀ l : List Cond, (∀ x ∈ l, x ∈ kids) → ∀ d, ckRL lines (normL l) d = ckRL lines l d := by
    intro l
    induction l with
    | nil => intro _ d; rfl
    | cons c l ihl =>
      intro hm d
      rw [normL, ckRL, ckRL, ih c (hm c (List.mem_cons_self ..)), ihl fun x hx => hm x (List.mem_cons_of_mem _ hx)]
  rw [Cond.norm, ckR, ckR, normL_len, hL kids fun _ h => h]
theorem prR_norm : ∀ c : Cond, prR c.norm = prR c := by
  intro c
  induction c using Cond.ind with
  | h k a b mi ma pat nl kids ih =>
  have hL : ∀ l : List Cond, (∀ x ∈ l, x ∈ kids) → ∀ f, prRL f (normL l) = prRL f l := by
    intro l
    induction l with
    | nil => intro _ f; rfl
    | cons c l ihl =>
      intro hm f
      rw [normL, prRL, prRL, ih c (hm c (List.mem_cons_self ..)), ihl fun x hx => hm x (List.mem_cons_of_mem _ hx)]
  rw [Cond.norm, prR, prR, hL kids fun _ h => h]
theorem fits_norm : ∀ c : Cond, c.fits → c.norm.fits := by
  intro c
  induction c using Cond.ind with
  | h k a b mi ma pat nl kids ih =>
  intro h
  rw [Cond.fits] at h
  rw [Cond.norm, Cond.fits, normL_len]
  refine ⟨h.1, h.2.1, fun x hx => ?_⟩
  rw [normL_map] at hx
  obtain ⟨y, hy, rfl⟩ := List.mem_map.1 hx
  exact ih y hy (h.2.2 y hy)
theorem cpRL_norm (lines : Int) : ∀ (l : List Step) (i : Nat), cpRL lines i (l.map Step.norm) = cpRL lines i l
  | [], _ => rfl
  | s :: l, i => by
    rw [List.map_cons, cpRL, cpRL, cpRL_norm lines l]
    simp only [Step.norm, ckR_norm]
theorem cpR_norm (p : Prog) : cpR p.norm = cpR p := by
  rw [cpR, cpR, Prog.norm]
  simp only [List.length_map, cpRL_norm]
theorem prSL_norm : ∀ l : List Step, prSL (l.map Step.norm) = prSL l
  | [] => rfl
  | s :: l => by
    rw [List.map_cons, prSL, prSL, prSL_norm l, prS, prS]
    simp only [Step.norm, prR_norm]
theorem textR_norm (p : Prog) : textR p.norm = textR p := by
  rw [textR, textR, Prog.norm]
  simp only [prSL_norm]
theorem outR_norm (p : Prog) : outR p.norm = outR p := by rw [outR, outR, textR_norm]
theorem Prog.fits_norm {p : Prog} (h : p.fits) : p.norm.fits := by
  refine ⟨by rw [Prog.norm]; simpa using h.1, fun s hs => ?_⟩
  rw [Prog.norm] at hs
  obtain ⟨y, hy, rfl⟩ := List.mem_map.1 hs
  exact Am.fits_norm _ (h.2 y hy)

/-! # A condition in order is read as it is printed -/

section
variable (en : Nat)
theorem rd_numIf {u : Bool} {n bad : Int} {A B : List Tok} (hb : bad < 0) (h0 : 0 ≤ n) (h1 : n ≤ 255) (hz : u = false → n = 0) (hA : A.map (·.txt) = bif u then [dg n] else []) : rnumIf en u ⟨A ++ B, bad⟩ = (n, ⟨B, bad⟩) := by
  unfold rnumIf
  cases u with
  | false =>
    rw [br_false, hz rfl]
    have : A = [] := by simpa using hA
    rw [this]; rfl
  | true =>
    rw [br_true]
    obtain ⟨t, rfl, ht⟩ := List.map_eq_singleton_iff.1 (by simpa using hA : A.map (·.txt) = [dg n])
    exact rd_num en hb h0 h1 ht
theorem rd_wordIf {u : Bool} {p : Str} {bad : Int} {A B : List Tok} (hb : bad < 0) (hw : u = true → tokW p = true) (hz : u = false → p = []) (hA : A.map (·.txt) = bif u then [p] else []) : rwordIf en u ⟨A ++ B, bad⟩ = (p, ⟨B, bad⟩) := by
  unfold rwordIf
  cases u with
  | false =>
    rw [br_false, hz rfl]
    have : A = [] := by simpa using hA
    rw [this]; rfl
  | true =>
    rw [br_true]
    obtain ⟨t, rfl, ht⟩ := List.map_eq_singleton_iff.1 (by simpa using hA : A.map (·.txt) = [p])
    have := rd_word en (t := t) (l := B) hb (by rw [ht]; exact hw rfl)
    rw [ht] at this; exact this
/-- what a check that finds nothing tells -/
structure CkOk (lines : Int) (k : Str) (a b mi ma : Int) (p : Str) (kids : List Cond) (d : Int) : Prop where
  dep : d ≤ 4
  known : (kdOf k).known = true
  a : 0 ≤ a ∧ a ≤ 255 ∧ ((usesOf (kdOf k)).a = false → a = 0)
  b : 0 ≤ b ∧ b ≤ 255 ∧ ((usesOf (kdOf k)).b = false → b = 0)
  mi : 0 ≤ mi ∧ mi ≤ 255 ∧ ((usesOf (kdOf k)).mi = false → mi = 0)
  ma : 0 ≤ ma ∧ ma ≤ 255 ∧ ((usesOf (kdOf k)).ma = false → ma = 0)
  p : ((usesOf (kdOf k)).pat = true → tokW p = true) ∧ ((usesOf (kdOf k)).pat = false → p = [])
  none : (usesOf (kdOf k)).kids = false → kids = []
  some : (usesOf (kdOf k)).kids = true → kids ≠ []
  one : (k == sNot) = true → kids.length = 1
  kids : ∀ x ∈ kids, ckR lines x (IntKind.i64.wrap (d + 1)) = 0
theorem badPat_w {pat : Str} {lines : Int} (h : badPat pat lines = false) (hl : 1 ≤ lines) : tokW pat = true := by
  rw [badPat, Bool.or_eq_false_iff] at h
  obtain ⟨h1, h2⟩ := h
  have hlen : (pat.length : Int) = lines := by simpa using h1
  rw [tokW, Bool.and_eq_true]
  refine ⟨?_, ?_⟩
  · cases pat with
    | nil => simp at hlen; omega
    | cons c l => rfl
  · rw [List.all_eq_true]
    intro c hc
    have := List.any_eq_false.1 h2 c hc
    have h3 : c = 48 ∨ c = 49 ∨ c = 120 := by
      by_cases a1 : c = 48
      · exact .inl a1
      by_cases a2 : c = 49
      · exact .inr (.inl a2)
      by_cases a3 : c = 120
      · exact .inr (.inr a3)
      exact absurd (by simp [a1, a2, a3]) this
    rcases h3 with rfl | rfl | rfl <;> rfl
theorem ckOk {lines : Int} (hl : 1 ≤ lines) (hl' : lines ≤ 16) {k : Str} {a b mi ma : Int} {pat : Str} {nl : Bool} {kids : List Cond} {d : Int} (h : ckR lines (.mk k a b mi ma pat nl kids) d = 0) : CkOk lines k a b mi ma pat kids d := by
  rw [ckR] at h
  obtain ⟨hd, h⟩ := br_zero (by omega) h
  obtain ⟨hk, h⟩ := br_zero (by omega) h
  obtain ⟨hu, h⟩ := br_zero (by omega) h
  obtain ⟨ho, h⟩ := br_zero (by omega) h
  obtain ⟨_, h⟩ := br_zero (by omega) h
  obtain ⟨hm, h⟩ := br_zero (by omega) h
  obtain ⟨_, h⟩ := br_zero (by omega) h
  obtain ⟨hp, h⟩ := br_zero (by omega) h
  obtain ⟨h1, h⟩ := br_zero (by omega) h
  obtain ⟨h0, h⟩ := br_zero (by omega) h
  obtain ⟨h8, h⟩ := br_zero (by omega) h
  have hkids := ckRL_mem h
  have hw : IntKind.i64.wrap (lines - 1) = lines - 1 := wrap_i64 (by omega) (by omega)
  rw [hw] at ho
  have hk : (kdOf k).known = true := by simpa using hk
  generalize hU : usesOf (kdOf k) = u at *
  obtain ⟨ua, ub, um, ux, up, uk⟩ := u
  simp only [Bool.or_eq_false_iff] at hu ho hm
  obtain ⟨⟨⟨⟨⟨u1, u2⟩, u3⟩, u4⟩, u5⟩, u6⟩ := hu
  have z : ∀ {p : Bool} {n : Int}, (!p && n != 0) = false → p = false → n = 0 := fun {p n} h hp => by subst hp; simpa using h
  rw [decide_eq_false_iff_not] at hd
  refine ⟨by omega, hk, ?_, ?_, ?_, ?_, ?_, ?_, ?_, ?_, fun x hx => hkids x hx⟩
  · cases ua
    · have := z u1 rfl; exact ⟨by omega, by omega, fun _ => this⟩
    · have := outside_false (by simpa using ho.1 : outside a 0 (lines - 1) = false); exact ⟨by omega, by omega, fun h => by rw [hU] at h; cases h⟩
  · cases ub
    · have := z u2 rfl; exact ⟨by omega, by omega, fun _ => this⟩
    · have := outside_false (by simpa using ho.2 : outside b 0 (lines - 1) = false); exact ⟨by omega, by omega, fun h => by rw [hU] at h; cases h⟩
  · cases um
    · have := z u3 rfl; exact ⟨by omega, by omega, fun _ => this⟩
    · have := outside_false (by simpa using hm.1 : outside mi 1 255 = false); exact ⟨by omega, by omega, fun h => by rw [hU] at h; cases h⟩
  · cases ux
    · have := z u4 rfl; exact ⟨by omega, by omega, fun _ => this⟩
    · have := outside_false (by simpa using hm.2 : outside ma 1 255 = false); exact ⟨by omega, by omega, fun h => by rw [hU] at h; cases h⟩
  · have hup : up = false → pat = [] := fun h => by subst h; simpa using u5
    have hup2 : up = true → tokW pat = true := fun h => by subst h; exact badPat_w (by simpa using hp) hl
    refine ⟨fun h => hup2 ?_, fun h => hup ?_⟩
    · rw [hU] at h; exact h
    · rw [hU] at h; exact h
  · intro hk0
    rw [hU] at hk0
    simp only at hk0
    subst hk0
    exact List.length_eq_zero_iff.1 (by simpa using u6)
  · intro hk0
    rw [hU] at hk0
    simp only at hk0
    subst hk0
    rintro rfl
    simp at h0
  · intro hn
    have hn : (k == [110, 111, 116]) = true := hn
    rw [hn, Bool.true_and] at h1
    have : (kids.length : Int) = 1 := by simpa using h1
    omega
def fwdC (lines : Int) (c : Cond) : Prop := ∀ (d bad : Int) (n : Nat) (A B : List Tok), ckR lines c d = 0 → bad < 0 → (tkP c).length ≤ n → A.map (·.txt) = tkP c → rcond en n ⟨A ++ B, bad⟩ = (c.norm, ⟨B, bad⟩)
theorem map_app {A : List Tok} {x y : List Str} (h : A.map (·.txt) = x ++ y) : ∃ A1 A2, A = A1 ++ A2 ∧ A1.map (·.txt) = x ∧ A2.map (·.txt) = y := by
  obtain ⟨A1, A2, h1, h2, h3⟩ := List.map_eq_append_iff.1 h
  exact ⟨A1, A2, h1, h2, h3⟩
theorem map_con {A : List Tok} {x : Str} {y : List Str} (h : A.map (·.txt) = x :: y) : ∃ t A2, A = t :: A2 ∧ t.txt = x ∧ A2.map (·.txt) = y := by
  obtain ⟨t, A2, h1, h2, h3⟩ := List.map_eq_cons_iff.1 h
  exact ⟨t, A2, h1, h2, h3⟩
theorem fwd_kids {lines : Int} {d bad : Int} (hb : bad < 0) : ∀ (l : List Cond) (nt : Bool) (n : Nat) (A : List Tok) (u : Tok) (B : List Tok), (∀ x ∈ l, fwdC en lines x) → (∀ x ∈ l, ckR lines x d = 0) → l ≠ [] → (nt = true → l.length = 1) → (tkPL true l).length ≤ n → [40] :: A.map (·.txt) = tkPL true l → u.txt = [41] →
    rkids en n nt ⟨A ++ u :: B, bad⟩ = (normL l, ⟨u :: B, bad⟩)
  | [], nt, n, A, u, B, _, _, h0, _, _, _, _ => absurd rfl h0
  | c :: l, nt, n, A, u, B, hc, hk, _, hnt, hn, hA, hu => by
    rw [tkPL] at hA hn
    simp only [cond_true, List.cons.injEq, true_and] at hA
    obtain ⟨A1, A2, rfl, hA1, hA2⟩ := map_app hA
    simp only [cond_true, List.length_cons, List.length_append] at hn
    obtain ⟨n, rfl⟩ : ∃ q, n = q + 1 := ⟨n - 1, by omega⟩
    have h1 := hc c (by simp) d bad n A1 (A2 ++ u :: B) (hk c (by simp)) hb (by omega) hA1
    rw [rkids, List.append_assoc, h1]
    simp only
    cases l with
    | nil =>
      rw [tkPL] at hA2
      have : A2 = [] := by simpa using hA2
      subst this
      rw [List.nil_append, rd_is hb, hu]
      have : ([41] == ([44] : Str)) = false := rfl
      rw [this, Bool.and_false, br_false, normL, normL]
    | cons c2 l =>
      have hnf : nt = false := by
        cases nt
        · rfl
        · have := hnt rfl; simp at this
      rw [tkPL] at hA2
      simp only [cond_false] at hA2
      obtain ⟨v, A3, rfl, hv, hA3⟩ := map_con hA2
      have ih := fwd_kids hb (c2 :: l) nt n A3 u B (fun x hx => hc x (List.mem_cons_of_mem _ hx)) (fun x hx => hk x (List.mem_cons_of_mem _ hx)) (by simp) (fun h => by rw [hnf] at h; cases h) (by
        have e1 : (tkPL true (c2 :: l)).length = (tkPL false (c2 :: l)).length := by rw [tkPL, tkPL]; simp
        omega) (by rw [tkPL, hA3]; rfl) hu
      rw [List.cons_append, rd_is hb, hv, hnf, rd_take en hb hv]
      have : ([44] == ([44] : Str)) = true := rfl
      rw [this, Bool.not_false, Bool.and_true, br_true]
      rw [hnf] at ih
      rw [ih]
      simp only [normL]
theorem fwd_cond {lines : Int} (hl : 1 ≤ lines) (hl' : lines ≤ 16) : ∀ c : Cond, fwdC en lines c := by
  intro c
  induction c using Cond.ind with
  | h k a b mi ma pat nl kids ih =>
    intro d bad n A B hck hb hn hA
    have ok := ckOk hl hl' hck
    rw [tkP] at hA hn
    obtain ⟨t, A, rfl, ht, hA⟩ := map_con hA
    simp only [numsT, List.append_assoc, List.append_nil] at hA hn
    simp only [List.length_cons, List.length_append] at hn
    obtain ⟨A1, A, rfl, hA1, hA⟩ := map_app hA
    obtain ⟨A2, A, rfl, hA2, hA⟩ := map_app hA
    obtain ⟨A3, A, rfl, hA3, hA⟩ := map_app hA
    obtain ⟨A4, A, rfl, hA4, hA⟩ := map_app hA
    obtain ⟨A5, A, rfl, hA5, hA⟩ := map_app hA
    obtain ⟨n, rfl⟩ : ∃ q, n = q + 1 := ⟨n - 1, by omega⟩
    rw [rcond, List.cons_append, rd_kind hb, ht, ok.known, rd_take en hb ht, Bool.not_true, br_false]
    have hf : rflds en k (usesOf (kdOf k)) ⟨(A1 ++ (A2 ++ (A3 ++ (A4 ++ (A5 ++ A))))) ++ B, bad⟩ = (.mk k a b mi ma pat true [], ⟨A ++ B, bad⟩) := by
      unfold rflds
      simp only [List.append_assoc]
      rw [rd_numIf en hb ok.a.1 ok.a.2.1 ok.a.2.2 hA1]
      simp only
      rw [rd_numIf en hb ok.b.1 ok.b.2.1 ok.b.2.2 hA2]
      simp only
      rw [rd_numIf en hb ok.mi.1 ok.mi.2.1 ok.mi.2.2 hA3]
      simp only
      rw [rd_numIf en hb ok.ma.1 ok.ma.2.1 ok.ma.2.2 hA4]
      simp only
      rw [rd_wordIf en hb ok.p.1 ok.p.2 hA5]
    rw [hf]
    simp only
    cases hu : (usesOf (kdOf k)).kids with
    | false =>
      have h0 := ok.none hu
      subst h0
      rw [hu, tkPL] at hA
      have : A = [] := by simpa using hA
      subst this
      rw [Bool.not_false, br_true, Cond.norm, normL]; rfl
    | true =>
      rw [hu, cond_true] at hA hn
      have h0 := ok.some hu
      obtain ⟨A6, A7, rfl, hA6, hA7⟩ := map_app hA
      obtain ⟨u, rfl, hu2⟩ := List.map_eq_singleton_iff.1 hA7
      obtain ⟨v, A6, rfl, hv, hA6'⟩ : ∃ v A', A6 = v :: A' ∧ v.txt = [40] ∧ [40] :: A'.map (·.txt) = tkPL true kids := by
        cases kids with
        | nil => exact absurd rfl h0
        | cons c l =>
          rw [tkPL] at hA6
          obtain ⟨v, A', h1, h2, h3⟩ := map_con hA6
          exact ⟨v, A', h1, h2, by rw [tkPL, h3]; rfl⟩
      have hk := fwd_kids en (lines := lines) hb kids (k == sNot) n A6 u B (fun x hx => ih x hx) ok.kids h0 ok.one (by simp only [List.length_singleton] at hn; omega) hA6' hu2
      rw [Bool.not_true, br_false, List.append_assoc, List.cons_append, rd_take en hb hv, List.singleton_append, hk]
      simp only
      rw [rd_take en hb hu2, Cond.norm]; rfl
end
end Go.Am
set_option linter.all false
namespace Go.Am
open Go
variable [MaxLen]
set_option maxRecDepth 100000
set_option maxHeartbeats 8000000
/-! # Steps in order are read as they are printed, and end where the source is cut off -/

section
variable (en : Nat)
def sSemi : Str := [59]
theorem rd_opt {w : Str} {o n bad : Int} {A Y : List Tok} (hb : bad < 0) (h0 : 0 ≤ n) (h1 : n ≤ 255) (hA : A.map (·.txt) = bif n != o then [w, dg n] else []) (hu : ris w ⟨Y, bad⟩ = false) : ropt en w o ⟨A ++ Y, bad⟩ = (n, ⟨Y, bad⟩) := by
  unfold ropt
  cases ho : n != o with
  | false =>
    rw [ho, cond_false] at hA
    have : A = [] := by simpa using hA
    subst this
    rw [List.nil_append, hu, br_false]
    have : n = o := by simpa using ho
    rw [this]
  | true =>
    rw [ho, cond_true] at hA
    obtain ⟨t, A, rfl, ht, hA⟩ := map_con hA
    obtain ⟨v, rfl, hv⟩ := List.map_eq_singleton_iff.1 hA
    rw [List.cons_append, rd_is hb, ht, beq_self_eq_true, br_true, rd_take en hb ht, List.singleton_append, rd_num en hb h0 h1 hv]
def okSt (lines : Int) (s : Step) : Prop := ckR lines s.cond 1 = 0 ∧ (0 ≤ s.times ∧ s.times ≤ 255) ∧ (0 ≤ s.within ∧ s.within ≤ 255)
def toPS (s : Step) : PS := ⟨s.cond.norm, s.times, s.within⟩
theorem fwd_step {lines : Int} (hl : 1 ≤ lines) (hl' : lines ≤ 16) {N m : Nat} {bad : Int} (hb : bad < 0) {s : Step} (hs : okSt lines s) (hN : (tkP s.cond).length ≤ N) {t0 : Tok} (ht0 : t0.txt = sSemi) {A1 A2 A3 Y : List Tok} (hA1 : A1.map (·.txt) = tkP s.cond)
    (hA2 : A2.map (·.txt) = bif s.times != 1 then [sTimes, dg s.times] else []) (hA3 : A3.map (·.txt) = bif s.within != 0 then [sWithin, dg s.within] else []) (hY : Y = [] ∨ ∃ u Y', Y = u :: Y' ∧ u.txt = sSemi) :
    rsteps en N (m + 1) ⟨t0 :: (A1 ++ (A2 ++ (A3 ++ Y))), bad⟩ = (toPS s :: (rsteps en N m ⟨Y, bad⟩).1, (rsteps en N m ⟨Y, bad⟩).2) := by
  obtain ⟨hck, ht, hw⟩ := hs
  have hY2 : ∀ w, w ≠ sSemi → ris w ⟨Y, bad⟩ = false := fun w h => by
    rcases hY with rfl | ⟨u, Y', rfl, hu⟩
    · unfold ris; simp
    · rw [rd_is hb, hu, beq_eq_false_iff_ne]; exact fun q => h q.symm
  rw [rsteps]
  have h1 : rtake en [59] ⟨t0 :: (A1 ++ (A2 ++ (A3 ++ Y))), bad⟩ = ⟨A1 ++ (A2 ++ (A3 ++ Y)), bad⟩ := rd_take en hb ht0
  rw [h1]
  have hne : A1 ≠ [] := by
    rintro rfl
    cases hc : s.cond
    rw [hc, tkP] at hA1
    cases hA1
  have h2 : (decide ((Rd.mk (A1 ++ (A2 ++ (A3 ++ Y))) bad).bad < 0) && !(Rd.mk (A1 ++ (A2 ++ (A3 ++ Y))) bad).l.isEmpty) = true := by
    rw [Bool.and_eq_true, decide_eq_true_eq]
    refine ⟨hb, ?_⟩
    obtain ⟨x, y, rfl⟩ := List.exists_cons_of_ne_nil hne
    rfl
  have h3 : ris sTimes ⟨A3 ++ Y, bad⟩ = false := by
    cases hwi : s.within != 0 with
    | false =>
      rw [hwi, cond_false] at hA3
      have : A3 = [] := by simpa using hA3
      subst this
      exact hY2 _ (by decide)
    | true =>
      rw [hwi, cond_true] at hA3
      obtain ⟨v, A3, rfl, hv, hA3⟩ := map_con hA3
      rw [List.cons_append, rd_is hb, hv]; rfl
  rw [h2, br_true]
  simp only
  rw [fwd_cond en hl hl' s.cond 1 bad N A1 _ hck hb hN hA1]
  simp only
  rw [rd_opt en hb ht.1 ht.2 hA2 h3]
  simp only
  rw [rd_opt en hb hw.1 hw.2 hA3 (hY2 _ (by decide))]
  rfl
/-- the texts of steps: each behind a semicolon -/
theorem fwd_steps {lines : Int} (hl : 1 ≤ lines) (hl' : lines ≤ 16) {N : Nat} {bad : Int} (hb : bad < 0) : ∀ (L : List Step) (m : Nat) (A : List Tok), (∀ s ∈ L, okSt lines s ∧ (tkP s.cond).length ≤ N) → L.length < m → A.map (·.txt) = sSemi :: tkSL L →
    rsteps en N m ⟨A, bad⟩ = (L.map toPS, ⟨[], bad⟩)
  | [], m, A, _, hm, hA => by
    obtain ⟨m, rfl⟩ : ∃ q, m = q + 1 := ⟨m - 1, by simp at hm; omega⟩
    rw [tkSL] at hA
    obtain ⟨t, rfl, ht⟩ := List.map_eq_singleton_iff.1 hA
    rw [rsteps]
    have h1 : rtake en [59] ⟨[t], bad⟩ = ⟨[], bad⟩ := rd_take en hb ht
    rw [h1]
    simp only [List.isEmpty_nil, Bool.not_true, Bool.and_false, br_false]
    rfl
  | s :: L, m, A, hs, hm, hA => by
    obtain ⟨m, rfl⟩ : ∃ q, m = q + 1 := ⟨m - 1, by simp at hm; omega⟩
    obtain ⟨hck, hN⟩ := hs s (by simp)
    rw [tkSL, tkS] at hA
    obtain ⟨t0, A, rfl, ht0, hA⟩ := map_con hA
    simp only [List.append_assoc] at hA
    obtain ⟨A1, A, rfl, hA1, hA⟩ := map_app hA
    obtain ⟨A2, A, rfl, hA2, hA⟩ := map_app hA
    obtain ⟨A3, A, rfl, hA3, hA⟩ := map_app hA
    obtain ⟨u, A', rfl, hu, hA'⟩ := map_con (show A.map (·.txt) = sSemi :: tkSL L by simpa [sSemi] using hA)
    rw [fwd_step en hl hl' hb hck hN ht0 hA1 hA2 hA3 (.inr ⟨u, A', rfl, hu⟩), fwd_steps hl hl' hb L m (u :: A') (fun x hx => hs x (List.mem_cons_of_mem _ hx)) (by simp at hm; omega) (by rw [List.map_cons, hu, hA'])]
    rfl
/-- without the last semicolon -/
theorem cut_steps {lines : Int} (hl : 1 ≤ lines) (hl' : lines ≤ 16) {N : Nat} {bad : Int} (hb : bad < 0) : ∀ (L : List Step) (m : Nat) (A : List Tok), (∀ s ∈ L, okSt lines s ∧ (tkP s.cond).length ≤ N) → L.length < m → A.map (·.txt) ++ [sSemi] = sSemi :: tkSL L →
    (rsteps en N m ⟨A, bad⟩).2.bad = en
  | [], m, A, _, hm, hA => by
    obtain ⟨m, rfl⟩ : ∃ q, m = q + 1 := ⟨m - 1, by simp at hm; omega⟩
    rw [tkSL] at hA
    have : A = [] := by
      have := congrArg List.length hA
      simp at this
      exact this
    subst this
    rw [rsteps]
    have h1 : rtake en [59] ⟨[], bad⟩ = ⟨[], en⟩ := by
      unfold rtake ris rfail
      simp only [decide_eq_true hb, Bool.and_false, Bool.not_false, br_true]
    rw [h1]
    simp only [List.isEmpty_nil, Bool.not_true, Bool.and_false, br_false]
  | s :: L, m, A, hs, hm, hA => by
    obtain ⟨m, rfl⟩ : ∃ q, m = q + 1 := ⟨m - 1, by simp at hm; omega⟩
    obtain ⟨hck, hN⟩ := hs s (by simp)
    rw [tkSL, tkS] at hA
    have hA0 : A ≠ [] := by
      rintro rfl
      have := congrArg List.length hA
      simp at this
    obtain ⟨t0, A, rfl⟩ := List.exists_cons_of_ne_nil hA0
    rw [List.map_cons, List.cons_append, List.cons.injEq] at hA
    obtain ⟨ht0, hA⟩ := hA
    -- what stands before the last semicolon
    obtain ⟨X, hX1, hX2⟩ : ∃ X, sSemi :: tkSL L = X ++ [sSemi] ∧ A.map (·.txt) = tkP s.cond ++ ((bif s.times != 1 then [sTimes, dg s.times] else []) ++ ((bif s.within != 0 then [sWithin, dg s.within] else []) ++ X)) := by
      have e : tkP s.cond ++ ((bif s.times != 1 then [sTimes, dg s.times] else []) ++ ((bif s.within != 0 then [sWithin, dg s.within] else []) ++ (sSemi :: tkSL L))) = A.map (·.txt) ++ [sSemi] := by
        rw [hA]; simp [sTimes, sWithin, sSemi, List.append_assoc]
      have hne : sSemi :: tkSL L ≠ [] := by simp
      have hl2 := List.dropLast_concat_getLast hne
      rw [← hl2] at e
      simp only [← List.append_assoc] at e
      obtain ⟨e1, e2⟩ := List.append_inj' e rfl
      have e3 : (sSemi :: tkSL L).getLast hne = sSemi := by simpa using e2
      rw [e3] at hl2
      refine ⟨(sSemi :: tkSL L).dropLast, hl2.symm, ?_⟩
      rw [← e1]; simp only [List.append_assoc]
    obtain ⟨A1, A, rfl, hA1, hA⟩ := map_app hX2
    obtain ⟨A2, A, rfl, hA2, hA⟩ := map_app hA
    obtain ⟨A3, Y, rfl, hA3, hA⟩ := map_app hA
    have hY : Y = [] ∨ ∃ u Y', Y = u :: Y' ∧ u.txt = sSemi := by
      cases Y with
      | nil => exact .inl rfl
      | cons u Y =>
        rw [← hA, List.map_cons, List.cons_append, List.cons.injEq] at hX1
        exact .inr ⟨u, Y, rfl, hX1.1.symm⟩
    rw [fwd_step en hl hl' hb hck hN ht0 hA1 hA2 hA3 hY]
    exact cut_steps hl hl' hb L m Y (fun x hx => hs x (List.mem_cons_of_mem _ hx)) (by simp at hm; omega) (by rw [hA, hX1])
end
end Go.Am
set_option linter.all false
namespace Go.Am
open Go
variable [MaxLen]
set_option maxRecDepth 100000
set_option maxHeartbeats 8000000
/-! # Parse, the reference's -/

/-! # The law's own copy of a program -/

theorem c1054 : ∀ c : Cond, c.fits → calV U 54 [encC c] = some (encC c.norm) := by
  intro c
  induction c using Cond.ind with
  | h kind a b mi ma pat nl kids ih =>
  intro hf
  rw [Cond.fits] at hf
  obtain ⟨f1, f2, f3⟩ := hf
  refine pure_go k1054 (by kernel_rfl) (by simp [stills, still_encC]) ?_
  rw [encC, Cond.norm]
  simp (config := { maxSteps := 2000000 }) +contextual only [go_sem, ↓reduceIte, r1054, lenL_encS, encL_len, cells_encS, noAgg_encS]
  refine loop_to (σ := Nat) (fun i => kids.length - i) (fun i => some (encC (.mk kind a b mi ma pat true (normL kids)))) (fun i e s => i ≤ kids.length ∧ Env.get e 1 = .ptr 8 0 ∧ Env.get e 2 = .ptr 9 0 ∧ Env.get e 3 = .ptr 10 0 ∧ Env.get e 4 = .int .i64 i ∧ 10 < s.next ∧ Fr s ∧
    s.get 8 = some (.cells [.str kind, .int .i64 a, .int .i64 b, .int .i64 mi, .int .i64 ma, .str pat, encS nl (encL kids)] 78 false 0 0) ∧ s.get 9 = some (.cells [.str [], .int .i64 0, .int .i64 0, .int .i64 0, .int .i64 0, .str [], .nils] 106 false 0 0) ∧
    ∃ v, s.get 10 = some (.cells [.str kind, .int .i64 a, .int .i64 b, .int .i64 mi, .int .i64 ma, .str pat, v] 106 false 0 0) ∧ RowI s 11 106 7 i ((kids.take i).flatMap fun c => (encC c.norm).cells) v) 0 ?_ rfl ?_
  · rintro L i e s ⟨hi, h1, h2, h3, h4, hn, hfr, hs8, hs9, v, hs10, hv⟩ IH
    have ne : ∀ a k, a ≤ 10 → (s.next + k = a) = False := fun a k ha => by simp; omega
    have ne' : ∀ a, a ≤ 10 → (s.next = a) = False := fun a ha => by simp; omega
    have hfk := hfr.at
    by_cases hd : i < kids.length
    · have hx : (encL kids)[i]? = some (encC kids[i]) := by rw [encL_get, List.getElem?_eq_getElem hd]; rfl
      have hw := wrap_succ hd (by omega)
      have hc := ih kids[i] (List.getElem_mem hd) (f3 _ (List.getElem_mem hd))
      rw [encC_cells] at hc
      rw [encC_cells] at hx hc
      simp only [Cond.cells] at hx hc
      rw [encS_ne (encL_ne hd)] at hs8
      have hb1 : (i + 1) * 88 ≤ 1099511627776 := by omega
      have hb2 : i + 1 ≤ 1099511627776 := by omega
      have htk : (kids.take (i + 1)).flatMap (fun c => (encC c.norm).cells) = (kids.take i).flatMap (fun c => (encC c.norm).cells) ++ kids[i].norm.cells := by
        rw [List.take_succ_eq_append_getElem hd, List.flatMap_append, List.flatMap_singleton, encC_cells]; rfl
      simp only [Cond.cells] at htk
      have hla := hv.lenA
      have hna := hv.noAgg
      simp +contextual only [go_sem, ↓reduceIte, r1054_l0, h1, h2, h3, h4, hs8, hs9, hs10, nat_lt_dec, hd, encL_len, hx, hc, ne, ne', noAgg_encS, hfk, appK_some, Nat.reducePow, Nat.one_mul, hla, hna, hb1, hb2]
      have hv0 : RowI ((s.upto (s.next + 12)).put (s.next + 8) (.cells kids[i].norm.cells 106 false 0 0)) 11 106 7 i ((kids.take i).flatMap fun c => (encC c.norm).cells) v := hv.mono (by rw [next_put, upto_next]; omega) fun j _ hj => by rw [get_put, upto_get, if_neg (by omega)]
      obtain ⟨s1, e1, e2, e3, e4, e5⟩ := hv0.app (by rw [next_put, upto_next]; omega) (m := 1) (new := kids[i].norm.cells) (by omega) (by rfl) (by simp only [Cond.cells, go_sem, noAgg_encS])
      simp only [Cond.cells] at e1 e3 e4 e5
      have k8 := e4 8 (by omega)
      have k9 := e4 9 (by omega)
      have k10 := e4 10 (by omega)
      simp only [get_put, upto_get, ne, ↓reduceIte, hs8, hs9, hs10, Nat.reduceLeDiff, next_put, upto_next] at k8 k9 k10 e2
      rw [e1]
      simp +contextual only [go_sem, ↓reduceIte, h3, k10, noAgg_encS, hw, h4]
      refine IH (i + 1) _ _ (by omega) ⟨by omega, ?_, ?_, ?_, ?_, ?_, ?_, ?_, ?_, .sl (s.next + 12) 0 (i + 1) none 7, ?_, ?_⟩
      case refine_10 =>
        rw [htk]
        exact e3.mono (by rw [next_put]; omega) fun j hj _ => by rw [get_put, if_neg (by omega)]
      case refine_9 => rw [get_put, if_pos rfl]
      case refine_6 =>
        refine (e5 ?_).put (by omega) _
        exact (hfr.upto (by omega)).put (by rw [upto_next]; omega) _
      all_goals simp +contextual only [go_sem, ↓reduceIte, h1, h2, h3, k8, k9, e2, encS_ne (encL_ne hd), Nat.reduceEqDiff]
      all_goals omega
    · have : i = kids.length := by omega
      subst this
      rw [List.take_length] at hv
      have hv1 : ∀ x, RowI (s.put 9 x) 11 106 7 (kids.map Cond.norm).length ((kids.map Cond.norm).flatMap fun c => (encC c).cells) v := fun x => by
        rw [List.length_map, List.flatMap_map]
        exact hv.mono (by rw [next_put]; omega) fun j hj _ => by rw [get_put, if_neg (by omega)]
      have hfz : ∀ x d, frz U (s.put 9 x) (d + 3) v = some (encS true (encL (normL kids))) := fun x d => by
        rw [(hv1 x).frz_agg U agJ szJ (by omega) encC_agg (d := d + 2) (fun a => frz_encC _ _ _), encL_map, normL_map]
      have hna := hv.noAgg
      simp +contextual only [go_sem, ↓reduceIte, r1054_l0, h1, h2, h3, h4, hs8, hs9, hs10, nat_lt_dec, Nat.lt_irrefl, lenL_encS, encL_len, hna, hfz]
      rw [encC]
  · refine ⟨Nat.zero_le _, ?_, ?_, ?_, ?_, ?_, ?_, ?_, ?_, .nils, ?_, RowI.nil _ _ _ _⟩
    case refine_6 =>
      repeat first | exact Fr.own | apply Fr.new | apply Fr.put | apply Fr.upto
      all_goals simp +contextual only [go_sem, ↓reduceIte]
    all_goals simp +contextual only [go_sem, ↓reduceIte]
    all_goals rfl
theorem c1012 (p : Prog) (hf : p.fits) : calV U 12 [encP p] = some (encP p.norm) := by
  obtain ⟨lines, nl, steps⟩ := p
  obtain ⟨f1, f2⟩ := hf
  simp only at f1 f2
  refine pure_go k1012 (by kernel_rfl) (by simp [stills, still_encP]) ?_
  rw [encP_eq, Prog.norm, encP_eq]
  simp (config := { maxSteps := 2000000 }) +contextual only [go_sem, ↓reduceIte, r1012, lenL_encS, encSteps_len, cells_encS, noAgg_encS]
  refine loop_to (σ := Nat) (fun i => steps.length - i) (fun i => some (.agg [.int .i64 lines, encS true (encSteps (steps.map Step.norm))])) (fun i e s => i ≤ steps.length ∧ Env.get e 1 = .ptr 8 0 ∧ Env.get e 2 = .ptr 9 0 ∧ Env.get e 3 = .ptr 10 0 ∧ Env.get e 4 = .int .i64 i ∧ 10 < s.next ∧ Fr s ∧
    s.get 8 = some (.cells [.int .i64 lines, encS nl (encSteps steps)] 25 false 0 0) ∧ s.get 9 = some (.cells [.int .i64 0, .nils] 31 false 0 0) ∧
    ∃ v, s.get 10 = some (.cells [.int .i64 lines, v] 31 false 0 0) ∧ RowI s 11 109 9 i ((steps.take i).flatMap fun c => (encStep c.norm).cells) v) 0 ?_ rfl ?_
  · rintro L i e s ⟨hi, h1, h2, h3, h4, hn, hfr, hs8, hs9, v, hs10, hv⟩ IH
    have ne : ∀ a k, a ≤ 10 → (s.next + k = a) = False := fun a k ha => by simp; omega
    have ne' : ∀ a, a ≤ 10 → (s.next = a) = False := fun a ha => by simp; omega
    have hfk := hfr.at
    by_cases hd : i < steps.length
    · have hx : (encSteps steps)[i]? = some (encStep steps[i]) := by rw [encSteps_get, List.getElem?_eq_getElem hd]; rfl
      have hw := wrap_succ hd (by omega)
      have hc := c1054 steps[i].cond (f2 _ (List.getElem_mem hd))
      rw [encC_cells, encC_cells] at hc
      simp only [Cond.cells, encStep] at hx hc
      rw [encS_ne (encSteps_ne hd)] at hs8
      have hb1 : (i + 1) * 104 ≤ 1099511627776 := by omega
      have hb2 : i + 1 ≤ 1099511627776 := by omega
      have htk : (steps.take (i + 1)).flatMap (fun c => (encStep c.norm).cells) = (steps.take i).flatMap (fun c => (encStep c.norm).cells) ++ steps[i].norm.cells9 := by
        rw [List.take_succ_eq_append_getElem hd, List.flatMap_append, List.flatMap_singleton]; rfl
      have hla := hv.lenA
      have hna := hv.noAgg
      simp +contextual only [go_sem, ↓reduceIte, r1012_l0, h1, h2, h3, h4, hs8, hs9, hs10, nat_lt_dec, hd, encSteps_len, hx, hc, ne, ne', noAgg_encS, hfk, appK_some, Nat.reducePow, Nat.one_mul, hla, hna, hb1, hb2]
      have hv0 : RowI ((s.upto (s.next + 26)).put (s.next + 22) (.cells steps[i].norm.cells9 109 false 0 0)) 11 109 9 i ((steps.take i).flatMap fun c => (encStep c.norm).cells) v := hv.mono (by rw [next_put, upto_next]; omega) fun j _ hj => by rw [get_put, upto_get, if_neg (by omega)]
      obtain ⟨s1, e1, e2, e3, e4, e5⟩ := hv0.app (by rw [next_put, upto_next]; omega) (m := 1) (new := steps[i].norm.cells9) (by omega) (by rfl) (by simp only [Step.cells9, go_sem, noAgg_encS])
      simp only [Step.cells9, Step.norm] at e1 e3 e4 e5
      have k8 := e4 8 (by omega)
      have k9 := e4 9 (by omega)
      have k10 := e4 10 (by omega)
      simp only [get_put, upto_get, ne, ↓reduceIte, hs8, hs9, hs10, Nat.reduceLeDiff, next_put, upto_next] at k8 k9 k10 e2
      rw [e1]
      simp +contextual only [go_sem, ↓reduceIte, h3, k10, noAgg_encS, hw, h4]
      refine IH (i + 1) _ _ (by omega) ⟨by omega, ?_, ?_, ?_, ?_, ?_, ?_, ?_, ?_, .sl (s.next + 26) 0 (i + 1) none 9, ?_, ?_⟩
      case refine_10 =>
        rw [htk]
        exact e3.mono (by rw [next_put]; omega) fun j hj _ => by rw [get_put, if_neg (by omega)]
      case refine_9 => rw [get_put, if_pos rfl]
      case refine_6 =>
        refine (e5 ?_).put (by omega) _
        exact (hfr.upto (by omega)).put (by rw [upto_next]; omega) _
      all_goals simp +contextual only [go_sem, ↓reduceIte, h1, h2, h3, k8, k9, e2, encS_ne (encSteps_ne hd), Nat.reduceEqDiff]
      all_goals omega
    · have : i = steps.length := by omega
      subst this
      rw [List.take_length] at hv
      have hv1 : ∀ x, RowI (s.put 9 x) 11 109 9 (steps.map Step.norm).length ((steps.map Step.norm).flatMap fun c => (encStep c).cells) v := fun x => by
        rw [List.length_map, List.flatMap_map]
        exact hv.mono (by rw [next_put]; omega) fun j hj _ => by rw [get_put, if_neg (by omega)]
      have hfz : ∀ x d, frz U (s.put 9 x) (d + 3) v = some (encS true (encSteps (steps.map Step.norm))) := fun x d => by
        rw [(hv1 x).frz_agg U ag109 sz109 (by omega) encStep_agg (d := d + 2) (fun a => frz_encStep _ _ _)]; rfl
      have hna := hv.noAgg
      simp +contextual only [go_sem, ↓reduceIte, r1012_l0, h1, h2, h3, h4, hs8, hs9, hs10, nat_lt_dec, Nat.lt_irrefl, lenL_encS, encSteps_len, hna, hfz]
  · refine ⟨Nat.zero_le _, ?_, ?_, ?_, ?_, ?_, ?_, ?_, ?_, .nils, ?_, RowI.nil _ _ _ _⟩
    case refine_6 =>
      repeat first | exact Fr.own | apply Fr.new | apply Fr.put | apply Fr.upto
      all_goals simp +contextual only [go_sem, ↓reduceIte]
    all_goals simp +contextual only [go_sem, ↓reduceIte]
    all_goals rfl
/-! # A program is like itself -/

theorem int_nn (n : Int) : (n != n) = false := by simp
theorem str_nn (n : Str) : (n != n) = false := by simp
end Go.Am
