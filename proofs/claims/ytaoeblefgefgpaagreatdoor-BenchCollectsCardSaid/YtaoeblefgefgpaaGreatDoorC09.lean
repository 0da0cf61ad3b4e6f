/- A part of the proof of a statement of this seat: the machine on which the program is read, and what it computes; for every input. -/
import Derived.Test.YtaoeblefgefgpaaGreatDoorC07
set_option linter.all false
set_option linter.all false
namespace Go.Am
open Go
/-! # The reference's collecting, and the program's: plain -/
def before (a b : Shot) : Bool := decide (cmpT a b < 0)
/-- the reference's insertion -/
def refIns (x : Shot) : List Shot → List Shot
  | [] => [x]
  | y :: l => bif before y x then y :: refIns x l else bif decide (y = x) then y :: l else x :: y :: l
def refColl : List Shot → List Shot → List Shot
  | acc, [] => acc
  | acc, x :: l => refColl (refIns x acc) l
/-- how many come before it -/
def posR (x : Shot) : List Shot → Nat
  | [] => 0
  | y :: l => bif before y x then posR x l + 1 else 0
theorem posR_le (x : Shot) : ∀ l, posR x l ≤ l.length
  | [] => Nat.le_refl _
  | y :: l => by
    rw [posR]
    have := posR_le x l
    cases before y x
    · exact Nat.zero_le _
    · rw [cond_true, List.length_cons]; omega
theorem posR_lt (x : Shot) : ∀ (l : List Shot) (i : Nat), i < posR x l → ∃ y, l[i]? = some y ∧ before y x = true
  | [], i, h => by simp [posR] at h
  | y :: l, i, h => by
    rw [posR] at h
    cases hb : before y x
    · rw [hb] at h; simp at h
    · rw [hb, cond_true] at h
      cases i with
      | zero => exact ⟨y, rfl, hb⟩
      | succ i => exact posR_lt x l i (by omega)
theorem posR_at (x : Shot) : ∀ (l : List Shot) (y : Shot), l[posR x l]? = some y → before y x = false
  | [], y, h => by simp at h
  | z :: l, y, h => by
    rw [posR] at h
    cases hb : before z x
    · rw [hb] at h; simp at h; rw [← h]; exact hb
    · rw [hb, cond_true, List.getElem?_cons_succ] at h
      exact posR_at x l y h
theorem refIns_eq (x : Shot) : ∀ l : List Shot, refIns x l = if l[posR x l]? = some x then l else l.take (posR x l) ++ [x] ++ l.drop (posR x l)
  | [] => by simp [refIns, posR]
  | y :: l => by
    rw [refIns, posR]
    cases hb : before y x
    · simp only [cond_false, List.getElem?_cons_zero, Option.some.injEq, List.take_zero, List.drop_zero, List.nil_append]
      by_cases h : y = x
      · rw [decide_eq_true h, if_pos h]; rfl
      · rw [decide_eq_false h, if_neg h]; rfl
    · simp only [cond_true, List.getElem?_cons_succ, List.take_succ_cons, List.drop_succ_cons]
      rw [refIns_eq x l]
      split <;> simp
/-- no two that conflict -/
def NC (l : List Shot) : Prop := ∀ a ∈ l, ∀ b ∈ l, cmpK a b = 0 → a = b
theorem cmpK_zero {a b : Shot} : cmpK a b = 0 ↔ a.i = b.i ∧ a.n = b.n := by
  show orI (cmpB a.i b.i) (cmpI a.n b.n) = 0 ↔ _
  rw [orI_zero, cmpB_zero, cmpI_zero]
theorem cmpT_zero {a b : Shot} (h : cmpT a b = 0) : cmpK a b = 0 := by
  have h : orI (cmpI a.t b.t) (cmpK a b) = 0 := h
  exact (orI_zero.1 h).2
theorem refIns_mem {x z : Shot} : ∀ {l : List Shot}, z ∈ refIns x l ↔ z = x ∨ z ∈ l
  | [] => by simp [refIns]
  | y :: l => by
    rw [refIns]
    cases before y x
    · rw [cond_false]
      by_cases h : y = x
      · rw [decide_eq_true h, cond_true, List.mem_cons]
        subst h
        constructor
        · rintro (h | h)
          · exact .inl h
          · exact .inr (.inr h)
        · rintro (h | h | h)
          · exact .inl h
          · exact .inl h
          · exact .inr h
      · rw [decide_eq_false h, cond_false, List.mem_cons]
    · rw [cond_true, List.mem_cons, refIns_mem, List.mem_cons]
      constructor
      · rintro (h | h | h)
        · exact .inr (.inl h)
        · exact .inl h
        · exact .inr (.inr h)
      · rintro (h | h | h)
        · exact .inr (.inl h)
        · exact .inl h
        · exact .inr (.inr h)
theorem refIns_sorted {x : Shot} : ∀ {l : List Shot}, (∀ y ∈ l, cmpT y x = 0 → y = x) → l.Pairwise (fun a b => cmpT a b < 0) → (refIns x l).Pairwise fun a b => cmpT a b < 0
  | [], _, _ => by simp [refIns]
  | y :: l, hn, hl => by
    rw [refIns]
    rw [List.pairwise_cons] at hl
    cases hb : before y x
    · rw [cond_false]
      by_cases h : y = x
      · rw [decide_eq_true h, cond_true]; exact List.pairwise_cons.2 hl
      · rw [decide_eq_false h, cond_false, List.pairwise_cons]
        have hb : ¬ cmpT y x < 0 := by unfold before at hb; simpa using hb
        have h0 : cmpT y x ≠ 0 := fun h0 => h (hn y (List.mem_cons_self ..) h0)
        have hxy : cmpT x y < 0 := by have := cmpT_ok.neg y x; omega
        refine ⟨fun z hz => ?_, List.pairwise_cons.2 hl⟩
        rcases List.mem_cons.1 hz with hz | hz
        · rw [hz]; exact hxy
        · exact cmpT_ok.lt1 hxy (by have := hl.1 z hz; omega)
    · rw [cond_true, List.pairwise_cons]
      refine ⟨fun z hz => ?_, refIns_sorted (fun w hw => hn w (List.mem_cons_of_mem _ hw)) hl.2⟩
      rcases refIns_mem.1 hz with hz | hz
      · rw [hz]; unfold before at hb; simpa using hb
      · exact hl.1 z hz
theorem refColl_mem {z : Shot} : ∀ {l acc : List Shot}, z ∈ refColl acc l ↔ z ∈ acc ∨ z ∈ l
  | [], acc => by simp [refColl]
  | x :: l, acc => by
    rw [refColl, refColl_mem, refIns_mem, List.mem_cons]
    constructor
    · rintro ((h | h) | h)
      · exact .inr (.inl h)
      · exact .inl h
      · exact .inr (.inr h)
    · rintro (h | h | h)
      · exact .inl (.inr h)
      · exact .inl (.inl h)
      · exact .inr h
theorem refColl_sorted : ∀ {l acc : List Shot}, NC (acc ++ l) → acc.Pairwise (fun a b => cmpT a b < 0) → (refColl acc l).Pairwise fun a b => cmpT a b < 0
  | [], acc, _, h => h
  | x :: l, acc, hn, h => by
    rw [refColl]
    refine refColl_sorted (fun a ha b hb => ?_) (refIns_sorted (fun y hy h0 => hn y (by simp [hy]) x (by simp) (cmpT_zero h0)) h)
    have : ∀ a, a ∈ refIns x acc ++ l → a ∈ acc ++ x :: l := by
      intro a ha
      rcases List.mem_append.1 ha with ha | ha
      · rcases refIns_mem.1 ha with rfl | ha
        · simp
        · simp [ha]
      · simp [ha]
    exact hn a (this a ha) b (this b hb)
theorem strict_one {A : Type} {cf : A → A → Int} (hc : CmpOk cf) {a b : List A} (ha : a.Pairwise fun x y => cf x y < 0) (hb : b.Pairwise fun x y => cf x y < 0) (h : ∀ x, x ∈ a ↔ x ∈ b) : a = b := by
  have nd : ∀ {l : List A}, l.Pairwise (fun x y => cf x y < 0) → l.Nodup := fun {l} hl => hl.imp fun {x y} hxy e => by
    subst e
    have := hc.refl x
    omega
  have hp : a.Perm b := (List.perm_ext_iff_of_nodup (nd ha) (nd hb)).2 h
  refine List.Perm.eq_of_pairwise (le := fun x y => cf x y ≤ 0) ?_ (ha.imp fun h => Int.le_of_lt h) (hb.imp fun h => Int.le_of_lt h) hp
  intro x y hx hy h1 h2
  have hy' : y ∈ a := (h y).2 hy
  have h0 : cf x y = 0 := by have := hc.neg x y; omega
  obtain ⟨i, hi, rfl⟩ := List.mem_iff_getElem.1 hx
  obtain ⟨j, hj, rfl⟩ := List.mem_iff_getElem.1 hy'
  rw [List.pairwise_iff_getElem] at ha
  rcases Nat.lt_trichotomy i j with hij | hij | hij
  · have := ha i j hi hj hij; omega
  · subst hij; rfl
  · have := ha j i hj hi hij
    have := hc.neg a[i] a[j]
    omega
/-! ### What was found -/
theorem find_key {acc : List Shot} {x y : Shot} (h : (acc.find? fun y => y.i == x.i && y.n == x.n) = some y) : y ∈ acc ∧ cmpK y x = 0 := by
  refine ⟨List.mem_of_find?_eq_some h, ?_⟩
  have := List.find?_some h
  rw [cmpK_zero]
  simpa using this
theorem foundL_mem : ∀ {l acc f : List Shot}, foundL acc l = some f → ∀ z, z ∈ f ↔ z ∈ acc ∨ z ∈ l
  | [], acc, f, h, z => by cases h; simp
  | x :: l, acc, f, h, z => by
    rw [foundL] at h
    cases hf : acc.find? fun y => y.i == x.i && y.n == x.n with
    | some y =>
      rw [hf] at h
      simp only at h
      cases hd : decide (y = x)
      · rw [hd] at h; cases h
      · rw [hd] at h
        rw [decide_eq_true_eq] at hd
        subst hd
        rw [foundL_mem h z, List.mem_cons]
        have := (find_key hf).1
        constructor
        · rintro (h | h)
          · exact .inl h
          · exact .inr (.inr h)
        · rintro (h | h | h)
          · exact .inl h
          · exact .inl (h ▸ this)
          · exact .inr h
    | none =>
      rw [hf] at h
      rw [foundL_mem h z, List.mem_append, List.mem_singleton, List.mem_cons, or_assoc]
theorem foundL_none : ∀ {l acc : List Shot}, NC (acc ++ l) → foundL acc l ≠ none
  | [], acc, _, h => by cases h
  | x :: l, acc, hn, h => by
    rw [foundL] at h
    cases hf : acc.find? fun y => y.i == x.i && y.n == x.n with
    | some y =>
      rw [hf] at h
      simp only at h
      obtain ⟨h1, h2⟩ := find_key hf
      have := hn y (by simp [h1]) x (by simp) h2
      rw [decide_eq_true this] at h
      refine foundL_none (fun a ha b hb => hn a ?_ b ?_) h
      · simp at ha ⊢; rcases ha with ha | ha <;> simp [ha]
      · simp at hb ⊢; rcases hb with hb | hb <;> simp [hb]
    | none =>
      rw [hf] at h
      refine foundL_none (fun a ha b hb => hn a ?_ b ?_) h
      · simpa using ha
      · simpa using hb
theorem keys_one {f : List Shot} (h : f.Pairwise fun a b => cmpK a b ≠ 0) : NC f := by
  intro a ha b hb h0
  obtain ⟨i, hi, rfl⟩ := List.mem_iff_getElem.1 ha
  obtain ⟨j, hj, rfl⟩ := List.mem_iff_getElem.1 hb
  rw [List.pairwise_iff_getElem] at h
  rcases Nat.lt_trichotomy i j with hij | hij | hij
  · exact absurd h0 (h i j hi hj hij)
  · subst hij; rfl
  · have := cmpK_ok.neg f[i] f[j]
    exact absurd (by omega) (h j i hj hi hij)
theorem found_nc {l f : List Shot} (h : foundL [] l = some f) (hk : f.Pairwise fun a b => cmpK a b ≠ 0) : NC l := by
  intro a ha b hb
  exact keys_one hk a ((foundL_mem h a).2 (.inr ha)) b ((foundL_mem h b).2 (.inr hb))
/-- both collect alike -/
theorem coll_same {l f : List Shot} (h : foundL [] l = some f) (hk : f.Pairwise fun a b => cmpK a b ≠ 0) : refColl [] l = sortS cmpT f := by
  have hn := found_nc h hk
  refine strict_one cmpT_ok (refColl_sorted (by simpa using hn) .nil) ?_ fun x => ?_
  · have hs := sortS_sorted cmpT_ok f
    have hd : distS cmpT (sortS cmpT f) = true := by
      rw [distS_iff]
      refine (sortS_perm cmpT f).symm.pairwise (hk.imp fun {a b} h0 h1 => h0 (cmpT_zero h1)) fun {a b} hab h0 => hab ?_
      have := cmpT_ok.neg a b
      omega
    rw [distS_iff] at hd
    exact (hs.and hd).imp fun {a b} h => by omega
  · rw [refColl_mem, (sortS_perm cmpT f).mem_iff, foundL_mem h]
/-! # Missing numbers: plain -/
abbrev Mis := Str × Int
def cmpM (a b : Mis) : Int := orI (cmpB a.1 b.1) (cmpI a.2 b.2)
theorem cmpM_ok : CmpOk cmpM := (cmpB_ok.on Prod.fst).or (cmpI_ok.on Prod.snd)
theorem cmpM_lt {a b : Mis} : cmpM a b < 0 ↔ cmpB a.1 b.1 < 0 ∨ (a.1 = b.1 ∧ a.2 < b.2) := by
  have hI : ∀ x y : Int, cmpI x y < 0 ↔ x < y := by
    intro x y
    unfold cmpI
    by_cases h : x < y
    · rw [decide_eq_true h, cond_true]; omega
    · rw [decide_eq_false h, cond_false]
      by_cases h' : y < x
      · rw [decide_eq_true h', cond_true]; omega
      · rw [decide_eq_false h', cond_false]; omega
  unfold cmpM orI
  by_cases h : cmpB a.1 b.1 = 0
  · rw [show (cmpB a.1 b.1 == 0) = true by simpa using h, cond_true, hI]
    have := cmpB_zero.1 h
    constructor
    · intro h1; exact .inr ⟨this, h1⟩
    · rintro (h1 | h1)
      · omega
      · exact h1.2
  · rw [show (cmpB a.1 b.1 == 0) = false by simpa using h, cond_false]
    constructor
    · intro h1; exact .inl h1
    · rintro (h1 | h1)
      · exact h1
      · exact absurd (cmpB_zero.2 h1.1) h
/-- the numbers from b + 1 on, below n -/
def gaps (i : Str) (b n : Int) : List Mis := (List.range (n - 1 - b).toNat).map fun (k : Nat) => (i, b + 1 + (k : Int))
theorem gaps_mem {i : Str} {b n : Int} {x : Mis} : x ∈ gaps i b n ↔ x.1 = i ∧ b < x.2 ∧ x.2 < n := by
  unfold gaps
  rw [List.mem_map]
  constructor
  · rintro ⟨k, hk, rfl⟩
    rw [List.mem_range] at hk
    refine ⟨rfl, ?_, ?_⟩ <;> simp only <;> omega
  · rintro ⟨h1, h2, h3⟩
    refine ⟨(x.2 - b - 1).toNat, List.mem_range.2 (by omega), ?_⟩
    obtain ⟨a, c⟩ := x
    simp only at *
    rw [h1]
    congr 1
    omega
theorem gaps_sorted (i : Str) (b n : Int) : (gaps i b n).Pairwise fun x y => cmpM x y < 0 := by
  unfold gaps
  rw [List.pairwise_map]
  refine List.Pairwise.imp (R := fun a c : Nat => a < c) ?_ List.pairwise_lt_range
  intro a c h
  refine cmpM_lt.2 (.inr ⟨rfl, ?_⟩)
  show b + 1 + (a : Int) < b + 1 + (c : Int)
  omega
/-- the program's way: along the shots by instrument and number -/
def pm : Str → Int → List Shot → List Mis
  | _, _, [] => []
  | bi, bn, s :: l => gaps s.i (bif s.i != bi then 0 else bn) s.n ++ pm s.i s.n l
/-- shots that come after (bi, bn), by instrument and number, with numbers from 1 on -/
structure Asc (bi : Str) (bn : Int) (l : List Shot) : Prop where
  b0 : 0 ≤ bn
  so : l.Pairwise fun a b => cmpM (a.i, a.n) (b.i, b.n) < 0
  gt : ∀ s ∈ l, cmpM (bi, bn) (s.i, s.n) < 0
  pos : ∀ s ∈ l, 1 ≤ s.n
theorem Asc.tail {bi : Str} {bn : Int} {s : Shot} {l : List Shot} (h : Asc bi bn (s :: l)) : Asc s.i s.n l := by
  obtain ⟨h1, h2, h3, h4⟩ := h
  rw [List.pairwise_cons] at h2
  exact ⟨by have := h4 s (by simp); omega, h2.2, h2.1, fun t ht => h4 t (List.mem_cons_of_mem _ ht)⟩
theorem asc_le {a b : Str} {m n : Int} (h : cmpM (a, m) (b, n) < 0) : cmpB a b < 0 ∨ (a = b ∧ m < n) := cmpM_lt.1 h
theorem cmpB_irr {a : Str} : ¬ cmpB a a < 0 := by rw [cmpB_zero.2 rfl]; omega
theorem pm_mem : ∀ {l : List Shot} {bi : Str} {bn : Int}, Asc bi bn l → ∀ x : Mis, x ∈ pm bi bn l ↔ (∃ s ∈ l, s.i = x.1 ∧ x.2 < s.n) ∧ (bif x.1 == bi then decide (bn < x.2) else decide (0 < x.2)) = true ∧ ¬ ∃ s ∈ l, s.i = x.1 ∧ s.n = x.2
  | [], bi, bn, _, x => by simp [pm]
  | s :: l, bi, bn, h, x => by
    have ht := h.tail
    have hgt := h.gt s (List.mem_cons_self ..)
    have hpos := h.pos s (List.mem_cons_self ..)
    rw [pm, List.mem_append, gaps_mem, pm_mem ht x]
    have hb0 := h.b0
    -- what comes later
    have hlater : ∀ t ∈ l, cmpB s.i t.i < 0 ∨ (s.i = t.i ∧ s.n < t.n) := fun t htl => asc_le (ht.gt t htl)
    by_cases hx : x.1 = s.i
    · rw [show (x.1 == s.i) = true by simpa using hx, cond_true, decide_eq_true_eq]
      have hlow : (bif s.i != bi then (0 : Int) else bn) < x.2 ↔ (bif x.1 == bi then decide (bn < x.2) else decide (0 < x.2)) = true := by
        rw [hx, bne]
        cases s.i == bi
        · simp
        · simp
      constructor
      · rintro (⟨_, h2, h3⟩ | ⟨⟨t, ht1, ht2, ht3⟩, h2, h3⟩)
        · refine ⟨⟨s, List.mem_cons_self .., hx.symm, h3⟩, hlow.1 h2, ?_⟩
          rintro ⟨t, htm, h4, h5⟩
          rcases List.mem_cons.1 htm with rfl | htm
          · omega
          · rcases hlater t htm with h6 | ⟨h6, h7⟩
            · rw [h4, hx] at h6; exact cmpB_irr h6
            · omega
        · refine ⟨⟨t, List.mem_cons_of_mem _ ht1, ht2, ht3⟩, hlow.1 ?_, ?_⟩
          · rcases asc_le hgt with h6 | ⟨h6, h7⟩
            · have : (s.i != bi) = true := by
                rw [bne, Bool.not_eq_true', beq_eq_false_iff_ne]; rintro e; rw [e] at h6; exact cmpB_irr h6
              rw [this, cond_true]; omega
            · have : (s.i != bi) = false := by rw [bne, h6]; simp
              rw [this, cond_false]; omega
          · rintro ⟨u, hum, h4, h5⟩
            rcases List.mem_cons.1 hum with rfl | hum
            · omega
            · exact h3 ⟨u, hum, h4, h5⟩
      · rintro ⟨⟨t, htm, h4, h5⟩, h2, h3⟩
        rcases Int.lt_trichotomy x.2 s.n with h6 | h6 | h6
        · exact .inl ⟨hx, hlow.2 h2, h6⟩
        · exact absurd ⟨s, List.mem_cons_self .., hx.symm, h6.symm⟩ h3
        · refine .inr ⟨?_, h6, fun ⟨u, hu, h7⟩ => h3 ⟨u, List.mem_cons_of_mem _ hu, h7⟩⟩
          rcases List.mem_cons.1 htm with rfl | htm
          · omega
          · exact ⟨t, htm, h4, h5⟩
    · rw [show (x.1 == s.i) = false by simpa using hx, cond_false, decide_eq_true_eq]
      constructor
      · rintro (⟨h1, _⟩ | ⟨⟨t, ht1, ht2, ht3⟩, h2, h3⟩)
        · exact absurd h1 hx
        · refine ⟨⟨t, List.mem_cons_of_mem _ ht1, ht2, ht3⟩, ?_, ?_⟩
          · have hne : (x.1 == bi) = false := by
              rw [beq_eq_false_iff_ne]
              intro e
              have h6 : cmpB s.i t.i < 0 := by
                rcases hlater t ht1 with h6 | ⟨h6, _⟩
                · exact h6
                · rw [ht2] at h6; exact absurd h6.symm hx
              rw [ht2, e] at h6
              rcases asc_le hgt with h7 | ⟨h7, _⟩
              · have := cmpB_neg bi s.i; omega
              · rw [h7] at h6; exact cmpB_irr h6
            rw [hne, cond_false, decide_eq_true_eq]; exact h2
          · rintro ⟨u, hum, h4, h5⟩
            rcases List.mem_cons.1 hum with rfl | hum
            · exact hx h4.symm
            · exact h3 ⟨u, hum, h4, h5⟩
      · rintro ⟨⟨t, htm, h4, h5⟩, h2, h3⟩
        rcases List.mem_cons.1 htm with rfl | htm
        · exact absurd h4.symm hx
        · refine .inr ⟨⟨t, htm, h4, h5⟩, ?_, fun ⟨u, hu, h7⟩ => h3 ⟨u, List.mem_cons_of_mem _ hu, h7⟩⟩
          cases hb : x.1 == bi
          · rw [hb, cond_false, decide_eq_true_eq] at h2; exact h2
          · rw [hb, cond_true, decide_eq_true_eq] at h2; omega
theorem pm_sorted : ∀ {l : List Shot} {bi : Str} {bn : Int}, Asc bi bn l → (pm bi bn l).Pairwise fun x y => cmpM x y < 0
  | [], _, _, _ => by simp [pm]
  | s :: l, bi, bn, h => by
    have ht := h.tail
    rw [pm, List.pairwise_append]
    refine ⟨gaps_sorted _ _ _, pm_sorted ht, fun x hx y hy => ?_⟩
    rw [gaps_mem] at hx
    obtain ⟨⟨t, htm, h4, h5⟩, h2, h3⟩ := (pm_mem ht y).1 hy
    obtain ⟨h6, h7, h8⟩ := hx
    rw [cmpM_lt]
    rcases asc_le (ht.gt t htm) with h9 | ⟨h9, h10⟩
    · left; rw [h6, ← h4]; exact h9
    · right
      refine ⟨by rw [h6, h9, h4], ?_⟩
      rw [show (y.1 == s.i) = true by rw [← h4, h9]; simp, cond_true, decide_eq_true_eq] at h2
      omega
/-! ### The reference's way -/
def insN (x : Str) : List Str → List Str
  | [] => [x]
  | y :: l => bif decide (cmpB y x < 0) then y :: insN x l else bif y == x then y :: l else x :: y :: l
def namesR : List Str → List Shot → List Str
  | acc, [] => acc
  | acc, s :: l => namesR (insN s.i acc) l
def mostR (nm : Str) : Int → List Shot → Int
  | m, [] => m
  | m, s :: l => mostR nm (bif s.i == nm then max m s.n else m) l
def thereR (nm : Str) (n : Int) (l : List Shot) : Bool := l.any fun s => s.i == nm && s.n == n
def oneR (l : List Shot) (nm : Str) : List Mis := (gaps nm 0 (mostR nm 0 l)).filter fun x => !thereR nm x.2 l
def missR (l : List Shot) : List Mis := (namesR [] l).flatMap (oneR l)
theorem insN_mem {x z : Str} : ∀ {l : List Str}, z ∈ insN x l ↔ z = x ∨ z ∈ l
  | [] => by simp [insN]
  | y :: l => by
    rw [insN]
    cases decide (cmpB y x < 0)
    · rw [cond_false]
      cases h : y == x
      · rw [cond_false, List.mem_cons]
      · rw [beq_iff_eq] at h
        subst h
        rw [cond_true, List.mem_cons]
        constructor
        · rintro (h | h)
          · exact .inl h
          · exact .inr (.inr h)
        · rintro (h | h | h)
          · exact .inl h
          · exact .inl h
          · exact .inr h
    · rw [cond_true, List.mem_cons, insN_mem, List.mem_cons]
      constructor
      · rintro (h | h | h)
        · exact .inr (.inl h)
        · exact .inl h
        · exact .inr (.inr h)
      · rintro (h | h | h)
        · exact .inr (.inl h)
        · exact .inl h
        · exact .inr (.inr h)
theorem insN_sorted {x : Str} : ∀ {l : List Str}, l.Pairwise (fun a b => cmpB a b < 0) → (insN x l).Pairwise fun a b => cmpB a b < 0
  | [], _ => by simp [insN]
  | y :: l, hl => by
    rw [insN]
    rw [List.pairwise_cons] at hl
    by_cases hb : cmpB y x < 0
    · rw [decide_eq_true hb, cond_true, List.pairwise_cons]
      refine ⟨fun z hz => ?_, insN_sorted hl.2⟩
      rcases insN_mem.1 hz with hz | hz
      · rw [hz]; exact hb
      · exact hl.1 z hz
    · rw [decide_eq_false hb, cond_false]
      cases h : y == x
      · rw [cond_false, List.pairwise_cons]
        have hxy : cmpB x y < 0 := by
          have h1 := cmpB_neg y x
          have h2 : cmpB y x ≠ 0 := fun h0 => by rw [cmpB_zero.1 h0] at h; simp at h
          omega
        refine ⟨fun z hz => ?_, List.pairwise_cons.2 hl⟩
        rcases List.mem_cons.1 hz with hz | hz
        · rw [hz]; exact hxy
        · exact cmpB_ok.lt1 hxy (by have := hl.1 z hz; omega)
      · rw [cond_true]; exact List.pairwise_cons.2 hl
theorem namesR_mem {z : Str} : ∀ {l : List Shot} {acc : List Str}, z ∈ namesR acc l ↔ z ∈ acc ∨ ∃ s ∈ l, s.i = z
  | [], acc => by simp [namesR]
  | x :: l, acc => by
    rw [namesR, namesR_mem, insN_mem]
    constructor
    · rintro ((h | h) | ⟨s, h, e⟩)
      · exact .inr ⟨x, by simp, h.symm⟩
      · exact .inl h
      · exact .inr ⟨s, by simp [h], e⟩
    · rintro (h | ⟨s, h, e⟩)
      · exact .inl (.inr h)
      · rcases List.mem_cons.1 h with h | h
        · subst h; exact .inl (.inl e.symm)
        · exact .inr ⟨s, h, e⟩
theorem namesR_sorted : ∀ {l : List Shot} {acc : List Str}, acc.Pairwise (fun a b => cmpB a b < 0) → (namesR acc l).Pairwise fun a b => cmpB a b < 0
  | [], _, h => h
  | x :: l, acc, h => by rw [namesR]; exact namesR_sorted (insN_sorted h)
theorem mostR_lt {nm : Str} {n : Int} : ∀ {l : List Shot} {m : Int}, n < mostR nm m l ↔ n < m ∨ ∃ s ∈ l, s.i = nm ∧ n < s.n
  | [], m => by simp [mostR]
  | s :: l, m => by
    rw [mostR, mostR_lt]
    cases h : s.i == nm
    · rw [beq_eq_false_iff_ne] at h
      rw [cond_false]
      constructor
      · rintro (h1 | ⟨t, h1, h2⟩)
        · exact .inl h1
        · exact .inr ⟨t, by simp [h1], h2⟩
      · rintro (h1 | ⟨t, h1, h2⟩)
        · exact .inl h1
        · rcases List.mem_cons.1 h1 with h1 | h1
          · subst h1; exact absurd h2.1 h
          · exact .inr ⟨t, h1, h2⟩
    · rw [beq_iff_eq] at h
      rw [cond_true]
      constructor
      · rintro (h1 | ⟨t, h1, h2⟩)
        · rcases Int.lt_or_le n m with h3 | h3
          · exact .inl h3
          · exact .inr ⟨s, by simp, h, by omega⟩
        · exact .inr ⟨t, by simp [h1], h2⟩
      · rintro (h1 | ⟨t, h1, h2, h3⟩)
        · exact .inl (by omega)
        · rcases List.mem_cons.1 h1 with h1 | h1
          · subst h1; exact .inl (by omega)
          · exact .inr ⟨t, h1, h2, h3⟩
theorem thereR_iff {nm : Str} {n : Int} {l : List Shot} : thereR nm n l = true ↔ ∃ s ∈ l, s.i = nm ∧ s.n = n := by
  unfold thereR
  rw [List.any_eq_true]
  simp
theorem oneR_mem {l : List Shot} {nm : Str} {x : Mis} : x ∈ oneR l nm ↔ x.1 = nm ∧ 0 < x.2 ∧ (∃ s ∈ l, s.i = nm ∧ x.2 < s.n) ∧ ¬ ∃ s ∈ l, s.i = nm ∧ s.n = x.2 := by
  unfold oneR
  rw [List.mem_filter, gaps_mem, mostR_lt, Bool.not_eq_true', ← Bool.not_eq_true, thereR_iff]
  constructor
  · rintro ⟨⟨h1, h2, h3⟩, h4⟩
    refine ⟨h1, h2, ?_, h4⟩
    rcases h3 with h3 | h3
    · omega
    · exact h3
  · rintro ⟨h1, h2, h3, h4⟩
    exact ⟨⟨h1, h2, .inr h3⟩, h4⟩
theorem missR_mem {l : List Shot} {x : Mis} : x ∈ missR l ↔ 0 < x.2 ∧ (∃ s ∈ l, s.i = x.1 ∧ x.2 < s.n) ∧ ¬ ∃ s ∈ l, s.i = x.1 ∧ s.n = x.2 := by
  unfold missR
  rw [List.mem_flatMap]
  constructor
  · rintro ⟨nm, h1, h2⟩
    rw [oneR_mem] at h2
    obtain ⟨rfl, h3⟩ := h2
    exact h3
  · rintro ⟨h1, ⟨s, h2, h3, h4⟩, h5⟩
    exact ⟨x.1, namesR_mem.2 (.inr ⟨s, h2, h3⟩), oneR_mem.2 ⟨rfl, h1, ⟨s, h2, h3, h4⟩, h5⟩⟩
theorem flat_sorted {l : List Shot} : ∀ {ns : List Str}, ns.Pairwise (fun a b => cmpB a b < 0) → (ns.flatMap (oneR l)).Pairwise fun x y => cmpM x y < 0
  | [], _ => by simp
  | n :: ns, h => by
    rw [List.pairwise_cons] at h
    rw [List.flatMap_cons, List.pairwise_append]
    refine ⟨(gaps_sorted _ _ _).filter _, flat_sorted h.2, fun x hx y hy => ?_⟩
    obtain ⟨m, h1, h2⟩ := List.mem_flatMap.1 hy
    rw [cmpM_lt]
    left
    rw [(oneR_mem.1 hx).1, (oneR_mem.1 h2).1]
    exact h.1 m h1
/-- both miss the same -/
theorem miss_same {l S : List Shot} (hm : ∀ s, s ∈ S ↔ s ∈ l) (hS : S.Pairwise fun a b => cmpK a b < 0) (hp : ∀ s ∈ l, 1 ≤ s.n) (hi : ∀ s ∈ l, s.i ≠ []) : pm [] 0 S = missR l := by
  have hasc : Asc [] 0 S := by
    refine ⟨Int.le_refl _, hS, fun s hs => ?_, fun s hs => hp s ((hm s).1 hs)⟩
    rw [cmpM_lt]
    left
    have := hi s ((hm s).1 hs)
    cases h : s.i with
    | nil => exact absurd h this
    | cons a b => simp [cmpB]
  refine strict_one cmpM_ok (pm_sorted hasc) (flat_sorted (namesR_sorted .nil)) fun x => ?_
  show _ ↔ x ∈ missR l
  rw [pm_mem hasc, missR_mem]
  have e1 : (∃ s ∈ S, s.i = x.1 ∧ x.2 < s.n) ↔ ∃ s ∈ l, s.i = x.1 ∧ x.2 < s.n := ⟨fun ⟨s, h, h2⟩ => ⟨s, (hm s).1 h, h2⟩, fun ⟨s, h, h2⟩ => ⟨s, (hm s).2 h, h2⟩⟩
  have e2 : (∃ s ∈ S, s.i = x.1 ∧ s.n = x.2) ↔ ∃ s ∈ l, s.i = x.1 ∧ s.n = x.2 := ⟨fun ⟨s, h, h2⟩ => ⟨s, (hm s).1 h, h2⟩, fun ⟨s, h, h2⟩ => ⟨s, (hm s).2 h, h2⟩⟩
  have e3 : (bif x.1 == [] then decide ((0 : Int) < x.2) else decide (0 < x.2)) = true ↔ 0 < x.2 := by
    cases x.1 == [] <;> simp
  rw [e1, e2, e3]
  constructor
  · rintro ⟨a, b, c⟩; exact ⟨b, a, c⟩
  · rintro ⟨a, b, c⟩; exact ⟨b, a, c⟩
end Go.Am
