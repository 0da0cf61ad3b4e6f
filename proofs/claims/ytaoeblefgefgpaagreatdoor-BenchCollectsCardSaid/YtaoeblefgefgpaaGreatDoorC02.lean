/- A part of the proof of a statement of this seat: the machine on which the program is read, and what it computes; for every input. -/
import Derived.Test.YtaoeblefgefgpaaGreatDoorC01
set_option linter.all false
set_option linter.unusedSimpArgs false
set_option linter.unusedVariables false
set_option linter.unusedSectionVars false
namespace Go.Am
open Go
section
variable [Stat]
variable {X : Cx} {ex : Ex} {ops : Array Oper} {base : Nat}

/-! ### The run in the written order, read apart -/

def trE (tr : List (Env × St)) (i : Nat) : Env := ((tr[i]?).getD (.nil, { t := .nil, base := fun _ => none, next := 0 })).1
def trS (tr : List (Env × St)) (i : Nat) : St := ((tr[i]?).getD (.nil, { t := .nil, base := fun _ => none, next := 0 })).2

theorem goD_spec : ∀ (l : List Oper) (i : Nat) (e : Env) (s : St) (tr : List (Env × St)), goD X ex ops base i l e s = some tr →
    tr.length = l.length + 1 ∧ tr[0]? = some (e, s) ∧ ∀ (k : Nat) o, l[k]? = some o → stepD X ex ops base (i + k) o (trE tr k) (trS tr k) = some (trE tr (k + 1), trS tr (k + 1))
  | [], i, e, s, tr, h => by simp only [goD] at h; cases h; simp
  | o :: l, i, e, s, tr, h => by
    simp only [goD] at h
    split at h
    · rename_i e1 s1 h1
      split at h
      · rename_i r h2
        cases h
        obtain ⟨k1, k2, k3⟩ := goD_spec l (i + 1) e1 s1 r h2
        refine ⟨by simp [k1], by simp, fun k o' hk => ?_⟩
        cases k with
        | zero =>
          simp at hk; subst hk
          have : trE ((e, s) :: r) (0 + 1) = e1 ∧ trS ((e, s) :: r) (0 + 1) = s1 := by simp [trE, trS, k2]
          rw [this.1, this.2]
          simpa [trE, trS] using h1
        | succ k =>
          have := k3 k o' (by simpa using hk)
          rw [show i + (k + 1) = i + 1 + k by omega]
          simpa [trE, trS] using this
      · cases h
    · cases h

theorem lastD_spec : ∀ (tr : List (Env × St)), lastD tr = tr.getLast?
  | [] => rfl
  | [x] => rfl
  | x :: y :: l => by
    show lastD (y :: l) = _
    rw [lastD_spec (y :: l), List.getLast?_cons_cons]

theorem wIdx_mem : ∀ (l : List Oper) (i j : Nat), j ∈ wIdx X ops i l ↔ ∃ k o, l[k]? = some o ∧ j = i + k ∧ ((cls X o.op).isW && !late X ops j) = true
  | [], i, j => by simp [wIdx]
  | o :: l, i, j => by
    have ih := wIdx_mem l (i + 1) j
    have key : (∃ (k : Nat) (o' : Oper), (o :: l)[k]? = some o' ∧ j = i + k ∧ ((cls X o'.op).isW && !late X ops j) = true) ↔ (((cls X o.op).isW && !late X ops i) = true ∧ j = i) ∨ ∃ (k : Nat) (o' : Oper), l[k]? = some o' ∧ j = i + 1 + k ∧ ((cls X o'.op).isW && !late X ops j) = true := by
      constructor
      · rintro ⟨k, o', h1, h2, h3⟩
        cases k with
        | zero => simp at h1; subst h1; have e : j = i := by omega
                  exact .inl ⟨e ▸ h3, e⟩
        | succ k => exact .inr ⟨k, o', by simpa using h1, by omega, h3⟩
      · rintro (⟨h1, h2⟩ | ⟨k, o', h1, h2, h3⟩)
        · exact ⟨0, o, by simp, by omega, h2 ▸ h1⟩
        · exact ⟨k + 1, o', by simpa using h1, by omega, h3⟩
    rw [key]
    unfold wIdx
    split
    · rename_i hc
      rw [List.mem_cons, ih]
      constructor
      · rintro (h | h)
        · exact .inl ⟨hc, h⟩
        · exact .inr h
      · rintro (h | h)
        · exact .inl h.2
        · exact .inr h
    · rename_i hc
      rw [ih]
      constructor
      · exact .inr
      · rintro (h | h)
        · exact absurd h.1 hc
        · exact h

theorem wIdx_sorted : ∀ (l : List Oper) (i : Nat), (wIdx X ops i l).Pairwise (· < ·)
  | [], i => by simp [wIdx]
  | o :: l, i => by
    unfold wIdx
    split
    · refine List.pairwise_cons.2 ⟨fun j hj => ?_, wIdx_sorted l (i + 1)⟩
      obtain ⟨k, o', _, h2, _⟩ := (wIdx_mem l (i + 1) j).1 hj
      omega
    · exact wIdx_sorted l (i + 1)

theorem lateIds_spec : ∀ (l : List Oper) (tr : List (Env × St)) (i : Nat), tr.length = l.length + 1 → ∀ k : Nat, k < l.length → late X ops (i + k) = true → ∃ (q : Nat) (o : Oper), l[k]? = some o ∧ (lateIds X ops i l tr)[q]? = some (lateBlk X (trE tr k) o.op) ∧
    ∀ (k' : Nat) (o' : Oper), k < k' → l[k']? = some o' → late X ops (i + k') = true → ∃ q' : Nat, q < q' ∧ (lateIds X ops i l tr)[q']? = some (lateBlk X (trE tr k') o'.op)
  | [], tr, i, _, k, hk, _ => by simp at hk
  | o :: l, [], i, h, k, hk, _ => by simp at h
  | o :: l, (e, s) :: tr, i, h, 0, hk, hl => by
    have ht := lateIds_spec l tr (i + 1) (by simpa using h)
    unfold lateIds
    rw [if_pos (by simpa using hl)]
    refine ⟨0, o, rfl, by simp [trE], fun k' o' h1 h2 h3 => ?_⟩
    obtain ⟨k2, rfl⟩ : ∃ k2, k' = k2 + 1 := ⟨k' - 1, by omega⟩
    have h2' : l[k2]? = some o' := by simpa using h2
    obtain ⟨q, o2, g1, g2, _⟩ := ht k2 (List.getElem?_eq_some_iff.1 h2').1 (by rw [show i + 1 + k2 = i + (k2 + 1) by omega]; exact h3)
    rw [h2'] at g1; cases g1
    refine ⟨q + 1, by omega, ?_⟩
    rw [List.getElem?_cons_succ, g2]
    simp [trE]
  | o :: l, (e, s) :: tr, i, h, k + 1, hk, hl => by
    have ht := lateIds_spec l tr (i + 1) (by simpa using h)
    have hk' : k < l.length := by simpa using hk
    obtain ⟨q, o2, g1, g2, g3⟩ := ht k hk' (by rw [show i + 1 + k = i + (k + 1) by omega]; exact hl)
    unfold lateIds
    have tre : ∀ n, trE ((e, s) :: tr) (n + 1) = trE tr n := fun n => by simp [trE]
    split
    · refine ⟨q + 1, o2, by simpa using g1, by rw [List.getElem?_cons_succ, tre]; exact g2, fun k' o' h1 h2 h3 => ?_⟩
      obtain ⟨k2, rfl⟩ : ∃ k2, k' = k2 + 1 := ⟨k' - 1, by omega⟩
      obtain ⟨q', e1, e2⟩ := g3 k2 o' (by omega) (by simpa using h2) (by rw [show i + 1 + k2 = i + (k2 + 1) by omega]; exact h3)
      exact ⟨q' + 1, by omega, by rw [List.getElem?_cons_succ, tre]; exact e2⟩
    · refine ⟨q, o2, by simpa using g1, by rw [tre]; exact g2, fun k' o' h1 h2 h3 => ?_⟩
      obtain ⟨k2, rfl⟩ : ∃ k2, k' = k2 + 1 := ⟨k' - 1, by omega⟩
      obtain ⟨q', e1, e2⟩ := g3 k2 o' (by omega) (by simpa using h2) (by rw [show i + 1 + k2 = i + (k2 + 1) by omega]; exact h3)
      exact ⟨q', e1, by rw [tre]; exact e2⟩

theorem lateOk_spec {n : Nat} : ∀ (l : List (Option Nat)), lateOk base n l = true → (∀ x ∈ l, ∃ b, x = some b ∧ (b < base ∨ base + n ≤ b)) ∧ ∀ (q q' : Nat) x y, q < q' → l[q]? = some x → l[q']? = some y → x ≠ y
  | [], _ => ⟨fun x hx => (by cases hx), fun q q' x y _ h => by simp at h⟩
  | none :: l, h => by simp [lateOk] at h
  | some b :: l, h => by
    simp only [lateOk, Bool.and_eq_true, Bool.or_eq_true, decide_eq_true_eq, List.all_eq_true, Bool.not_eq_true', beq_eq_false_iff_ne, ne_eq] at h
    obtain ⟨⟨h1, h2⟩, h3⟩ := h
    obtain ⟨k1, k2⟩ := lateOk_spec l h3
    refine ⟨fun x hx => ?_, fun q q' x y hq hx hy => ?_⟩
    · rcases List.mem_cons.1 hx with rfl | hx
      · exact ⟨b, rfl, h1⟩
      · exact k1 x hx
    · obtain ⟨q'', rfl⟩ : ∃ q'', q' = q'' + 1 := ⟨q' - 1, by omega⟩
      rw [List.getElem?_cons_succ] at hy
      cases q with
      | zero =>
        simp at hx; subst hx
        exact fun e => h2 y (List.mem_of_getElem? hy) e.symm
      | succ q => exact k2 q q'' x y (by omega) (by simpa using hx) hy

theorem statesD_spec {tr : List (Env × St)} : ∀ (ws : List Nat) (ss : List (Nat × St)), statesD tr ws = some ss → ss = ws.map fun j => (j + 1, trS tr (j + 1))
  | [], ss, h => by simp only [statesD] at h; cases h; rfl
  | j :: ws, ss, h => by
    simp only [statesD] at h
    split at h
    · rename_i e s r h1 h2
      cases h
      rw [statesD_spec ws r h2]
      simp [trS, h1]
    · cases h

theorem checkR_spec {ws as : List Nat} {ss : List (Nat × St)} {tr0 : List (Env × St)} : ∀ (l : List Oper) (tr : List (Env × St)) (i : Nat), checkR X ex ops base ws as ss tr0 i l tr = true → ∀ (k : Nat) o es, l[k]? = some o → tr[k]? = some es → wantedA ops es.1 o = true →
    (cls X o.op = .r → ∃ v s', opA X ex es.1 o.op es.2 = some (v, s') ∧ readsSame X ex ops base (i + k) as tr0 es.1 o.op v (rangeR ops ws ss (i + k)) = true) ∧
    (cls X o.op = .q → ∀ c vs us, o.op = .call c → evals X es.1 c.args.toList = some vs → frzArgs X es.2 vs = some us → stills vs = true ∨ argsSame X ops base (i + k) as tr0 vs us (rangeR ops ws ss (i + k)) = true)
  | [], tr, i, h, k, o, es, h1, h2, _ => by simp at h1
  | o :: l, [], i, h, k, o', es, h1, h2, _ => by simp at h2
  | o :: l, (e, s) :: tr, i, h, 0, o', es, h1, h2, h4 => by
    simp at h1 h2
    subst h1; subst h2
    simp only [checkR, Bool.and_eq_true] at h
    obtain ⟨h, _⟩ := h
    simp only [Nat.add_zero]
    refine ⟨fun hk => ?_, fun hk c vs us hc hvs hus => ?_⟩
    · rw [hk] at h
      simp only [h4, Bool.not_true, Bool.false_or] at h
      split at h
      · rename_i v s' hv
        exact ⟨v, s', hv, h⟩
      · cases h
    · rw [hk] at h
      simp only [h4, hc, hvs, hus, Bool.not_true, Bool.false_or, Bool.or_eq_true] at h
      exact h
  | o :: l, (e, s) :: tr, i, h, k + 1, o', es, h1, h2, h4 => by
    simp only [checkR, Bool.and_eq_true] at h
    have := checkR_spec l tr (i + 1) h.2 k o' es (by simpa using h1) (by simpa using h2) h4
    rw [show i + (k + 1) = i + 1 + k by omega]
    exact this

theorem readsSame_spec {as : List Nat} {tr : List (Env × St)} {i : Nat} {e : Env} {o : Op} {v : AV} : ∀ (l : List (Nat × St)), readsSame X ex ops base i as tr e o v l = true → ∀ m s, (m, s) ∈ l → ∃ s', opA X ex e o (addA ops base i m tr as s) = some (v, s')
  | [], _, m, s, hm => by cases hm
  | (m', s1) :: l, h, m, s, hm => by
    unfold readsSame at h
    split at h
    · rename_i u s' hu
      simp only [Bool.and_eq_true] at h
      rcases List.mem_cons.1 hm with e | hm
      · cases e
        have := same_val h.1; subst this
        exact ⟨_, hu⟩
      · exact readsSame_spec l h.2 m s hm
    · cases h

theorem argsSame_spec {as : List Nat} {tr : List (Env × St)} {i : Nat} {vs us : List AV} : ∀ (l : List (Nat × St)), argsSame X ops base i as tr vs us l = true → ∀ m s, (m, s) ∈ l → frzArgs X (addA ops base i m tr as s) vs = some us
  | [], _, m, s, hm => by cases hm
  | (m', s1) :: l, h, m, s, hm => by
    unfold argsSame at h
    split at h
    · rename_i u hu
      simp only [Bool.and_eq_true] at h
      rcases List.mem_cons.1 hm with e | hm
      · cases e
        have := sames_val h.1; subst this
        exact hu
      · exact argsSame_spec l h.2 m s hm
    · cases h

theorem aIdx_mem : ∀ (l : List Oper) (i j : Nat), j ∈ aIdx X i l → ∃ k o, l[k]? = some o ∧ j = i + k ∧ cls X o.op = .a
  | [], i, j, h => by simp [aIdx] at h
  | o :: l, i, j, h => by
    have ih := aIdx_mem l (i + 1) j
    unfold aIdx at h
    have lift : (∃ (k : Nat) (o' : Oper), l[k]? = some o' ∧ j = i + 1 + k ∧ cls X o'.op = .a) → ∃ (k : Nat) (o' : Oper), (o :: l)[k]? = some o' ∧ j = i + k ∧ cls X o'.op = .a :=
      fun ⟨k, o', h1, h2, h3⟩ => ⟨k + 1, o', by simpa using h1, by omega, h3⟩
    split at h
    · rename_i hc
      rcases List.mem_cons.1 h with rfl | h
      · exact ⟨0, o, by simp, by omega, isA_iff.1 hc⟩
      · exact lift (ih h)
    · exact lift (ih h)

theorem addA_spec {i m : Nat} {tr : List (Env × St)} : ∀ (as : List Nat) (s : St), (∀ j ∈ as, kA X ops j) →
    (addA ops base i m tr as s).next = s.next ∧ ∀ id b, (addA ops base i m tr as s).look id = some b →
      s.look id = some b ∨ ∃ j, m ≤ j ∧ kA X ops j ∧ bef ops j i = true ∧ id = base + j ∧ (trS tr (j + 1)).look id = some b
  | [], s, _ => ⟨rfl, fun id b h => .inl h⟩
  | j :: as, s, has => by
    have has' : ∀ j ∈ as, kA X ops j := fun j hj => has j (List.mem_cons_of_mem _ hj)
    unfold addA
    split
    · rename_i hc
      simp only [Bool.and_eq_true, decide_eq_true_eq] at hc
      split
      · rename_i e1 s1 h1
        have hs1 : trS tr (j + 1) = s1 := by simp [trS, h1]
        split
        · rename_i b0 hb0
          obtain ⟨k1, k2⟩ := addA_spec as (s.put (base + j) b0) has'
          refine ⟨k1, fun id b hb => ?_⟩
          rcases k2 id b hb with h3 | h3
          · rw [St.look_put] at h3
            by_cases e : base + j = id
            · rw [if_pos e] at h3
              refine .inr ⟨j, hc.1, has j (List.mem_cons_self ..), hc.2, e.symm, ?_⟩
              rw [hs1, ← e]
              unfold St.look
              rw [hb0]
              cases b0 <;> simp at h3 ⊢ <;> exact h3
            · rw [if_neg e] at h3; exact .inl h3
          · exact .inr h3
        · exact addA_spec as s has'
      · exact addA_spec as s has'
    · exact addA_spec as s has'

theorem noneD_spec {s : St} : ∀ (l : List Oper) (i : Nat), noneD X base s i l = true → ∀ (k : Nat) o, l[k]? = some o → cls X o.op = .a → s.look (base + (i + k)) = none
  | [], i, _, k, o, h, _ => by simp at h
  | o :: l, i, h, 0, o', h1, h2 => by
    simp at h1; subst h1
    simp only [noneD, Bool.and_eq_true, Bool.or_eq_true, h2] at h
    have := h.1
    simp [Cls.isA] at this
    unfold St.look
    rw [show base + (i + 0) = base + i by omega, this]
  | o :: l, i, h, k + 1, o', h1, h2 => by
    simp only [noneD, Bool.and_eq_true] at h
    have := noneD_spec l (i + 1) h.2 k o' (by simpa using h1) h2
    rw [show i + (k + 1) = i + 1 + k by omega]; exact this

theorem noneAll_spec : ∀ (l : List (Nat × St)), noneAll X ops base l = true → ∀ m s, (m, s) ∈ l → ∀ i, m ≤ i → kA X ops i → s.look (base + i) = none
  | [], _, m, s, hm => by cases hm
  | (m', s1) :: l, h, m, s, hm => by
    simp only [noneAll, Bool.and_eq_true] at h
    rcases List.mem_cons.1 hm with e | hm
    · cases e
      rintro i hi ⟨o, ho, hc⟩
      obtain ⟨k, rfl⟩ : ∃ k, i = m' + k := ⟨i - m', by omega⟩
      exact noneD_spec _ _ h.1 k o (by rw [List.getElem?_drop]; simpa using ho) hc
    · exact noneAll_spec l h.2 m s hm

/-! ### The environment -/

/-- the last of those before j -/
theorem last_of (W : Nat → Prop) : ∀ j, (∀ i, i < j → ¬ W i) ∨ ∃ i, i < j ∧ W i ∧ ∀ i', i < i' → i' < j → ¬ W i'
  | 0 => .inl fun i h => by omega
  | j + 1 => by
    by_cases hj : W j
    · exact .inr ⟨j, by omega, hj, fun i' h1 h2 => by omega⟩
    · rcases last_of W j with h | ⟨i, h1, h2, h3⟩
      · refine .inl fun i hi => ?_
        by_cases e : i = j
        · subst e; exact hj
        · exact h i (by omega)
      · refine .inr ⟨i, by omega, h2, fun i' k1 k2 => ?_⟩
        by_cases e : i' = j
        · subst e; exact hj
        · exact h3 i' k1 (by omega)

def Wr (ops : Array Oper) (t : Tmp) (i : Nat) : Prop := ∃ o, ops[i]? = some o ∧ o.dst = some t

/-- the temporaries, where the operations of D have run -/
structure KE (ops : Array Oper) (E : Nat → Env) (D : Nat → Bool) (e : Env) : Prop where
  hit : ∀ t i, D i = true → Wr ops t i → (∀ i', i < i' → D i' = true → ¬ Wr ops t i') → Env.get e t = Env.get (E (i + 1)) t
  miss : ∀ t, (∀ i, D i = true → ¬ Wr ops t i) → Env.get e t = Env.get (E 0) t

variable {E : Nat → Env} {S : Nat → St} {D D' : Nat → Bool} {e : Env}

theorem KE.at (h : KE ops E D e) (ht : Tr0 X ex ops base E S) {t : Tmp} {j : Nat} (hj : j ≤ ops.size) (h1 : ∀ i, i < j → Wr ops t i → D i = true) (h2 : ∀ i, j ≤ i → D i = true → ¬ Wr ops t i) : Env.get e t = Env.get (E j) t := by
  rcases last_of (Wr ops t) j with hn | ⟨i, k1, k2, k3⟩
  · rw [h.miss t fun i hi hw => by
      by_cases hij : i < j
      · exact hn i hij hw
      · exact h2 i (by omega) hi hw]
    have := ht.env_keep t 0 j (fun i o _ hi ho hd => hn i (by omega) ⟨o, ho, hd⟩) (by omega)
    rw [Nat.zero_add] at this
    exact this.symm
  · rw [h.hit t i (h1 i k1 k2) k2 fun i' a b hw => by
      by_cases hij : i' < j
      · exact k3 i' a hij hw
      · exact h2 i' (by omega) b hw]
    have := ht.env_keep t (i + 1) (j - (i + 1)) (fun i' o a b ho hd => k3 i' (by omega) (by omega) ⟨o, ho, hd⟩) (by omega)
    rw [show i + 1 + (j - (i + 1)) = j by omega] at this
    exact this.symm

/-- what an operation looks at stands as in the written order -/
theorem KE.look (h : KE ops E D e) (ht : Tr0 X ex ops base E S) (hok : Ok X ops) {j : Nat} {o : Oper} (hr : Rdy ops D j o) {t : Tmp} (hl : t ∈ lookL ops o) : Env.get e t = Env.get (E j) t := by
  have hj := (Array.getElem?_eq_some_iff.1 hr.op).1
  refine h.at ht (Nat.le_of_lt hj) (fun i hi ⟨oi, hoi, hd⟩ => ?_) (fun i hi hDi ⟨oi, hoi, hd⟩ => ?_)
  · rcases hok.pair i j oi o hi hoi hr.op with hb | ⟨ha, _⟩
    · exact hr.bef hb
    · exact absurd hl ((apartL_spec ha).1 t hd)
  · by_cases e : i = j
    · subst e; rw [hr.no] at hDi; cases hDi
    · rcases hok.pair j i o oi (by omega) hr.op hoi with hb | ⟨ha, _⟩
      · rw [hr.notBef hDi] at hb; cases hb
      · exact absurd hl ((apartL_spec ha).2.2 t hd)

theorem KE.step (h : KE ops E D e) (hok : Ok X ops) {j : Nat} {o : Oper} (hr : Rdy ops D j o) (hD : Adds D D' j) {v : AV} (hE : E (j + 1) = setDst (E j) o.dst v) : KE ops E D' (setDst e o.dst v) := by
  have hj := (Array.getElem?_eq_some_iff.1 hr.op).1
  have wj : ∀ t, Wr ops t j → o.dst = some t := fun t ⟨o', ho', hd⟩ => by rw [hr.op] at ho'; cases ho'; exact hd
  refine ⟨fun t i hi hw hmax => ?_, fun t hno => ?_⟩
  · by_cases ht : o.dst = some t
    · -- j is the last writer
      have hij : i = j := by
        rcases hD.of hi with e1 | hDi
        · exact e1
        · obtain ⟨oi, hoi, hd⟩ := hw
          rcases Nat.lt_trichotomy i j with hlt | heq | hgt
          · exact absurd ⟨o, hr.op, ht⟩ (hmax j hlt hD.1)
          · exact heq
          · rcases hok.pair j i o oi hgt hr.op hoi with hb | ⟨ha, _⟩
            · rw [hr.notBef hDi] at hb; cases hb
            · exact absurd hd ((apartL_spec ha).2.1 t ht)
      subst hij
      rw [hE, ht, setDst_self, setDst_self]
    · have hij : i ≠ j := fun e1 => ht (wj t (e1 ▸ hw))
      rw [setDst_ne ht]
      have hDi : D i = true := by rw [hD.2 i hij] at hi; exact hi
      refine h.hit t i hDi hw fun i' a b hw' => hmax i' a ?_ hw'
      by_cases e1 : i' = j
      · subst e1; exact hD.1
      · rw [hD.2 i' e1]; exact b
  · have ht : o.dst ≠ some t := fun ht => hno j hD.1 ⟨o, hr.op, ht⟩
    rw [setDst_ne ht]
    refine h.miss t fun i hi hw => hno i ?_ hw
    by_cases e1 : i = j
    · subst e1; exact hD.1
    · rw [hD.2 i e1]; exact hi

end
end Go.Am
set_option linter.unusedSimpArgs false
set_option linter.unusedVariables false
set_option linter.unusedSectionVars false
namespace Go.Am
open Go
section
variable [Stat]
variable {X : Cx} {P : Program} {ex : Ex} {ops : Array Oper}

/-- an operation that enters nothing -/
theorem op_plain (hX : Full X P) {r : Option Nat} {o : Oper} {e : Env} {s s' : St} {v : AV} {a : Act} {σ : Sg} {w : World} (G : GlobOk X σ) (H : HR σ s w) (hf : σ s.next = none) (E : erel σ e a.tmps) (hc : isCallV o.op = false) (h : opA X ex e o.op s = some (v, s'))
    {nxt : Act → World → Prop} {Q : Exit → Act → World → Prop} (hn : ∀ u w' σ', vrel σ' v u → Good σ s w σ' s' w' → nxt (a.put o.dst u) w') : o.wpIn (FW r) 0 P a w nxt Q := by
  refine ⟨about_wide, ?_⟩
  rw [Oper.semAt_eq _ _ _ (fun c hc => by rw [hc] at h; simp [opA] at h), eval_eq_rho]
  obtain ⟨σ', nx, u, w', h1, h2, h3, h4⟩ := opA_sound (P := P) hX.toCxOk G H hf E hc h
  rw [h1]
  rcases h2 with rfl | ⟨rfl, rfl⟩
  · rw [Oper.uponIn_value]; exact hn _ _ _ h3 h4
  · rw [Oper.uponIn_skip]; exact hn _ _ _ h3 h4

theorem not_callV {o : Op} (h : cls X o ≠ .w) (h' : cls X o ≠ .q) : isCallV o = false := by
  cases o <;> try rfl
  rename_i c
  obtain ⟨callee, args, ats⟩ := c
  cases callee <;> first
    | rfl
    | (rename_i f
       exfalso
       cases f <;> simp only [cls] at h h' <;> first
         | exact h trivial
         | (split at h <;> simp_all)
         | simp_all)

theorem countL_mono {p q : Nat → Bool} : ∀ (l : List Nat), (∀ x ∈ l, p x = true → q x = true) → countL p l ≤ countL q l
  | [], _ => Nat.le_refl _
  | x :: l, h => by
    have ih := countL_mono (p := p) (q := q) l fun y hy => h y (List.mem_cons_of_mem _ hy)
    have hx := h x (List.mem_cons_self ..)
    simp only [countL]
    by_cases hp : p x = true
    · rw [if_pos hp, if_pos (hx hp)]; omega
    · rw [if_neg hp]; split <;> omega

theorem countL_split {p : Nat → Bool} : ∀ (l : List Nat) (n : Nat), n ≤ l.length → (∀ x ∈ l.take n, p x = true) → (∀ x ∈ l.drop n, p x = false) → countL p l = n
  | [], n, h, _, _ => by simp at h; subst h; rfl
  | x :: l, 0, h, _, h2 => by
    have ih := countL_split (p := p) l 0 (by omega) (by simp) (fun y hy => h2 y (by simpa using List.mem_cons_of_mem _ hy))
    have := h2 x (by simp)
    simp only [countL, this, ih]; rfl
  | x :: l, n + 1, h, h1, h2 => by
    have ih := countL_split (p := p) l n (by simpa using h) (fun y hy => h1 y (by simpa using .inr hy)) (fun y hy => h2 y (by simpa using hy))
    have := h1 x (by simp)
    simp only [countL, this, if_true, ih]

theorem wanted_congr {e e' : Env} {o : Oper} (h : ∀ t ∈ lookL ops o, Env.get e t = Env.get e' t) : wantedA ops e o = wantedA ops e' o := by
  unfold wantedA
  cases hg : o.guard with
  | none => rfl
  | some g =>
    obtain ⟨j, b⟩ := g
    simp only
    cases hj : ops[j]? with
    | none => rfl
    | some oj =>
      simp only
      cases hd : oj.dst with
      | none => rfl
      | some d =>
        simp only
        rw [h d (by simp [lookL, hg, hj, hd])]

theorem look_ops {o : Oper} {t : Tmp} (h : Operand.tmp t ∈ o.op.operands.toList) : t ∈ lookL ops o := by
  unfold lookL
  rw [List.mem_append]
  exact .inl (List.mem_filterMap.2 ⟨_, h, rfl⟩)

/-- all that is known while such a region runs -/
structure DI (X : Cx) (ops : Array Oper) (E : Nat → Env) (S : Nat → St) (σ0 : Sg) (s0 : St) (w0 : World) (n0 sz : Nat) (D : Nat → Bool) (a : Act) (w : World) : Prop where
  ex : ∃ m σ T e, HI X ops E S σ0 s0 w0 D m σ T w ∧ KE ops E D e ∧ erel σ e a.tmps ∧ GlobOk X σ ∧ DF n0 σ w a.defers
  size : a.tmps.size = sz

variable {E : Nat → Env} {S : Nat → St} {σ0 : Sg} {s0 : St} {w0 : World} {n0 sz : Nat} {D D' : Nat → Bool} {a : Act} {w : World}

theorem DI.step (hX : Full X P) (hE : ExOk X P ex) (ht : Tr0 X ex ops s0.next E S) (hL : Late X ops s0.next E) (hok : Ok X ops) (hn0 : n0 ≤ w0.heap.size) (hdst : ∀ o ∈ ops.toList, dstOk sz o.dst)
    (hnone : ∀ m, m = 0 ∨ (∃ j, m = j + 1 ∧ kW X ops j) → ∀ i, m ≤ i → kA X ops i → (S m).look (s0.next + i) = none)
    (hread : ∀ (D : Nat → Bool) m j o v s', Rdy ops D j o → (∀ i, kW X ops i → (D i = true ↔ i < m)) → (m = 0 ∨ ∃ j, m = j + 1 ∧ kW X ops j) → cls X o.op = .r ∨ cls X o.op = .q → wantedA ops (E j) o = true → opA X ex (E j) o.op (S j) = some (v, s') →
      ∃ R s'', opA X ex (E j) o.op R = some (v, s'') ∧ R.next = (S m).next ∧ ∀ id b, R.look id = some b → (S m).look id = some b ∨ ∃ i, m ≤ i ∧ kA X ops i ∧ Am.bef ops i j = true ∧ id = s0.next + i ∧ (S (i + 1)).look id = some b)
    (h : DI X ops E S σ0 s0 w0 n0 sz D a w) {j : Nat} {o : Oper} (hr : Rdy ops D j o) (hD : Adds D D' j) {r : Option Nat} {nxt : Act → World → Prop} {Q : Exit → Act → World → Prop}
    (hnx : ∀ a' w', DI X ops E S σ0 s0 w0 n0 sz D' a' w' → nxt a' w') :
    if Region.wanted o (yielded ops a.tmps) then o.wpIn (FW r) 0 P a w nxt Q else (∀ f, o.about P w a.eval = some f → (FW r).fn f) ∧ nxt (a.put o.dst Go.undef) w := by
  obtain ⟨⟨m, σ, T, e, hH, hK, hEr, hG, hDF⟩, hsz⟩ := h
  have hjlt : j < ops.size := (Array.getElem?_eq_some_iff.1 hr.op).1
  have hdj : dstOk a.tmps.size o.dst := by
    rw [hsz]; exact hdst o (by
      have := (Array.getElem?_eq_some_iff.1 hr.op).2
      rw [← this]; simp)
  have hlook : ∀ t ∈ lookL ops o, Env.get e t = Env.get (E j) t := fun t htl => hK.look ht hok hr htl
  have hcong : ∀ s, opA X ex e o.op s = opA X ex (E j) o.op s := fun s => opA_congr fun t hto => hlook t (look_ops hto)
  have hnm := hnone m hH.mw
  have hwt : Region.wanted o (yielded ops a.tmps) = wantedA ops (E j) o := by rw [wanted_eq hEr, wanted_congr hlook]
  rw [hwt]
  have fin : ∀ {m' : Nat} {σ' : Sg} {T' : St} {w' : World} {v : AV} {u : Value}, HI X ops E S σ0 s0 w0 D' m' σ' T' w' → E (j + 1) = setDst (E j) o.dst v → Sg.le σ σ' → vrel σ' v u → DF n0 σ' w' a.defers →
      DI X ops E S σ0 s0 w0 n0 sz D' (a.put o.dst u) w' := by
    intro m' σ' T' w' v u h1 h2 h3 h4 h5
    refine ⟨⟨m', σ', T', setDst e o.dst v, h1, hK.step hok hr hD h2, erel_setDst (hEr.mono h3) hdj h4, hG.mono h3, by rw [put_defers]; exact h5⟩, by rw [put_size, hsz]⟩
  rcases stepD_cases (ht.step j o hr.op) with ⟨h1, h2, h3⟩ | ⟨h1, v, h2, ⟨hc, s1, h3, h4⟩ | ⟨hc, h3⟩⟩
  · -- not wanted
    rw [h1]
    simp only [Bool.false_eq_true, if_false]
    refine ⟨about_wide, hnx _ _ ?_⟩
    by_cases hs : kS X ops j
    · exfalso
      obtain ⟨o2, ho2, _, hg, _⟩ := kS_spec hs
      rw [hr.op] at ho2; cases ho2
      simp [wantedA, hg] at h1
    by_cases hw : kW X ops j
    · obtain ⟨a1, a2, a3, a4, a5, a6, a7⟩ := hH.sub_w ht hL hok hnm hr hw
      have hHR : HR σ (S j) w := hH.gd.hr.sub a5
      have := hH.wr ht hL hok hnm hr hD hw (σ' := σ) (w' := w) (by rw [h3]; exact Good.refl hHR)
      exact fin this h2 (Sg.le_refl _) undef_rel hDF
    · have := hH.keep hr hD hw hs (R := T) (fun _ _ _ _ hb => hb) rfl (Good.refl hH.gd.hr) (fun _ => rfl)
      exact fin this h2 (Sg.le_refl _) undef_rel hDF
  · -- a new block
    rw [h1]
    simp only [if_true]
    have hc := isA_iff.1 hc
    obtain ⟨b, hb, rfl, hall⟩ := cls_a hc h3
    have h5 := hall { T with next := s0.next + j } rfl
    rw [← hcong] at h5
    have hS : (S (j + 1)).look (s0.next + j) = some b := by
      rw [h4]
      show (St.new { S j with next := s0.next + j } b).look (s0.next + j) = some b
      rw [St.look_new _ _ _ hb, if_pos rfl]
    refine op_plain hX hG (hH.gd.hr.congr (t := { T with next := s0.next + j }) fun _ => rfl) (hH.u j ⟨o, hr.op, hc⟩ hr.no) hEr (not_callV (X := X) (by rw [hc]; simp) (by rw [hc]; simp)) h5 fun u w' σ' hv g => hnx _ _ ?_
    have := hH.al hL hok hr hD hc hb hS g
    exact fin this h2 g.ext.le hv (hDF.good g)
  · rw [h1]
    simp only [if_true]
    have notW : cls X o.op ≠ .w → ¬ kW X ops j := fun hne ⟨o2, ho2, hc2, _⟩ => by rw [hr.op] at ho2; cases ho2; exact hne hc2
    have notS : cls X o.op ≠ .w → ¬ kS X ops j := fun hne hs => by
      obtain ⟨o2, ho2, _, _, hc2, _⟩ := kS_spec hs
      rw [hr.op] at ho2; cases ho2; exact hne hc2
    have notA : cls X o.op ≠ .a → kA X ops j → σ = σ → False := fun hne ⟨o2, ho2, hc2⟩ _ => by rw [hr.op] at ho2; cases ho2; exact hne hc2
    cases hk : cls X o.op with
    | a => rw [hk] at hc; cases hc
    | p =>
      obtain ⟨_, hall⟩ := cls_p hk _ _ _ h3
      have h5 := hall T
      rw [← hcong] at h5
      refine op_plain hX hG hH.gd.hr (hH.gd.fresh _ (Nat.le_refl _)) hEr (not_callV (X := X) (by rw [hk]; simp) (by rw [hk]; simp)) h5 fun u w' σ' hv g => hnx _ _ ?_
      have := hH.keep hr hD (notW (by rw [hk]; simp)) (notS (by rw [hk]; simp)) (R := T) (fun _ _ _ _ hb => hb) rfl g (fun e => (notA (by rw [hk]; simp) e rfl).elim)
      exact fin this h2 g.ext.le hv (hDF.good g)
    | r =>
      have hnl : ∀ i, D i = true → ¬ kS X ops i := hr.noLate (by rw [hk]; simp) (by rw [hk]; simp) (by
        cases hl : late X ops j with
        | false => rfl
        | true => exact absurd hl (notS (by rw [hk]; simp)))
      obtain ⟨R, s'', h5, h6, h7⟩ := hread D m j o v _ hr hH.cutw hH.mw (.inl hk) h1 h3
      have := cls_r hk h5; subst this
      rw [← hcong] at h5
      have hsub : ∀ i p b, σ i = some p → s''.look i = some b → T.look i = some b := by
        intro i p b hp hb
        rcases h7 i b hb with h8 | ⟨i', k1, k2, k3, rfl, k4⟩
        · rw [hH.t1 i (by rw [hp]; simp) ?_ fun i' k1 k2 => absurd k2 (hnl i' k1)]
          · exact h8
          · rintro i' k1 k2 k3 rfl
            rw [hnm i' k1 k3] at h8; cases h8
        · rw [hH.t2 i' k1 (hr.bef k3) k2 (by rw [hp]; simp)]
          exact k4
      have hn : s''.next = T.next := by rw [h6, hH.t3]
      have I : Inv X σ s'' w n0 e a := ⟨hH.gd.hr.sub hsub, fun i hi => hH.gd.fresh i (by rw [← hn]; exact hi), hG, hEr, hDF, Nat.le_trans hn0 hH.gd.ext.size⟩
      refine op_step hX hE I h5 fun u w' σ' hv g => hnx _ _ ?_
      have := hH.keep hr hD (notW (by rw [hk]; simp)) (notS (by rw [hk]; simp)) hsub hn g (fun e => (notA (by rw [hk]; simp) e rfl).elim)
      exact fin this h2 g.ext.le hv (hDF.good g)
    | q =>
      have hnl : ∀ i, D i = true → ¬ kS X ops i := hr.noLate (by rw [hk]; simp) (by rw [hk]; simp) (by
        cases hl : late X ops j with
        | false => rfl
        | true => exact absurd hl (notS (by rw [hk]; simp)))
      obtain ⟨R, s'', h5, h6, h7⟩ := hread D m j o v _ hr hH.cutw hH.mw (.inr hk) h1 h3
      have := (cls_c hk h5).1; subst this
      rw [← hcong] at h5
      have hsub : ∀ i p b, σ i = some p → s''.look i = some b → T.look i = some b := by
        intro i p b hp hb
        rcases h7 i b hb with h8 | ⟨i', k1, k2, k3, rfl, k4⟩
        · rw [hH.t1 i (by rw [hp]; simp) ?_ fun i' k1 k2 => absurd k2 (hnl i' k1)]
          · exact h8
          · rintro i' k1 k2 k3 rfl
            rw [hnm i' k1 k3] at h8; cases h8
        · rw [hH.t2 i' k1 (hr.bef k3) k2 (by rw [hp]; simp)]
          exact k4
      have hn : s''.next = T.next := by rw [h6, hH.t3]
      have I : Inv X σ s'' w n0 e a := ⟨hH.gd.hr.sub hsub, fun i hi => hH.gd.fresh i (by rw [← hn]; exact hi), hG, hEr, hDF, Nat.le_trans hn0 hH.gd.ext.size⟩
      refine op_step hX hE I h5 fun u w' σ' hv g => hnx _ _ ?_
      have := hH.keep hr hD (notW (by rw [hk]; simp)) (notS (by rw [hk]; simp)) hsub hn g (fun e => (notA (by rw [hk]; simp) e rfl).elim)
      exact fin this h2 g.ext.le hv (hDF.good g)
    | w =>
      by_cases hs : kS X ops j
      · obtain ⟨b, hb, _⟩ := hL.some j hs
        obtain ⟨k0, k', v', g1, g2, g3, g4, g5⟩ := ht.late_step hr.op hs hb
        have hbl : lateBlk X (E j) o.op = some b := by unfold lb at hb; rw [hr.op] at hb; exact hb
        -- the block is one of ours
        have hσ : σ b ≠ none := by
          obtain ⟨o2, ho2, hst, _⟩ := kS_spec hs
          rw [hr.op] at ho2; cases ho2
          cases hop : o.op <;> rw [hop] at hst <;> simp only [isStore] at hst <;> try (cases hst; done)
          rename_i tt aa xx
          rw [hop] at hbl
          simp only [lateBlk] at hbl
          split at hbl
          · rename_i b1 o1 ha
            cases hbl
            have ha' : eval X e aa = some (.ptr b o1) := by
              rw [← ha]
              exact eval_congr fun t ht' => hlook t (look_ops (by rw [hop, ht']; simp [Op.operands]))
            obtain ⟨p, hp, _⟩ := vrel_ptr (eval_rel hG hEr ha')
            rw [hp]; simp
          · cases hbl
        have hf := hH.find_late ht hL hok hr hs hb hσ
        have hTk : T.look b = some k0 := by rw [hf]; exact g1
        have hget : T.get b = (S j).get b := by
          have h5 := hTk
          have h6 := g1
          unfold St.look at h5 h6
          cases hx : T.get b with
          | none => rw [hx] at h5; cases h5
          | some x =>
            cases hy : (S j).get b with
            | none => rw [hy] at h6; cases h6
            | some y =>
              rw [hx] at h5; rw [hy] at h6
              cases x <;> cases y <;> simp only at h5 h6 <;> first | (cases h5; done) | (cases h6; done) | (rw [h5, h6])
        have h5 := g5 T hget
        rw [← hcong] at h5
        have I : Inv X σ T w n0 e a := ⟨hH.gd.hr, hH.gd.fresh, hG, hEr, hDF, Nat.le_trans hn0 hH.gd.ext.size⟩
        refine op_step hX hE I h5 fun u w' σ' hv g => hnx _ _ ?_
        have := hH.st hL hr hD hs hb hσ hTk g2 (by rw [g3, St.look_put, if_pos rfl]; cases k' <;> first | rfl | exact absurd rfl g2) g
        exact fin this g4 g.ext.le hv (hDF.good g)
      · have hw : kW X ops j := ⟨o, hr.op, hk, by
          cases hl : late X ops j with
          | false => rfl
          | true => exact absurd hl hs⟩
        obtain ⟨a1, a2, a3, a4, a5, a6, a7⟩ := hH.sub_w ht hL hok hnm hr hw
        have hHR : HR σ (S j) w := hH.gd.hr.sub a5
        rw [← hcong] at h3
        have I : Inv X σ (S j) w n0 e a := ⟨hHR, fun i hi => hH.gd.fresh i (by rw [← a2]; exact hi), hG, hEr, hDF, Nat.le_trans hn0 hH.gd.ext.size⟩
        refine op_step hX hE I h3 fun u w' σ' hv g => hnx _ _ ?_
        have := hH.wr ht hL hok hnm hr hD hw g
        exact fin this h2 g.ext.le hv (hDF.good g)

/-- the whole of a drawn order -/
theorem DI.run (hX : Full X P) (hE : ExOk X P ex) (ht : Tr0 X ex ops s0.next E S) (hL : Late X ops s0.next E) (hok : Ok X ops) (hn0 : n0 ≤ w0.heap.size) (hdst : ∀ o ∈ ops.toList, dstOk sz o.dst)
    (hnone : ∀ m, m = 0 ∨ (∃ j, m = j + 1 ∧ kW X ops j) → ∀ i, m ≤ i → kA X ops i → (S m).look (s0.next + i) = none)
    (hread : ∀ (D : Nat → Bool) m j o v s', Rdy ops D j o → (∀ i, kW X ops i → (D i = true ↔ i < m)) → (m = 0 ∨ ∃ j, m = j + 1 ∧ kW X ops j) → cls X o.op = .r ∨ cls X o.op = .q → wantedA ops (E j) o = true → opA X ex (E j) o.op (S j) = some (v, s') →
      ∃ R s'', opA X ex (E j) o.op R = some (v, s'') ∧ R.next = (S m).next ∧ ∀ id b, R.look id = some b → (S m).look id = some b ∨ ∃ i, m ≤ i ∧ kA X ops i ∧ Am.bef ops i j = true ∧ id = s0.next + i ∧ (S (i + 1)).look id = some b)
    {r : Option Nat} {Q : Exit → Act → World → Prop} (hfin : ∀ D a w, (∀ i, i < ops.size → D i = true) → DI X ops E S σ0 s0 w0 n0 sz D a w → Q .normal a w) :
    ∀ (fuel t : Nat) (listed : Array Bool) (a : Act) (w : World), listed.size = ops.size → Closed ops (fun i => listed.getD i false) → left (fun i => listed.getD i false) ops.size ≤ fuel → DI X ops E S σ0 s0 w0 n0 sz (fun i => listed.getD i false) a w →
      wpOpsIn (FW r) 0 P ops Q (Region.linearise.go .any ops fuel t listed []) a w := by
  intro fuel
  induction fuel with
  | zero =>
    intro t listed a w hs hcl hl hI
    simp only [Region.linearise.go, List.reverse_nil, wpOpsIn]
    exact hfin _ _ _ (left_zero (by omega)) hI
  | succ fuel ih =>
    intro t listed a w hs hcl hl hI
    simp only [Region.linearise.go]
    generalize hrs : ((List.range ops.size).filter fun i => !listed.getD i true && ((ops[i]?).map (·.after.all fun e => !Region.binds .any e || listed.getD e.on false)).getD false) = rs
    cases hi : rs[t % rs.length]? with
    | none =>
      have hnil : rs = [] := by
        cases rs with
        | nil => rfl
        | cons x xs =>
          have hlt : t % (x :: xs).length < (x :: xs).length := Nat.mod_lt _ (by simp)
          rw [List.getElem?_eq_getElem hlt] at hi; cases hi
      simp only [List.reverse_nil, wpOpsIn]
      refine hfin _ _ _ (fun i hi => ?_) hI
      -- the first that is not listed would be ready
      induction i using Nat.strongRecOn with
      | _ i ihi =>
        cases hD : listed.getD i false with
        | true => rfl
        | false =>
          exfalso
          have ho := Array.getElem?_eq_getElem hi
          have : i ∈ rs := by
            rw [← hrs, List.mem_filter]
            refine ⟨List.mem_range.2 hi, ?_⟩
            have h1 : listed.getD i true = false := by
              rw [Array.getD_eq_getD_getElem?, Array.getElem?_eq_getElem (by omega)] at hD ⊢
              simpa using hD
            rw [h1, ho]
            simp only [Bool.not_false, Bool.true_and, Option.map_some, Option.getD_some]
            rw [← Array.all_toList, List.all_eq_true]
            intro e he
            cases hb : Region.binds .any e with
            | false => rfl
            | true =>
              have hlt := hok.edge i _ ho e he hb
              simp only [Bool.not_true, Bool.false_or]
              exact ihi e.on hlt (by omega)
          rw [hnil] at this; cases this
    | some j =>
      simp only
      have hj := List.mem_of_getElem? hi
      rw [← hrs, List.mem_filter] at hj
      obtain ⟨hj1, hj2⟩ := hj
      have hjlt : j < ops.size := List.mem_range.1 hj1
      have ho := Array.getElem?_eq_getElem hjlt
      rw [ho] at hj2
      simp only [Bool.and_eq_true, Bool.not_eq_true', Option.map_some, Option.getD_some] at hj2
      have hno : listed.getD j false = false := by
        have := hj2.1
        rw [Array.getD_eq_getD_getElem?, Array.getElem?_eq_getElem (by omega)] at this ⊢
        simpa using this
      have hdeps : ∀ e ∈ (ops[j]).after.toList, Region.binds .any e = true → listed.getD e.on false = true := by
        have := hj2.2
        rw [← Array.all_toList, List.all_eq_true] at this
        intro e he hb
        have := this e he
        rw [hb] at this
        simpa using this
      have hr : Rdy ops (fun i => listed.getD i false) j ops[j] := ⟨hcl, ho, hno, hdeps⟩
      have hget : ∀ i, (listed.setIfInBounds j true).getD i false = if i = j then true else listed.getD i false := by
        intro i
        simp only [Array.getD_eq_getD_getElem?, Array.getElem?_setIfInBounds]
        by_cases e : j = i
        · subst e; simp [hs, hjlt]
        · rw [if_neg e, if_neg (fun h => e h.symm)]
      have hD : Adds (fun i => listed.getD i false) (fun i => (listed.setIfInBounds j true).getD i false) j := by
        refine ⟨by simp only [hget, if_true], fun i hij => by simp only [hget, if_neg hij]⟩
      rw [linearise_go_acc, List.reverse_singleton, List.singleton_append]
      simp only [wpOpsIn, ho]
      refine hI.step hX hE ht hL hok hn0 hdst hnone hread hr hD fun a' w' hI' => ih _ _ a' w' (by simpa using hs) ?_ ?_ hI'
      · intro i o hDi hoi e he hb
        rcases hD.of hDi with rfl | hDi
        · rw [ho] at hoi; cases hoi
          by_cases hej : e.on = i
          · simp only [hget, if_pos hej]
          · simp only [hget, if_neg hej]; exact hdeps e he hb
        · have := hcl i o hDi hoi e he hb
          by_cases hej : e.on = j
          · simp only [hget, if_pos hej]
          · simp only [hget, if_neg hej]; exact this
      · have := left_set (D := fun i => listed.getD i false) (D' := fun i => (listed.setIfInBounds j true).getD i false) hno hD.1 (fun i hij => hD.2 i hij) hjlt
        omega

theorem drawOk (hX : Full X P) : DrawOk X P := by
  intro ex hE r ops e e' s s' a w σ n0 t Q h hok hdst I hQ
  have hok := okD_ok hok
  unfold drawA at h
  split at h
  · rename_i tr htr
    simp only at h
    split at h
    · rename_i ss hss
      split at h
      · rename_i hchk
        simp only [Bool.and_eq_true] at hchk
        obtain ⟨⟨hlate, hchk1⟩, hchk2⟩ := hchk
        have hchk := And.intro hchk1 hchk2
        obtain ⟨k1, k2, k3⟩ := goD_spec _ _ _ _ _ htr
        have k1 : tr.length = ops.size + 1 := by simpa using k1
        have ht : Tr0 X ex ops s.next (trE tr) (trS tr) := ⟨fun i o ho => by
          have := k3 i o (by simpa using ho)
          simpa using this⟩
        have hS0 : trS tr 0 = { s with next := s.next + ops.size } := by simp [trS, k2]
        have hE0 : trE tr 0 = e := by simp [trE, k2]
        have hss' := statesD_spec _ _ hss
        have wmem : ∀ j, j ∈ wIdx X ops 0 ops.toList ↔ kW X ops j := by
          intro j
          rw [wIdx_mem]
          constructor
          · rintro ⟨k, o, h1, rfl, h3⟩
            simp only [Bool.and_eq_true, Bool.not_eq_true'] at h3
            exact ⟨o, by simpa using h1, isW_iff.1 h3.1, h3.2⟩
          · rintro ⟨o, h1, h3, h4⟩
            exact ⟨j, o, by simpa using h1, by omega, by simp [isW_iff.2 h3, h4]⟩
        have hL : Late X ops s.next (trE tr) := by
          obtain ⟨l1, l2⟩ := lateOk_spec _ hlate
          have hlt : ∀ i, kS X ops i → i < ops.toList.length := fun i hi => by
            obtain ⟨o, ho, _⟩ := kS_spec hi
            simpa using (Array.getElem?_eq_some_iff.1 ho).1
          have hlb : ∀ i o, ops.toList[i]? = some o → lb X ops (trE tr) i = lateBlk X (trE tr i) o.op := fun i o ho => by
            unfold lb
            rw [show ops[i]? = some o by simpa using ho]
          refine ⟨fun i hi => ?_, fun i j hi hj hij => ?_⟩
          · obtain ⟨q, o, e1, e2, _⟩ := lateIds_spec (X := X) (ops := ops) ops.toList tr 0 (by simpa using k1) i (hlt i hi) (by rw [Nat.zero_add]; exact hi)
            obtain ⟨b, hb, hr⟩ := l1 _ (List.mem_of_getElem? e2)
            exact ⟨b, by rw [hlb i o e1]; exact hb, hr⟩
          · have key : ∀ i j, kS X ops i → kS X ops j → i < j → lb X ops (trE tr) i ≠ lb X ops (trE tr) j := by
              intro i j hi hj hij
              obtain ⟨q, o, e1, e2, e3⟩ := lateIds_spec (X := X) (ops := ops) ops.toList tr 0 (by simpa using k1) i (hlt i hi) (by rw [Nat.zero_add]; exact hi)
              have hjo := List.getElem?_eq_getElem (hlt j hj)
              obtain ⟨q', e4, e5⟩ := e3 j _ hij hjo (by rw [Nat.zero_add]; exact hj)
              rw [hlb i o e1, hlb j _ hjo]
              exact l2 q q' _ _ e4 e2 e5
            rcases Nat.lt_trichotomy i j with h1 | h1 | h1
            · exact key i j hi hj h1
            · exact absurd h1 hij
            · exact fun e => key j i hj hi h1 e.symm
        have hmem : ∀ m, m = 0 ∨ (∃ j, m = j + 1 ∧ kW X ops j) → (m, trS tr m) ∈ (0, { s with next := s.next + ops.size }) :: ss := by
          rintro m (rfl | ⟨j, rfl, hj⟩)
          · rw [hS0]; exact List.mem_cons_self ..
          · refine List.mem_cons_of_mem _ ?_
            rw [hss']
            exact List.mem_map.2 ⟨j, (wmem j).2 hj, rfl⟩
        have hread : ∀ (D : Nat → Bool) m j o v s', Rdy ops D j o → (∀ i, kW X ops i → (D i = true ↔ i < m)) → (m = 0 ∨ ∃ j, m = j + 1 ∧ kW X ops j) → cls X o.op = .r ∨ cls X o.op = .q → wantedA ops (trE tr j) o = true → opA X ex (trE tr j) o.op (trS tr j) = some (v, s') →
            ∃ R s'', opA X ex (trE tr j) o.op R = some (v, s'') ∧ R.next = (trS tr m).next ∧ ∀ id b, R.look id = some b → (trS tr m).look id = some b ∨ ∃ i, m ≤ i ∧ kA X ops i ∧ Am.bef ops i j = true ∧ id = s.next + i ∧ (trS tr (i + 1)).look id = some b := by
          intro D m j o v s1 hr hcut hm hk hw hop
          have hjlt : j < ops.size := (Array.getElem?_eq_some_iff.1 hr.op).1
          have htj : tr[j]? = some (trE tr j, trS tr j) := by
            rw [List.getElem?_eq_getElem (by omega)]
            simp [trE, trS, List.getElem?_eq_getElem (show j < tr.length by omega)]
          obtain ⟨q1, q2⟩ := checkR_spec _ _ _ hchk.1 j o _ (by simpa using hr.op) htj hw
          rw [Nat.zero_add] at q1 q2
          have hin : (m, trS tr m) ∈ rangeR ops (wIdx X ops 0 ops.toList) ((0, ({ s with next := s.next + ops.size } : St)) :: ss) j := by
            -- as many as have run
            have hlo : countL (fun i => Am.bef ops i j) (wIdx X ops 0 ops.toList) ≤ countL D (wIdx X ops 0 ops.toList) := countL_mono _ fun x _ hb => hr.bef hb
            have hhi : countL D (wIdx X ops 0 ops.toList) ≤ countL (fun i => !Am.bef ops j i) (wIdx X ops 0 ops.toList) := countL_mono _ fun x _ hb => by simp [hr.notBef hb]
            have hat : ((0, ({ s with next := s.next + ops.size } : St)) :: ss)[countL D (wIdx X ops 0 ops.toList)]? = some (m, trS tr m) := by
              rcases hm with rfl | ⟨q, rfl, hq⟩
              · have : countL D (wIdx X ops 0 ops.toList) = 0 := countL_split _ 0 (Nat.zero_le _) (by simp) fun x hx => by
                  have := hcut x ((wmem x).1 (by simpa using hx))
                  cases hd : D x with
                  | false => rfl
                  | true => have := this.1 hd; omega
                rw [this, hS0]; rfl
              · obtain ⟨n, hn⟩ := List.getElem?_of_mem ((wmem q).2 hq)
                have hnl := (List.getElem?_eq_some_iff.1 hn).1
                have hsort := wIdx_sorted (X := X) (ops := ops) ops.toList 0
                have hpw := List.pairwise_iff_getElem.1 hsort
                have hnq := (List.getElem?_eq_some_iff.1 hn).2
                have : countL D (wIdx X ops 0 ops.toList) = n + 1 := by
                  refine countL_split _ (n + 1) hnl (fun x hx => ?_) fun x hx => ?_
                  · obtain ⟨i, hi, hxi⟩ := List.mem_iff_getElem.1 hx
                    have hi' : i < n + 1 := by rw [List.length_take] at hi; omega
                    rw [List.getElem_take] at hxi
                    have hxw := (wmem x).1 (by rw [← hxi]; exact List.getElem_mem _)
                    refine (hcut x hxw).2 ?_
                    by_cases e : i = n
                    · subst e; rw [hnq] at hxi; omega
                    · have := hpw i n (by omega) hnl (by omega)
                      rw [hnq] at this; omega
                  · obtain ⟨i, hi, hxi⟩ := List.mem_iff_getElem.1 hx
                    rw [List.getElem_drop] at hxi
                    rw [List.length_drop] at hi
                    have hxw := (wmem x).1 (by rw [← hxi]; exact List.getElem_mem _)
                    have := hpw n (n + 1 + i) hnl (by omega) (by omega)
                    rw [hnq, hxi] at this
                    cases hd : D x with
                    | false => rfl
                    | true => have := (hcut x hxw).1 hd; omega
                rw [this, List.getElem?_cons_succ, hss', List.getElem?_map, hn]
                rfl
            unfold rangeR
            refine List.mem_of_getElem? (i := countL D (wIdx X ops 0 ops.toList) - countL (fun i => Am.bef ops i j) (wIdx X ops 0 ops.toList)) ?_
            rw [List.getElem?_drop, show countL (fun i => Am.bef ops i j) (wIdx X ops 0 ops.toList) + (countL D (wIdx X ops 0 ops.toList) - countL (fun i => Am.bef ops i j) (wIdx X ops 0 ops.toList)) = countL D (wIdx X ops 0 ops.toList) by omega,
              List.getElem?_take, if_pos (by omega)]
            exact hat
          have hR := addA_spec (ops := ops) (X := X) (base := s.next) (i := j) (m := m) (tr := tr) (aIdx X 0 ops.toList) (trS tr m) (fun i hi => by
            obtain ⟨k, o', h1, h2, h3⟩ := aIdx_mem _ _ _ hi
            exact ⟨o', by rw [h2]; simpa using h1, h3⟩)
          rcases hk with hk | hk
          · obtain ⟨v', s2, h1, h2⟩ := q1 hk
            simp only at h1
            rw [hop] at h1; cases h1
            obtain ⟨s3, h3⟩ := readsSame_spec _ h2 m _ hin
            exact ⟨_, s3, h3, hR.1, hR.2⟩
          · obtain ⟨_, c, vs, us, hc, hvs, hus, hall⟩ := cls_c hk hop
            rcases q2 hk c vs us hc hvs hus with h1 | h1
            · refine ⟨trS tr m, _, hall _ ?_, rfl, fun id b hb => .inl hb⟩
              unfold frzArgs at hus ⊢
              rw [if_pos h1] at hus ⊢
              exact hus
            · exact ⟨_, _, hall _ (argsSame_spec _ h1 m _ hin), hR.1, hR.2⟩
        have hI0 : DI X ops (trE tr) (trS tr) σ s w n0 a.tmps.size (fun i => (Array.replicate ops.size false).getD i false) a w := by
          have hf : ∀ i, (Array.replicate ops.size false).getD i false = false := by
            intro i
            rw [Array.getD_eq_getD_getElem?, Array.getElem?_replicate]
            split <;> rfl
          refine ⟨⟨0, σ, { s with next := s.next + ops.size }, e, ⟨⟨I.hr.congr (fun _ => rfl), ?_, fun _ _ => rfl, Nat.le_add_right .., fun i hi => I.fresh i (Nat.le_trans (Nat.le_add_right ..) hi), fun _ _ h => h, fun i p h1 h2 => (by rw [h2] at h1; cases h1)⟩,
            Nat.zero_le _, fun i _ => by simp [hf], .inl rfl, fun id _ _ _ => by rw [hS0], fun i _ hd => (by rw [hf] at hd; cases hd), by rw [hS0], fun i b hd => (by rw [hf] at hd; cases hd), fun i hk _ => ?_, fun i hi hl => by rw [hS0]; exact hl, by rw [hS0], by rw [hS0]; exact Nat.le_refl _⟩, ⟨fun t i hd => (by rw [hf] at hd; cases hd), fun t _ => by rw [hE0]⟩, I.env, I.glob, I.df⟩, rfl⟩
          · exact ⟨Sg.le_refl _, fun _ _ h => .inl h, Nat.le_refl _, fun _ _ _ => rfl, fun c _ ⟨i, p, b, h1, h2, h3, h4⟩ => ⟨i, p, b, h1, h2, h3, h4⟩, rfl, rfl, rfl, Drw.of (Nat.le_refl _)⟩
          · exact I.fresh _ (Nat.le_add_right ..)
        refine DI.run (sz := a.tmps.size) hX hE ht hL hok I.n0 hdst (fun m hm i hi hk => noneAll_spec _ hchk.2 m _ (hmem m hm) i hi hk) hread ?_ ops.size t _ a w (by simp) ?_ ?_ hI0
        · -- at the end
          rintro D a1 w1 hall ⟨⟨m, σ1, T, e1, hH, hK, hEr, hG, hDF⟩, hsz⟩
          have hlast := lastD_spec tr
          rw [h] at hlast
          have hn : tr.getLast? = some (trE tr ops.size, trS tr ops.size) := by
            rw [List.getLast?_eq_getElem?, k1]
            simp [trE, trS, List.getElem?_eq_getElem (show ops.size < tr.length by omega)]
          rw [hn] at hlast
          simp only [Option.some.injEq, Prod.mk.injEq] at hlast
          obtain ⟨rfl, rfl⟩ := hlast
          have hnw : ∀ i, m ≤ i → i < m + (ops.size - m) → ¬ kW X ops i := fun i h1 h2 hk => by
            have := (hH.cutw i hk).1 (hall i (by have := hH.mN; omega)); omega
          have hmn : m + (ops.size - m) = ops.size := by have := hH.mN; omega
          obtain ⟨b1, b2, b3, b4, b5⟩ := ht.between hL m (ops.size - m) (by omega) hnw
          rw [hmn] at b1 b2 b3 b4 b5
          have ltS : ∀ i, kS X ops i → i < ops.size := fun i hi => by
            obtain ⟨o, ho, _⟩ := kS_spec hi
            exact (Array.getElem?_eq_some_iff.1 ho).1
          -- late stores stand behind all else
          have hmS : ∀ i, kS X ops i → m ≤ i := fun i hi => by
            rcases hH.mw with e | ⟨l, rfl, hl⟩
            · omega
            · refine Nat.le_of_not_lt fun hlt => ?_
              have hne : l ≠ i := fun e => kW_notS hl (e ▸ hi)
              obtain ⟨oi, hoi, _, _, _, hall'⟩ := kS_spec hi
              obtain ⟨ol, hol, hc, hll⟩ := id hl
              rcases hall' l ol hne hol with hb | hb | hb | hb
              · have := hok.bef_lt i l hb
                omega
              · rw [hll] at hb; cases hb
              · rw [hc] at hb; cases hb
              · rw [hc] at hb; cases hb
          have g : Good σ s w σ1 (trS tr ops.size) w1 := hH.gd.good (fun i p hp => by
            by_cases hx : ∃ i', m ≤ i' ∧ i' < ops.size ∧ kA X ops i' ∧ i = s.next + i'
            · obtain ⟨i', h1, h2, h3, rfl⟩ := hx
              rw [hH.t2 i' h1 (hall i' h2) h3 (by rw [hp]; simp), ← b4 i' h1 h2 h3]
            · by_cases hy : ∃ i', kS X ops i' ∧ lb X ops (trE tr) i' = some i
              · obtain ⟨i', h1, h2⟩ := hy
                rw [hH.t4 i' i (hall i' (ltS i' h1)) h1 h2 (by rw [hp]; simp), b5 i' i (hmS i' h1) (ltS i' h1) h1 h2]
              · rw [b3 i (fun i' h1 h2 h3 e => hx ⟨i', h1, h2, h3, e⟩) (fun i' _ _ h3 e => hy ⟨i', h3, e⟩)]
                exact hH.t1 i (by rw [hp]; simp) (fun i' h1 h2 h3 e => hx ⟨i', h1, by
                  obtain ⟨o, ho, _⟩ := h3
                  exact (Array.getElem?_eq_some_iff.1 ho).1, h3, e⟩) (fun i' _ h3 e => hy ⟨i', h3, e⟩))
            (fun i hi hl => by
              by_cases hy : ∃ i', kS X ops i' ∧ lb X ops (trE tr) i' = some i
              · exfalso
                obtain ⟨i', h1, h2⟩ := hy
                -- a late store finds its block
                obtain ⟨o, ho, _⟩ := kS_spec h1
                obtain ⟨k0, _, _, g1, _⟩ := ht.late_step ho h1 h2
                have hmi := hmS i' h1
                obtain ⟨d, hd⟩ : ∃ d, i' = m + d := ⟨i' - m, by omega⟩
                have hi' := ltS i' h1
                obtain ⟨_, _, c3, _, _⟩ := ht.between hL m d (by omega) (fun q q1 q2 => hnw q q1 (by omega))
                rw [← hd] at c3
                rw [c3 i (fun q _ q2 _ e => by omega) (fun q _ q2 hq e => hL.ne q i' hq h1 (by omega) (by rw [e, h2])), hH.sdead i hi hl] at g1
                cases g1
              · rw [b3 i (fun i' _ _ _ e => by omega) (fun i' _ _ h3 e => hy ⟨i', h3, e⟩)]
                exact hH.sdead i hi hl) (by rw [b1, hH.t3]) (by rw [b2, hH.sbase]) I.fresh
          refine hQ _ _ ⟨σ1, g, ⟨g.hr, g.fresh I.fresh, hG, fun tt => ?_, hDF, Nat.le_trans I.n0 g.ext.size⟩, hsz⟩
          rw [← hK.at ht (Nat.le_refl _) (fun i hi _ => hall i hi) (fun i hi _ ⟨o, ho, _⟩ => by
            have := (Array.getElem?_eq_some_iff.1 ho).1; omega)]
          exact hEr tt
        · intro j o hd
          simp only at hd
          rw [Array.getD_eq_getD_getElem?, Array.getElem?_replicate] at hd
          split at hd <;> cases hd
        · have : ∀ (D : Nat → Bool) n, left D n ≤ n := by
            intro D n
            induction n with
            | zero => exact Nat.le_refl _
            | succ n ih => simp only [left]; split <;> omega
          exact this _ _
      · cases h
    · cases h
  · cases h

/-- a run of the abstract machine is a call of the program -/
theorem run_ok (hX : Full X P) {n : Nat} {f : FuncId} (hext : X.ext f = none) {args : List AV} {s s' : St} {v : AV} (h : run X n f args s = some (v, s')) {σ : Sg} {w : World} {us : Array Value}
    (H : HR σ s w) (F : Fresh σ s) (G : GlobOk X σ) (hv : vrels σ args us.toList) : Calls P f us w fun en w' => ∃ u σ', en = .returned u ∧ vrel σ' v u ∧ Good σ s w σ' s' w' :=
  run_sound hX (drawOk hX) hext h H F G hv

end
end Go.Am
set_option linter.unusedSimpArgs false
set_option linter.unusedVariables false
set_option linter.unusedSectionVars false
namespace Go.Am
open Go
section
variable (X : Cx)

/-- what the machine comes to with fuel enough -/
noncomputable def execL : Ex := fun c e s =>
  open Classical in if h : ∃ r n, ∀ m, n ≤ m → exec X m c e s = some r then some (Classical.choose h) else none

variable {X}

theorem execL_iff {c : Code} {e : Env} {s : St} {r : Out × Env × St} : execL X c e s = some r ↔ ∃ n, ∀ m, n ≤ m → exec X m c e s = some r := by
  unfold execL
  constructor
  · intro h
    split at h
    · rename_i hx
      cases h
      exact Classical.choose_spec hx
    · cases h
  · rintro ⟨n, hn⟩
    have hx : ∃ r n, ∀ m, n ≤ m → exec X m c e s = some r := ⟨r, n, hn⟩
    rw [dif_pos hx]
    obtain ⟨n', hn'⟩ := Classical.choose_spec hx
    have h1 := hn (max n n') (Nat.le_max_left ..)
    have h2 := hn' (max n n') (Nat.le_max_right ..)
    rw [h1] at h2
    exact congrArg some (Option.some.inj h2).symm

def Ex.le (a b : Ex) : Prop := ∀ c e s r, a c e s = some r → b c e s = some r

/-- it grows with what it is given, and needs but so much of it -/
structure Tame {α : Type} (X : Cx) (F : Ex → Option α) : Prop where
  mono : ∀ a b, Ex.le a b → ∀ r, F a = some r → F b = some r
  cont : ∀ r, F (execL X) = some r → ∃ n, ∀ m, n ≤ m → F (exec X m) = some r

theorem Tame.const {α : Type} (v : Option α) : Tame X (fun _ => v) := ⟨fun _ _ _ _ h => h, fun _ h => ⟨0, fun _ _ => h⟩⟩

theorem Tame.app (c : Code) (e : Env) (s : St) : Tame X (fun ex => ex c e s) := ⟨fun a b h r hr => h c e s r hr, fun r h => execL_iff.1 h⟩

theorem Tame.bind {α β : Type} {A : Ex → Option α} {B : α → Ex → Option β} (hA : Tame X A) (hB : ∀ x, Tame X (B x)) : Tame X (fun ex => (A ex).bind fun x => B x ex) := by
  refine ⟨fun a b h r hr => ?_, fun r hr => ?_⟩
  · cases ha : A a with
    | none => simp [ha] at hr
    | some x =>
      simp only [ha, Option.bind_some] at hr
      simp only [hA.mono a b h x ha, Option.bind_some]
      exact (hB x).mono a b h r hr
  · cases ha : A (execL X) with
    | none => simp [ha] at hr
    | some x =>
      simp only [ha, Option.bind_some] at hr
      obtain ⟨n, hn⟩ := hA.cont x ha
      obtain ⟨k, hk⟩ := (hB x).cont r hr
      refine ⟨max n k, fun m hm => ?_⟩
      simp only [hn m (by omega), Option.bind_some]
      exact hk m (by omega)

theorem Tame.of {α : Type} {F G : Ex → Option α} (h : ∀ ex, F ex = G ex) (hG : Tame X G) : Tame X F := by
  have : F = G := funext h
  rw [this]; exact hG

theorem tame_callB (f : FuncId) (args : List AV) (s : St) : Tame X (fun ex => callB X ex f args s) := by
  unfold callB
  split
  · rename_i fn hfn
    split
    · rename_i c hc
      refine Tame.of (G := fun ex => (ex c (bindArgs 0 args .nil) s).bind fun x => match x with
        | (.norm, e, s') => (match resultsA X fn e s' with | some v => some (v, s') | none => none)
        | (.ret, e, s') => (match resultsA X fn e s' with | some v => some (v, s') | none => none)
        | _ => none) (fun ex => ?_) (Tame.bind (Tame.app _ _ _) fun x => Tame.const _)
      cases ex c (bindArgs 0 args .nil) s with
      | none => rfl
      | some x => obtain ⟨o, e, s'⟩ := x; cases o <;> rfl
    · exact Tame.const _
  · exact Tame.const _

theorem tame_callQ (f : FuncId) (args : List AV) (st : Bool) : Tame X (fun ex => callQ X ex f args st) := by
  refine Tame.of (G := fun ex => (callB X ex f args (ownSt X)).bind fun x => if st then frz X x.2 frzDepth x.1 else if flat x.1 then some x.1 else frzN X x.2 frzDepth x.1) (fun ex => ?_) (Tame.bind (tame_callB _ _ _) fun x => Tame.const _)
  unfold callQ
  cases callB X ex f args (ownSt X) <;> rfl

theorem tame_callP (f : FuncId) (args : List AV) (s : St) : Tame X (fun ex => callP X ex f args s) := by
  unfold callP
  split
  · rename_i us hus
    refine Tame.of (G := fun ex => (callQ X ex f us (stills args)).bind fun v => some (v, s)) (fun ex => ?_) (Tame.bind (tame_callQ _ _ _) fun x => Tame.const _)
    cases callQ X ex f us (stills args) <;> rfl
  · exact Tame.const _

theorem tame_callF (f : FuncId) (args : List AV) (s : St) : Tame X (fun ex => callF X ex f args s) := by
  unfold callF
  split
  · exact Tame.const _
  · split
    · exact tame_callP _ _ _
    · exact tame_callB _ _ _

theorem tame_yieldA (l : Nat) (args : List AV) (s : St) : Tame X (fun ex => yieldA ex l args s) := by
  unfold yieldA
  split
  · rename_i p env params assign body hg
    split
    · rename_i hlen
      refine Tame.of (G := fun ex => (ex assign ((params.zip args).foldl (fun e (t, a) => Tr.set e t a) env) s).bind fun x => match x with
        | (.norm, env1, s1) => (match s1.get l with
          | some (.loop 0 p1 e1 q1 a1 b1) => (ex body env1 (s1.put l (.loop 1 p1 e1 q1 a1 b1))).bind fun y => (match y.2.2.get l with
            | some (.loop _ _ e2 q2 a2 b2) => endRoundA l y.1 e2 q2 a2 b2 y.2.2
            | _ => none)
          | _ => none)
        | _ => none) (fun ex => ?_) (Tame.bind (Tame.app _ _ _) fun x => ?_)
      · simp only
        cases ex assign ((params.zip args).foldl (fun e (t, a) => Tr.set e t a) env) s with
        | none => rfl
        | some x =>
          obtain ⟨o, e1, s1⟩ := x
          cases o <;> simp only [Option.bind_some]
          split
          · rename_i p1 e2 q1 a1 b1 h1
            simp only [h1]
            cases ex body e1 (s1.put l (.loop 1 p1 e2 q1 a1 b1)) with
            | none => rfl
            | some y => obtain ⟨o2, e3, s3⟩ := y; rfl
          · rename_i hne
            split
            · rename_i h; exact absurd h (hne _ _ _ _ _)
            · rfl
      · obtain ⟨o, e1, s1⟩ := x
        cases o <;> simp only <;> try exact Tame.const _
        split
        · exact Tame.bind (Tame.app _ _ _) fun y => Tame.const _
        · exact Tame.const _
    · exact Tame.const _
  · exact Tame.const _

theorem tame_callV (f : AV) (args : List AV) (s : St) : Tame X (fun ex => callV X ex f args s) := by
  unfold callV
  split
  · exact tame_callF _ _ _
  · exact tame_yieldA _ _ _
  · exact Tame.const _

theorem tame_opA (e : Env) (o : Op) (s : St) : Tame X (fun ex => opA X ex e o s) := by
  cases o <;> try exact Tame.const _
  case next it b => cases b <;> exact Tame.const _
  case call c =>
    obtain ⟨callee, args, ats⟩ := c
    cases callee with
    | builtin b => exact Tame.const _
    | invoke _ _ => exact Tame.const _
    | value f =>
      simp only [opA]
      split
      · exact tame_callV _ _ _
      · exact Tame.const _

theorem tame_opsA (ops : Array Oper) : ∀ (l : List Oper) (e : Env) (s : St), Tame X (fun ex => opsA X ex ops l e s)
  | [], e, s => Tame.const _
  | o :: l, e, s => by
    unfold opsA
    split
    · refine Tame.of (G := fun ex => (opA X ex e o.op s).bind fun x => opsA X ex ops l (setDst e o.dst x.1) x.2) (fun ex => ?_) (Tame.bind (tame_opA _ _ _) fun x => tame_opsA ops l _ _)
      cases opA X ex e o.op s <;> rfl
    · exact tame_opsA ops l _ _

theorem tame_stepD (ops : Array Oper) (base i : Nat) (o : Oper) (e : Env) (s : St) : Tame X (fun ex => stepD X ex ops base i o e s) := by
  unfold stepD
  split
  · split
    · refine Tame.of (G := fun ex => (opA X ex e o.op { s with next := base + i }).bind fun x => some (setDst e o.dst x.1, { x.2 with next := s.next })) (fun ex => ?_) (Tame.bind (tame_opA _ _ _) fun x => Tame.const _)
      cases opA X ex e o.op { s with next := base + i } <;> rfl
    · refine Tame.of (G := fun ex => (opA X ex e o.op s).bind fun x => some (setDst e o.dst x.1, x.2)) (fun ex => ?_) (Tame.bind (tame_opA _ _ _) fun x => Tame.const _)
      cases opA X ex e o.op s <;> rfl
  · exact Tame.const _

theorem tame_goD (ops : Array Oper) (base : Nat) : ∀ (l : List Oper) (i : Nat) (e : Env) (s : St), Tame X (fun ex => goD X ex ops base i l e s)
  | [], i, e, s => Tame.const _
  | o :: l, i, e, s => by
    refine Tame.of (G := fun ex => (stepD X ex ops base i o e s).bind fun x => (goD X ex ops base (i + 1) l x.1 x.2).bind fun r => some ((e, s) :: r)) (fun ex => ?_)
      (Tame.bind (tame_stepD _ _ _ _ _ _) fun x => Tame.bind (tame_goD ops base l _ _ _) fun r => Tame.const _)
    simp only [goD]
    cases stepD X ex ops base i o e s with
    | none => rfl
    | some x =>
      simp only [Option.bind_some]
      cases goD X ex ops base (i + 1) l x.1 x.2 <;> rfl

/-- a test, as something that may come to nothing -/
def tst (b : Bool) : Option Unit := if b then some () else none

theorem tst_and (a b : Bool) : tst (a && b) = (tst a).bind fun _ => tst b := by
  cases a <;> cases b <;> rfl

theorem tame_readsSame (ops : Array Oper) (base i : Nat) (as : List Nat) (tr : List (Env × St)) (e : Env) (o : Op) (v : AV) : ∀ l : List (Nat × St), Tame X (fun ex => tst (readsSame X ex ops base i as tr e o v l))
  | [] => Tame.const _
  | (m, s) :: l => by
    refine Tame.of (G := fun ex => (opA X ex e o (addA ops base i m tr as s)).bind fun x => (tst (same x.1 v)).bind fun _ => tst (readsSame X ex ops base i as tr e o v l)) (fun ex => ?_)
      (Tame.bind (tame_opA _ _ _) fun x => Tame.bind (Tame.const _) fun _ => tame_readsSame ops base i as tr e o v l)
    simp only [readsSame]
    cases opA X ex e o (addA ops base i m tr as s) with
    | none => rfl
    | some x => simp only [Option.bind_some]; rw [tst_and]

theorem tame_checkR (ops : Array Oper) (base : Nat) (ws as : List Nat) (ss : List (Nat × St)) (tr0 : List (Env × St)) : ∀ (l : List Oper) (tr : List (Env × St)) (i : Nat), Tame X (fun ex => tst (checkR X ex ops base ws as ss tr0 i l tr))
  | [], tr, i => by cases tr <;> exact Tame.const _
  | o :: l, [], i => Tame.const _
  | o :: l, (e, s) :: tr, i => by
    simp only [checkR]
    refine Tame.of (fun ex => tst_and _ _) (Tame.bind ?_ fun _ => tame_checkR ops base ws as ss tr0 l tr (i + 1))
    split
    · cases hw : wantedA ops e o with
      | false => exact Tame.const _
      | true =>
        simp only [Bool.not_true, Bool.false_or]
        refine Tame.of (G := fun ex => (opA X ex e o.op s).bind fun x => tst (readsSame X ex ops base i as tr0 e o.op x.1 (rangeR ops ws ss i))) (fun ex => ?_) (Tame.bind (tame_opA _ _ _) fun x => tame_readsSame _ _ _ _ _ _ _ _ _)
        cases opA X ex e o.op s <;> rfl
    · exact Tame.const _
    · exact Tame.const _

theorem tame_drawA (ops : Array Oper) (e : Env) (s : St) : Tame X (fun ex => drawA X ex ops e s) := by
  refine Tame.of (G := fun ex => (goD X ex ops s.next 0 ops.toList e { s with next := s.next + ops.size }).bind fun tr => match statesD tr (wIdx X ops 0 ops.toList) with
    | some ss => (tst (checkR X ex ops s.next (wIdx X ops 0 ops.toList) (aIdx X 0 ops.toList) ((0, { s with next := s.next + ops.size }) :: ss) tr 0 ops.toList tr)).bind fun _ =>
      if lateOk s.next ops.size (lateIds X ops 0 ops.toList tr) && noneAll X ops s.next ((0, { s with next := s.next + ops.size }) :: ss) then lastD tr else none
    | none => none) (fun ex => ?_) (Tame.bind (tame_goD _ _ _ _ _ _) fun tr => ?_)
  · unfold drawA
    cases goD X ex ops s.next 0 ops.toList e { s with next := s.next + ops.size } with
    | none => rfl
    | some tr =>
      simp only [Option.bind_some]
      cases statesD tr (wIdx X ops 0 ops.toList) with
      | none => rfl
      | some ss =>
        simp only
        cases checkR X ex ops s.next (wIdx X ops 0 ops.toList) (aIdx X 0 ops.toList) ((0, { s with next := s.next + ops.size }) :: ss) tr 0 ops.toList tr <;> simp [tst]
  · split
    · exact Tame.bind (tame_checkR _ _ _ _ _ _ _ _ _) fun _ => Tame.const _
    · exact Tame.const _

theorem tame_stepA (c : Code) (e : Env) (s : St) : Tame X (fun ex => stepA X ex c e s) := by
  cases c <;> try exact Tame.const _
  case region id ops d =>
    cases d with
    | true =>
      refine Tame.of (G := fun ex => (drawA X ex ops e s).bind fun x => some (.norm, x.1, x.2)) (fun ex => ?_) (Tame.bind (tame_drawA _ _ _) fun x => Tame.const _)
      simp only [stepA, if_true]
      cases drawA X ex ops e s <;> rfl
    | false =>
      by_cases hn : noSel ops = true
      · refine Tame.of (G := fun ex => (opsA X ex ops ops.toList e s).bind fun x => some (.norm, x.1, x.2)) (fun ex => ?_) (Tame.bind (tame_opsA _ _ _ _) fun x => Tame.const _)
        simp only [stepA, Bool.false_eq_true, if_false, hn, if_true]
        cases opsA X ex ops ops.toList e s <;> rfl
      · refine Tame.of (G := fun _ => (opsS X ops ops.toList e s).bind fun x => some (.norm, x.1, x.2)) (fun ex => ?_) (Tame.const _)
        simp only [stepA, Bool.false_eq_true, if_false, hn]
        cases opsS X ops ops.toList e s <;> rfl
  case seq a b =>
    refine Tame.of (G := fun ex => (ex a e s).bind fun x => match x with
      | (.norm, e, s) => ex b e s
      | r => some r) (fun ex => ?_) (Tame.bind (Tame.app _ _ _) fun x => ?_)
    · simp only [stepA]
      cases ex a e s with
      | none => rfl
      | some x => obtain ⟨o, e1, s1⟩ := x; cases o <;> rfl
    · obtain ⟨o, e1, s1⟩ := x
      cases o
      · exact Tame.app _ _ _
      · exact Tame.const _
      · exact Tame.const _
  case cond c a b =>
    simp only [stepA]
    split
    · exact Tame.app _ _ _
    · exact Tame.app _ _ _
    · exact Tame.const _
  case block id b =>
    refine Tame.of (G := fun ex => (ex b e s).bind fun x => match x with
      | (.exit i, e, s) => if i = id then some (.norm, e, s) else some (.exit i, e, s)
      | r => some r) (fun ex => ?_) (Tame.bind (Tame.app _ _ _) fun x => Tame.const _)
    simp only [stepA]
    cases ex b e s with
    | none => rfl
    | some x => obtain ⟨o, e1, s1⟩ := x; cases o <;> rfl
  case loop b =>
    refine Tame.of (G := fun ex => (ex b e s).bind fun x => match x with
      | (.norm, e, s) => ex (.loop b) e s
      | r => some r) (fun ex => ?_) (Tame.bind (Tame.app _ _ _) fun x => ?_)
    · simp only [stepA]
      cases ex b e s with
      | none => rfl
      | some x => obtain ⟨o, e1, s1⟩ := x; cases o <;> rfl
    · obtain ⟨o, e1, s1⟩ := x
      cases o
      · exact Tame.app _ _ _
      · exact Tame.const _
      · exact Tame.const _
  case scope b => exact Tame.app _ _ _
  case rangeFunc f params assign body =>
    simp only [stepA]
    split
    · rename_i g first cap hf
      split
      · refine Tame.of (G := fun ex => (callF X ex g (first ++ [.fn (.yield s.next) [] []] ++ cap) (s.new (.loop 0 none e params.toList assign body))).bind fun x => match x.2.get s.next with
          | some (.loop st p _ _ _ _) => if st = 1 then none else endLoopA p e (x.2.put s.next .gone)
          | _ => none) (fun ex => ?_) (Tame.bind (tame_callF _ _ _) fun x => Tame.const _)
        cases callF X ex g (first ++ [.fn (.yield s.next) [] []] ++ cap) (s.new (.loop 0 none e params.toList assign body)) <;> rfl
      · exact Tame.const _
    · exact Tame.const _

theorem exec_le : ∀ n, Ex.le (exec X n) (exec X (n + 1))
  | 0 => by intro c e s r h; simp [exec] at h
  | n + 1 => fun c e s r h => (tame_stepA c e s).mono _ _ (exec_le n) r h

theorem exec_le' {n m : Nat} (h : n ≤ m) : Ex.le (exec X n) (exec X m) := by
  induction h with
  | refl => exact fun _ _ _ _ h => h
  | step _ ih => exact fun c e s r hr => exec_le _ c e s r (ih c e s r hr)

theorem exec_leL (n : Nat) : Ex.le (exec X n) (execL X) := fun c e s r h => execL_iff.2 ⟨n, fun m hm => exec_le' hm c e s r h⟩

/-- the limit is a fixed point -/
theorem execL_eq (c : Code) (e : Env) (s : St) : execL X c e s = stepA X (execL X) c e s := by
  cases h : execL X c e s with
  | some r =>
    obtain ⟨n, hn⟩ := execL_iff.1 h
    have := hn (n + 1) (Nat.le_succ n)
    exact ((tame_stepA c e s).mono _ _ (exec_leL n) r this).symm
  | none =>
    cases h' : stepA X (execL X) c e s with
    | none => rfl
    | some r =>
      obtain ⟨n, hn⟩ := (tame_stepA c e s).cont r h'
      have : execL X c e s = some r := execL_iff.2 ⟨n + 1, fun m hm => by
        obtain ⟨k, rfl⟩ : ∃ k, m = k + 1 := ⟨m - 1, by omega⟩
        exact hn k (by omega)⟩
      rw [h] at this; cases this

/-- a call in the limit is a call with fuel enough -/
theorem callL_run {f : FuncId} {args : List AV} {s : St} {r : AV × St} (h : callF X (execL X) f args s = some r) : ∃ n, run X n f args s = some r := by
  obtain ⟨n, hn⟩ := (tame_callF f args s).cont r h
  exact ⟨n, hn n (Nat.le_refl n)⟩

end
end Go.Am
set_option linter.unusedSimpArgs false
set_option linter.unusedVariables false
set_option linter.unusedSectionVars false
namespace Go.Am
open Go
/-! # Code made ready for reading: operands and types resolved -/

inductive Opd where
  | t (n : Nat)
  | v (a : AV)

inductive ROp where
  | mov (x : Opd)
  | pick (c a b : Opd)
  | al (z : List AV) (t : TypeId)
  | box (t : TypeId) (x : Opd)
  | ld1 (x : Opd)
  | ldn (n : Nat) (x : Opd)
  | st (n : Nat) (a x : Opd)
  | fa (o : Nat) (x : Opd)
  | bin (op : BinOp) (t : TypeId) (cst : Bool) (x y : Opd)
  | ext (x : Opd) (i : Nat)
  | call (f : FuncId) (args : List Opd)
  | callv (f : Opd) (args : List Opd)
  | un (op : UnOp) (x : Opd)
  | lenS (x : Opd)
  | lenL (x : Opd)
  | lenM (x : Opd)
  | ixs (x i : Opd)
  | ixa (n : Nat) (x i : Opd)
  | ixp (len n : Nat) (x i : Opd)
  | sls (x : Opd) (lo hi : Option Opd)
  | sll (n : Nat) (x : Opd) (lo hi : Option Opd)
  | fd1 (o : Nat) (x : Opd)
  | fdn (o n : Nat) (x : Opd)
  | bld (z : List AV) (ps : List (Nat × Nat × Opd))
  | bsl (t : TypeId) (n len : Nat) (z : List AV) (ps : List (Nat × Nat × Opd))
  | app (t : TypeId) (n bytes : Nat) (d x : Opd)
  | mkf (f : FuncId) (a b : List Opd)
  | raw (o : Op)

structure RO where
  d : Option Nat
  g : Option (Nat × Bool)
  at_ : Option Nat
  w : Bool
  op : ROp

inductive RC where
  | ops (l : List RO)
  | drw (n : Nat) (l : List RO)
  | seq (a b : RC)
  | cond (c : Opd) (a b : RC)
  | block (id : Nat) (b : RC)
  | loop (b : RC)
  | exit (id : Nat)
  | ret
  | skip
  | raw (c : Code)

section
variable (X : Cx)

/-- a call, with fuel enough -/
noncomputable def cal (f : FuncId) (args : List AV) (s : St) : Option (AV × St) := callF X (execL X) f args s
noncomputable def calv (f : AV) (args : List AV) (s : St) : Option (AV × St) := callV X (execL X) f args s

def evO (e : Env) : Opd → AV
  | .t n => Env.get e n
  | .v a => a

def evOs (e : Env) (l : List Opd) : List AV := l.map (evO e)

/-- a new block: at the counter, or at the id that is kept for it -/
def mk (base : Nat) (at_ : Option Nat) (c : List AV) (t : TypeId) (s : St) : AV × St := match at_ with
  | none => (.ptr s.next 0, s.new (.cells c t false 0 0))
  | some i => (.ptr (base + i) 0, s.put (base + i) (.cells c t false 0 0))

def ld1 (x : AV) (s : St) : Option AV := match x with
  | .ptr b o => cell s b o
  | .fp c o => c[o]?
  | _ => none

def ldn (n : Nat) (x : AV) (s : St) : Option AV := match x with
  | .ptr b o => match s.cells b with
    | some c => match grab n o c with
      | some r => some (.agg r)
      | none => none
    | none => none
  | .fp c o => match grab n o c with
    | some r => some (.agg r)
    | none => none
  | _ => none

def st (n : Nat) (a v : AV) (s : St) : Option St := match a with
  | .ptr b o => if v.cells.length = n then writeCells s b o v.cells else none
  | _ => none

def faR (o : Nat) (x : AV) : Option AV := match x with
  | .ptr b o' => some (.ptr b (o' + o))
  | .fp c o' => some (.fp c (o' + o))
  | _ => none

def pickR (c a b : AV) : Option AV := match c with
  | .bool p => some (bif p then a else b)
  | _ => none

def extR (x : AV) (i : Nat) : Option AV := match x with
  | .tup vs => vs[i]?
  | _ => none

def lenRS : AV → Option AV
  | .str l => some (.int .i64 l.length)
  | _ => none
def lenRL : AV → Option AV
  | .nils => some (.int .i64 0)
  | .sl _ _ n _ _ => some (.int .i64 n)
  | .fz es => some (.int .i64 es.length)
  | _ => none
def lenRM (s : St) : AV → Option AV
  | .nilm => some (.int .i64 0)
  | .fm ks _ => some (.int .i64 ks.length)
  | .map r => match s.get r with
    | some (.map es _) => some (.int .i64 es.length)
    | _ => none
  | _ => none
def ixRS (x i : AV) : Option AV := match x, i with
  | .str b, .int _ i => if 0 ≤ i then
      match b[i.toNat]? with | some c => some (.int .u8 c.toNat) | none => none
    else none
  | _, _ => none
def ixRA (n : Nat) (x i : AV) : Option AV := match x, i with
  | .sl b o len _ _, .int _ i => if 0 ≤ i ∧ i < len then some (.ptr b (o + i.toNat * n)) else none
  | .fz es, .int _ i => if 0 ≤ i then match es[i.toNat]? with
      | some x => if x.cells.length = n ∧ n ≠ 0 then some (.fp x.cells 0) else none
      | none => none
    else none
  | _, _ => none
def ixRP (len n : Nat) (x i : AV) : Option AV := match x, i with
  | .ptr b o, .int _ i => if 0 ≤ i ∧ i < len then some (.ptr b (o + i.toNat * n)) else none
  | .fp c o, .int _ i => if 0 ≤ i ∧ i < len then some (.fp c (o + i.toNat * n)) else none
  | _, _ => none
def evOo (e : Env) (x : Option Opd) : Option AV := x.map (evO e)
def slRS (x : AV) (lo hi : Option AV) : Option AV := match x with
  | .str b => match boundA hi b.length b.length with
    | some h => match boundA lo 0 h with
      | some l => some (.str ((b.take h).drop l))
      | none => none
    | none => none
  | _ => none
def slRL (n : Nat) (x : AV) (lo hi : Option AV) : Option AV := match x with
  | .sl b o len cap esz => match boundA hi len (cap.getD len) with
    | some h => match boundA lo 0 h with
      | some l => some (.sl b (o + l * n) (h - l) (cap.map (· - l)) (if esz = n then n else 0))
      | none => none
    | none => none
  | .nils => match boundA hi 0 0 with
    | some h => match boundA lo 0 h with
      | some _ => some .nils
      | none => none
    | none => none
  | .fz es => match boundA hi es.length es.length with
    | some h => match boundA lo 0 h with
      | some l => if es.all (fun x => x.cells.length == n) then some (.fz ((es.take h).drop l)) else none
      | none => none
    | none => none
  | _ => none
def fdR1 (o : Nat) (x : AV) : Option AV := match x with
  | .agg cs => cs[o]?
  | _ => none
def fdRn (o n : Nat) (x : AV) : Option AV := match x with
  | .agg cs => match grab n o cs with
    | some r => some (.agg r)
    | none => none
  | _ => none
def fillR (e : Env) (cells : List AV) : List (Nat × Nat × Opd) → Option (List AV)
  | [] => some cells
  | (off, n, x) :: rest => if (evO e x).cells.length = n ∧ off + n ≤ cells.length then
      match lay off (evO e x).cells cells with
      | some c => fillR e c rest
      | none => none
    else none
/-- append, where the element's type is known -/
def appR (t : TypeId) (n bytes : Nat) (d x : AV) (s : St) : Option (AV × St) := match sourceA n x s with
  | some (m, new) =>
    if new.length ≠ m * n ∨ (lenA d + m) * bytes > 2 ^ 47 ∨ lenA d + m > 2 ^ 47 then none
    else if m = 0 then match d with
      | .nils => some (d, s)
      | .sl .. => some (d, s)
      | .fz _ => some (d, s)
      | _ => none
    else match d with
    | .nils => some (.sl s.next 0 m none n, s.new (.cells new t false 0 0))
    | .sl b o len cap esz => match s.cells b with
      | some c => match grab (len * n) o c with
        | some old =>
          match cap with
          | some k => if len + m ≤ k then
              if esz = n then match writeCells s b (o + len * n) new with
                | some s' => some (.sl b o (len + m) (some k) n, s')
                | none => none
              else none
            else some (.sl s.next 0 (len + m) none n, s.new (.cells (old ++ new) t false 0 0))
          | none => match s.get b with
            | some (.cells _ e0 false flo fhi) =>
              if esz = n ∧ fhi ≤ o + len * n ∧ e0 = t ∧ new.all noAgg = true then
                some (.sl s.next 0 (len + m) none n, (s.put b .gone).new (.cells (old ++ new) t false (flo - o) (fhi - o)))
              else none
            | _ => none
        | none => none
      | none => none
    | _ => none
  | none => none

/-- the operation again, where it makes a block at an id that is kept for it -/
noncomputable def rawR (base : Nat) (at_ : Option Nat) (e : Env) (o : Op) (s : St) : Option (AV × St) := match at_ with
  | none => opA X (execL X) e o s
  | some i => match opA X (execL X) e o { s with next := base + i } with
    | some (v, s') => some (v, { s' with next := s.next })
    | none => none

noncomputable def rop (base : Nat) (at_ : Option Nat) (e : Env) (s : St) : ROp → Option (AV × St)
  | .mov x => some (evO e x, s)
  | .pick c a b => pureO (pickR (evO e c) (evO e a) (evO e b)) s
  | .al z t => some (mk base at_ z t s)
  | .box t x => some (mk base at_ (evO e x).cells t s)
  | .ld1 x => pureO (ld1 (evO e x) s) s
  | .ldn n x => pureO (ldn n (evO e x) s) s
  | .st n a x => unitO (st n (evO e a) (evO e x) s)
  | .fa o x => pureO (faR o (evO e x)) s
  | .bin op t cst x y => pureO (binA X op t cst (evO e x) (evO e y)) s
  | .ext x i => pureO (extR (evO e x) i) s
  | .call f args => cal X f (evOs e args) s
  | .callv f args => calv X (evO e f) (evOs e args) s
  | .un op x => pureO (unA op (evO e x)) s
  | .lenS x => pureO (lenRS (evO e x)) s
  | .lenL x => pureO (lenRL (evO e x)) s
  | .lenM x => pureO (lenRM s (evO e x)) s
  | .ixs x i => pureO (ixRS (evO e x) (evO e i)) s
  | .ixa n x i => pureO (ixRA n (evO e x) (evO e i)) s
  | .ixp len n x i => pureO (ixRP len n (evO e x) (evO e i)) s
  | .sls x lo hi => pureO (slRS (evO e x) (evOo e lo) (evOo e hi)) s
  | .sll n x lo hi => pureO (slRL n (evO e x) (evOo e lo) (evOo e hi)) s
  | .fd1 o x => pureO (fdR1 o (evO e x)) s
  | .fdn o n x => pureO (fdRn o n (evO e x)) s
  | .bld z ps => pureO ((fillR e z ps).map .agg) s
  | .bsl t n len z ps => match fillR e z ps with
    | some c => match at_ with
      | none => some (.sl s.next 0 len (some len) n, s.new (.cells c t false 0 0))
      | some i => some (.sl (base + i) 0 len (some len) n, s.put (base + i) (.cells c t false 0 0))
    | none => none
  | .app t n bytes d x => appR t n bytes (evO e d) (evO e x) s
  | .mkf f a b => some (.fn (.func f) (evOs e a) (evOs e b), s)
  | .raw o => rawR X base at_ e o s

def wantR (e : Env) : Option (Nat × Bool) → Bool
  | none => true
  | some (t, b) => match Env.get e t with
    | .bool p => p == b
    | _ => false

noncomputable def rops (base : Nat) : List RO → Env → St → Option (Env × St)
  | [], e, s => some (e, s)
  | o :: l, e, s => match (bif wantR e o.g then rop X base o.at_ e s o.op else some (undef, s)) with
    | some (v, s') => rops base l (setDst e o.d v) s'
    | none => none

/-- no block stands yet where one is to be made -/
def noneR (base : Nat) (s : St) (l : List RO) : Bool := l.all fun o => match o.at_ with
  | some i => (s.get (base + i)).isNone
  | none => true

noncomputable def ropsD (base : Nat) : List RO → Env → St → Option (Env × St)
  | [], e, s => some (e, s)
  | o :: l, e, s => match (bif wantR e o.g then rop X base o.at_ e s o.op else some (undef, s)) with
    | some (v, s') => if !o.w || noneR base s' l then ropsD base l (setDst e o.d v) s' else none
    | none => none

abbrev Fl := Option (Out × Env × St)

def iterN (b : Env → St → Fl) : Nat → Env → St → Fl
  | 0, _, _ => none
  | n + 1, e, s => match b e s with
    | some (.norm, e, s) => iterN b n e s
    | r => r

/-- round after round -/
noncomputable def iterL (b : Env → St → Fl) : Env → St → Fl := fun e s =>
  open Classical in if h : ∃ r n, iterN b n e s = some r then some (Classical.choose h) else none

noncomputable def den : RC → Env → St → Fl
  | .ops l, e, s => match rops X 0 l e s with
    | some (e, s) => some (.norm, e, s)
    | none => none
  | .drw n l, e, s => if noneR s.next s l then match ropsD X s.next l e { s with next := s.next + n } with
    | some (e, s) => some (.norm, e, s)
    | none => none
    else none
  | .seq a b, e, s => match den a e s with
    | some (.norm, e, s) => den b e s
    | r => r
  | .cond c a b, e, s => match evO e c with
    | .bool p => bif p then den a e s else den b e s
    | _ => none
  | .block id b, e, s => match den b e s with
    | some (.exit i, e, s) => if i = id then some (.norm, e, s) else some (.exit i, e, s)
    | r => r
  | .loop b, e, s => iterL (den b) e s
  | .exit id, e, s => some (.exit id, e, s)
  | .ret, e, s => some (.ret, e, s)
  | .skip, e, s => some (.norm, e, s)
  | .raw c, e, s => execL X c e s

/-! ### How it is made -/

def rcO : Operand → Option Opd
  | .tmp t => some (.t t)
  | .const v => (ofV 3 v).map .v
  | .global g => if g < X.glob then some (.v (.ptr g 0)) else none
  | .func f => some (.v (.fn (.func f) [] []))

def rcOs : List Operand → Option (List Opd)
  | [] => some []
  | x :: l => match rcO X x, rcOs l with
    | some a, some r => some (a :: r)
    | _, _ => none

def rcOo : Option Operand → Option (Option Opd)
  | none => some none
  | some x => (rcO X x).map some

def rcPs (place : Nat → Option (Nat × Nat)) : List (Nat × Operand) → Option (List (Nat × Nat × Opd))
  | [] => some []
  | (i, x) :: l => match place i, rcO X x, rcPs place l with
    | some (off, n), some a, some r => some ((off, n, a) :: r)
    | _, _, _ => none

/-- none: left as it is -/
def rcOp? : Op → Option ROp
  | .move x | .assign x => (rcO X x).map .mov
  | .pick c a b => match rcO X c, rcO X a, rcO X b with
    | some c, some a, some b => some (.pick c a b)
    | _, _, _ => none
  | .alloc t => (zero X t).map fun z => .al z.cells t
  | .box t x => (rcO X x).map (.box t)
  | .load t x => match isAggT X t, size X t, rcO X x with
    | some true, some n, some a => some (.ldn n a)
    | some false, _, some a => some (.ld1 a)
    | _, _, _ => none
  | .store t a x => match size X t, rcO X a, rcO X x with
    | some n, some a, some x => some (.st n a x)
    | _, _, _ => none
  | .fieldAddr t x f => match X.und t, rcO X x with
    | some (.struct fs), some a => match fs[f]? with
      | some fd => match size X fd.type with
        | some (_ + 1) => some (.fa fd.offset a)
        | _ => none
      | none => none
    | _, _ => none
  | .binOp op t x y _ => match rcO X x, rcO X y with
    | some a, some b => some (.bin op t (isConstO x || isConstO y) a b)
    | _, _ => none
  | .extract x i => (rcO X x).map fun a => .ext a i
  | .unOp op _ x => (rcO X x).map (.un op)
  | .call { callee := .builtin .len, args, argTypes, .. } => match args.toList, argTypes[0]? with
    | [x], some t => match X.und t, rcO X x with
      | some .string, some a => some (.lenS a)
      | some (.slice _), some a => some (.lenL a)
      | some (.map _ _), some a => some (.lenM a)
      | _, _ => none
    | _, _ => none
  | .call { callee := .builtin .append, args, argTypes, .. } => match args.toList, argTypes[0]?, argTypes[1]? with
    | [d, x], some t, some u => match X.und t, X.und u, rcO X d, rcO X x with
      | some (.slice elem), some ud, some a, some b => match X.inf elem, size X elem, (match ud with | .slice _ => true | .string => true | _ => false) with
        | some ei, some n, true => if ei.bytes > 2 ^ 20 ∨ n = 0 ∨ ei.bytes = 0 ∨ zeroBad ei.zero n = true ∨ X.spec elem = true then none else some (.app elem n ei.bytes a b)
        | _, _, _ => none
      | _, _, _, _ => none
    | _, _, _ => none
  | .index t x i => match X.und t, rcO X x, rcO X i with
    | some .string, some a, some b => some (.ixs a b)
    | _, _, _ => none
  | .indexAddr t x i => match X.und t, rcO X x, rcO X i with
    | some (.slice e), some a, some b => (size X e).map fun n => .ixa n a b
    | some (.array len e), some a, some b => (size X e).map fun n => .ixp len n a b
    | _, _, _ => none
  | .slice t x lo hi none => match X.und t, rcO X x, rcOo X lo, rcOo X hi with
    | some .string, some a, some l, some h => some (.sls a l h)
    | some (.slice e), some a, some l, some h => (size X e).map fun n => .sll n a l h
    | _, _, _, _ => none
  | .field t x f => match X.und t, rcO X x with
    | some (.struct fs), some a => match fs[f]? with
      | some fd => match isAggT X fd.type, size X fd.type with
        | some true, some n => some (.fdn fd.offset n a)
        | some false, _ => some (.fd1 fd.offset a)
        | _, _ => none
      | none => none
    | _, _ => none
  | .build t ps => match zero X t, X.und t with
    | some (.agg z), some (.struct fs) => match placesA X fs.toList with
      | some pl => (rcPs X (fun i => pl[i]?) ps.toList).map (.bld z)
      | none => none
    | some (.agg z), some (.array _ elem) => match size X elem with
      | some n => (rcPs X (fun i => some (i * n, n)) ps.toList).map (.bld z)
      | none => none
    | _, _ => none
  | .buildSlice t len ps => match X.und t with
    | some (.slice elem) => match size X elem, zero X elem with
      | some n, some z => if z.cells.length = n ∧ n ≠ 0 ∧ len * n ≤ 2 ^ 24 then (rcPs X (fun i => some (i * n, n)) ps.toList).map (.bsl elem n len (repeatL len z.cells)) else none
      | _, _ => none
    | _ => none
  | .makeFunc (.func g) a b => match rcOs X a.toList, rcOs X b.toList with
    | some x, some y => some (.mkf g x y)
    | _, _ => none
  | .call { callee := .value (.func f), args, .. } => (rcOs X args.toList).map (.call f)
  | .call { callee := .value (.tmp t), args, .. } => (rcOs X args.toList).map (.callv (.t t))
  | _ => none

def rcOp (o : Op) : ROp := match rcOp? X o with
  | some r => r
  | none => .raw o

/-- the temporary that a guard looks at -/
def rcG (ops : Array Oper) : Option (Nat × Bool) → Option (Option (Nat × Bool))
  | none => some none
  | some (j, b) => match ops[j]? with
    | some o => match o.dst with
      | some d => some (some (d, b))
      | none => none
    | none => none

def rcOps (ops : Array Oper) (draw : Bool) : Nat → List Oper → Option (List RO)
  | _, [] => some []
  | i, o :: l => match rcG ops o.guard, rcOps ops draw (i + 1) l with
    | some g, some r => some ({ d := o.dst, g, at_ := if draw && (cls X o.op).isA then some i else none, w := draw && (cls X o.op).isW, op := rcOp X o.op } :: r)
    | _, _ => none

/-- in its written order such a region reads as in any: none of its reads is left open -/
def calmD (ops : Array Oper) : Bool :=
  let ws := wIdx X ops 0 ops.toList
  let as := aIdx X 0 ops.toList
  !lateReg X ops && (List.range ops.size).all fun i => match ops[i]? with
    | some o => !((cls X o.op).isR || (match cls X o.op with | .q => true | _ => false)) ||
      ((as.all fun k => !decide (k < i) || bef ops k i) && (ws.all fun k => bef ops k i || bef ops i k))
    | none => true

def rc : Code → RC
  | .skip => .skip
  | .label _ => .skip
  | .region id ops d => if d then (if calmD X ops && okD X ops then match rcOps X ops true 0 ops.toList with
      | some l => .drw ops.size l
      | none => .raw (.region id ops d)
      else .raw (.region id ops d))
    else if noSel ops then match rcOps X ops false 0 ops.toList with
      | some l => .ops l
      | none => .raw (.region id ops d)
      else .raw (.region id ops d)
  | .seq a b => .seq (rc a) (rc b)
  | .cond c a b => match rcO X c with
    | some x => .cond x (rc a) (rc b)
    | none => .raw (.cond c a b)
  | .block id b => .block id (rc b)
  | .loop b => .loop (rc b)
  | .scope b => rc b
  | .exit id => .exit id
  | .ret => .ret
  | c => .raw c

end
end Go.Am
set_option linter.unusedSimpArgs false
set_option linter.unusedVariables false
set_option linter.unusedSectionVars false
namespace Go.Am
open Go
section
variable [Stat]
variable {X : Cx}

theorem rcO_spec {x : Operand} {a : Opd} (h : rcO X x = some a) (e : Env) : eval X e x = some (evO e a) := by
  cases x <;> simp only [rcO] at h
  · cases h; rfl
  · rename_i v
    cases hv : ofV 3 v with
    | none => rw [hv] at h; cases h
    | some y => rw [hv] at h; cases h; exact hv
  · split at h
    · rename_i hg; cases h; simp only [eval, hg, if_true, evO]
    · cases h
  · cases h; rfl

theorem rcOs_spec {l : List Operand} : ∀ {r : List Opd}, rcOs X l = some r → ∀ e, evals X e l = some (evOs e r) := by
  induction l with
  | nil => intro r h e; simp only [rcOs] at h; cases h; rfl
  | cons x l ih =>
    intro r h e
    simp only [rcOs] at h
    split at h
    · rename_i a r' h1 h2
      cases h
      simp only [evals, rcO_spec h1 e, ih h2 e]
      rfl
    · cases h

theorem pureO_eq {v : Option AV} {s : St} {r : AV × St} (h : pureO v s = some r) : ∃ x, v = some x ∧ r = (x, s) := by
  unfold pureO at h
  split at h
  · cases h; exact ⟨_, rfl, rfl⟩
  · cases h

theorem ld1_load {t : TypeId} {a v : AV} {s : St} (ht : isAggT X t = some false) (h : ld1 a s = some v) : loadA X t a s = some v := by
  unfold ld1 at h
  split at h
  · simp only [loadA, ht]; exact h
  · simp only [loadA, ht]; exact h
  · cases h

theorem ldn_load {t : TypeId} {n : Nat} {a v : AV} {s : St} (ht : isAggT X t = some true) (hn : size X t = some n) (h : ldn n a s = some v) : loadA X t a s = some v := by
  unfold ldn at h
  split at h
  · simp only [loadA, ht, hn]
    split at h
    · rename_i c hc; rw [hc]; exact h
    · cases h
  · simp only [loadA, ht, hn]; exact h
  · cases h

theorem evalO_none (e : Env) : evalO X e none = some none := rfl

theorem rcOo_spec {x : Option Operand} {a : Option Opd} (h : rcOo X x = some a) (e : Env) : evalO X e x = some (evOo e a) := by
  cases x with
  | none => simp only [rcOo] at h; cases h; rfl
  | some x =>
    simp only [rcOo] at h
    cases hx : rcO X x with
    | none => rw [hx] at h; cases h
    | some y => rw [hx] at h; cases h; simp only [evalO, rcO_spec hx e]; rfl

theorem rcPs_spec {place : Nat → Option (Nat × Nat)} {e : Env} : ∀ {l : List (Nat × Operand)} {r : List (Nat × Nat × Opd)}, rcPs X place l = some r → ∃ vs, evalParts X e l = some vs ∧ ∀ z c, fillR e z r = some c → fillA place z vs = some c
  | [], r, h => by simp only [rcPs] at h; cases h; exact ⟨[], rfl, fun z c h => h⟩
  | (i, x) :: l, r, h => by
    simp only [rcPs] at h
    split at h
    · rename_i off n a r' h1 h2 h3
      cases h
      obtain ⟨vs, k1, k2⟩ := rcPs_spec (e := e) h3
      refine ⟨(i, evO e a) :: vs, by simp only [evalParts, rcO_spec h2 e, k1], fun z c hz => ?_⟩
      simp only [fillR] at hz
      simp only [fillA, h1]
      split at hz
      · rename_i hc
        rw [if_pos hc]
        split at hz
        · rename_i c' hl
          rw [hl]; exact k2 _ _ hz
        · cases hz
      · cases hz
    · cases h

theorem appR_spec {t u elem : TypeId} {ei : TypeInfo} {n : Nat} {d x r : AV} {s s' : St} (hu : X.und t = some (.slice elem)) (hi : X.inf elem = some ei) (hs : size X elem = some n) (h1 : ¬ (ei.bytes > 2 ^ 20 ∨ n = 0 ∨ ei.bytes = 0 ∨ zeroBad ei.zero n = true ∨ X.spec elem = true))
    (h : appR elem n ei.bytes d x s = some (r, s')) : appendA X t d x s = some (r, s') := by
  unfold appR at h
  unfold appendA
  simp only [hu, hi, hs]
  split at h
  · rename_i m new hsrc
    rw [hsrc]
    simp only
    split at h
    · cases h
    · rename_i hc
      rw [if_neg (by
        intro hx
        rcases hx with hx | hx | hx | hx | hx | hx | hx | hx
        · exact hc (.inl hx)
        · exact hc (.inr (.inl hx))
        · exact h1 (.inl hx)
        · exact hc (.inr (.inr hx))
        · exact h1 (.inr (.inl hx))
        · exact h1 (.inr (.inr (.inl hx)))
        · exact h1 (.inr (.inr (.inr (.inl hx))))
        · exact h1 (.inr (.inr (.inr (.inr hx)))))]
      exact h
  · cases h

/-- the resolved operation is the operation -/
theorem rop_spec {base : Nat} {e : Env} {s s' : St} {o : Op} {v : AV} (h : rop X base none e s (rcOp X o) = some (v, s')) : opA X (execL X) e o s = some (v, s') := by
  unfold rcOp at h
  split at h
  · rename_i r hr
    unfold rcOp? at hr
    split at hr
    · rename_i x
      cases hx : rcO X x with
      | none => rw [hx] at hr; cases hr
      | some a =>
        rw [hx] at hr; cases hr
        simp only [rop] at h
        simp only [opA, rcO_spec hx e, pureO]; exact h
    · rename_i x
      cases hx : rcO X x with
      | none => rw [hx] at hr; cases hr
      | some a =>
        rw [hx] at hr; cases hr
        simp only [rop] at h
        simp only [opA, rcO_spec hx e, pureO]; exact h
    · rename_i c a b
      split at hr
      · rename_i c' a' b' h1 h2 h3
        cases hr
        simp only [rop] at h
        obtain ⟨x, hx, hr'⟩ := pureO_eq h
        simp only [opA, rcO_spec h1 e]
        unfold pickR at hx
        split at hx
        · rename_i p hp
          rw [hp]
          cases p <;> simp only [rcO_spec h2 e, rcO_spec h3 e, pureO] <;> cases hx <;> exact congrArg some hr'.symm
        · cases hx
      · cases hr
    · rename_i t
      cases hz : zero X t with
      | none => rw [hz] at hr; cases hr
      | some z =>
        rw [hz] at hr; cases hr
        simp only [rop, mk] at h
        simp only [opA, hz, newCells]; exact h
    · rename_i t x
      cases hx : rcO X x with
      | none => rw [hx] at hr; cases hr
      | some a =>
        rw [hx] at hr; cases hr
        simp only [rop, mk] at h
        simp only [opA, rcO_spec hx e, newCells]; exact h
    · rename_i t x
      split at hr
      · rename_i n a h1 h2 h3
        cases hr
        simp only [rop] at h
        obtain ⟨y, hy, hr'⟩ := pureO_eq h
        simp only [opA, rcO_spec h3 e, ldn_load h1 h2 hy, pureO]
        exact congrArg some hr'.symm
      · rename_i n a h1 h3
        cases hr
        simp only [rop] at h
        obtain ⟨y, hy, hr'⟩ := pureO_eq h
        simp only [opA, rcO_spec h3 e, ld1_load h1 hy, pureO]
        exact congrArg some hr'.symm
      · cases hr
    · rename_i t a x
      split at hr
      · rename_i n a' x' h1 h2 h3
        cases hr
        simp only [rop] at h
        simp only [opA, rcO_spec h2 e, rcO_spec h3 e]
        have : storeA X t (evO e a') (evO e x') s = st n (evO e a') (evO e x') s := by
          unfold storeA st
          rw [h1]
          cases evO e a' <;> rfl
        rw [this]; exact h
      · cases hr
    · rename_i t x f
      split at hr
      · rename_i fs a h1 h2
        split at hr
        · rename_i fd hf
          split at hr
          · rename_i n hn
            cases hr
            simp only [rop] at h
            obtain ⟨y, hy, hr'⟩ := pureO_eq h
            simp only [opA, rcO_spec h2 e]
            have : fieldAddrA X t (evO e a) f = some y := by
              unfold faR at hy
              unfold fieldAddrA
              rw [h1]
              split at hy
              · rename_i b o' hb; rw [hb]; simp only [hf, hn]; exact hy
              · rename_i c o' hb; rw [hb]; simp only [hf, hn]; exact hy
              · cases hy
            simp only [this, pureO]
            exact congrArg some hr'.symm
          · cases hr
        · cases hr
      · cases hr
    · rename_i op t x y yt
      split at hr
      · rename_i a b h1 h2
        cases hr
        simp only [rop] at h
        simp only [opA, rcO_spec h1 e, rcO_spec h2 e]; exact h
      · cases hr
    · rename_i x i
      cases hx : rcO X x with
      | none => rw [hx] at hr; cases hr
      | some a =>
        rw [hx] at hr; cases hr
        simp only [rop] at h
        obtain ⟨y, hy, hr'⟩ := pureO_eq h
        simp only [opA, rcO_spec hx e]
        unfold extR at hy
        split at hy
        · rename_i vs hvs
          rw [hvs]
          simp only [hy, pureO]
          exact congrArg some hr'.symm
        · cases hy
    · rename_i op t x
      cases hx : rcO X x with
      | none => rw [hx] at hr; cases hr
      | some a =>
        rw [hx] at hr; cases hr
        simp only [rop] at h
        simp only [opA, rcO_spec hx e]; exact h
    · rename_i args ats
      split at hr
      · rename_i x t hargs hat
        have hev : ∀ a, rcO X x = some a → evals X e args.toList = some [evO e a] := fun a ha => by
          rw [hargs]; simp only [evals, rcO_spec ha e]
        split at hr
        · rename_i a hu ha
          cases hr
          simp only [rop] at h
          obtain ⟨y, hy, hr'⟩ := pureO_eq h
          simp only [opA, hev a ha, builtinA, hat, hu]
          unfold lenRS at hy
          split at hy
          · rename_i l hl; rw [hl]; cases hy; exact congrArg some hr'.symm
          · cases hy
        · rename_i a hu ha
          cases hr
          simp only [rop] at h
          obtain ⟨y, hy, hr'⟩ := pureO_eq h
          simp only [opA, hev a ha, builtinA, hat, hu]
          unfold lenRL at hy
          split at hy
          · rename_i hl; rw [hl]; cases hy; exact congrArg some hr'.symm
          · rename_i hl; rw [hl]; cases hy; exact congrArg some hr'.symm
          · rename_i hl; rw [hl]; cases hy; exact congrArg some hr'.symm
          · cases hy
        · rename_i a hu ha
          cases hr
          simp only [rop] at h
          obtain ⟨y, hy, hr'⟩ := pureO_eq h
          simp only [opA, hev a ha, builtinA, hat, hu]
          unfold lenRM at hy
          split at hy
          · rename_i hl; rw [hl]; cases hy; exact congrArg some hr'.symm
          · rename_i hl; rw [hl]; cases hy; exact congrArg some hr'.symm
          · rename_i r hl
            rw [hl]
            simp only
            split at hy
            · rename_i es ro hg
              rw [hg]; cases hy; exact congrArg some hr'.symm
            · cases hy
          · cases hy
        · cases hr
      · cases hr
    · rename_i args ats
      split at hr
      · rename_i d x t u hargs hat hau
        split at hr
        · rename_i elem ud a b hu hud ha hb
          have hev : evals X e args.toList = some [evO e a, evO e b] := by
            rw [hargs]; simp only [evals, rcO_spec ha e, rcO_spec hb e]
          split at hr
          · rename_i ei n hi hs hok
            split at hr
            · cases hr
            · rename_i hc
              cases hr
              simp only [rop] at h
              simp only [opA, hev, builtinA, hat, hau, hud]
              have := appR_spec (u := u) hu hi hs hc h
              cases ud <;> simp only [Bool.false_eq_true] at hok <;> first | exact this | cases hok
          · cases hr
        · cases hr
      · cases hr
    · rename_i t x i
      split at hr
      · rename_i a b hu ha hb
        cases hr
        simp only [rop] at h
        obtain ⟨y, hy, hr'⟩ := pureO_eq h
        simp only [opA, rcO_spec ha e, rcO_spec hb e]
        have : indexA X t (evO e a) (evO e b) = some y := by
          unfold ixRS at hy
          split at hy
          · rename_i l k i' hl hi'
            rw [hl, hi']
            simp only [indexA, hu]; exact hy
          · cases hy
        simp only [this, pureO]; exact congrArg some hr'.symm
      · cases hr
    · rename_i t x i
      split at hr
      · rename_i el a b hu ha hb
        cases hs : size X el with
        | none => rw [hs] at hr; cases hr
        | some n =>
          rw [hs] at hr; cases hr
          simp only [rop] at h
          obtain ⟨y, hy, hr'⟩ := pureO_eq h
          simp only [opA, rcO_spec ha e, rcO_spec hb e]
          have : indexAddrA X t (evO e a) (evO e b) = some y := by
            unfold ixRA at hy
            split at hy
            · rename_i b' o len cap esz k i' hl hi'
              rw [hl, hi']
              simp only [indexAddrA, hu, hs]; exact hy
            · rename_i es k i' hl hi'
              rw [hl, hi']
              simp only [indexAddrA, hu, hs]
              split at hy
              · rename_i h0
                rw [if_pos h0]
                split at hy
                · rename_i x' hx'; rw [hx']; exact hy
                · cases hy
              · cases hy
            · cases hy
          simp only [this, pureO]; exact congrArg some hr'.symm
      · rename_i len el a b hu ha hb
        cases hs : size X el with
        | none => rw [hs] at hr; cases hr
        | some n =>
          rw [hs] at hr; cases hr
          simp only [rop] at h
          obtain ⟨y, hy, hr'⟩ := pureO_eq h
          simp only [opA, rcO_spec ha e, rcO_spec hb e]
          have : indexAddrA X t (evO e a) (evO e b) = some y := by
            unfold ixRP at hy
            split at hy
            · rename_i b' o k i' hl hi'
              rw [hl, hi']
              simp only [indexAddrA, hu, hs]; exact hy
            · rename_i c o k i' hl hi'
              rw [hl, hi']
              simp only [indexAddrA, hu, hs]; exact hy
            · cases hy
          simp only [this, pureO]; exact congrArg some hr'.symm
      · cases hr
    · rename_i t x lo hi
      split at hr
      · rename_i a l h' hu ha hl hh
        cases hr
        simp only [rop] at h
        obtain ⟨y, hy, hr'⟩ := pureO_eq h
        simp only [opA, rcO_spec ha e, rcOo_spec hl e, rcOo_spec hh e, evalO_none]
        have : sliceA X t (evO e a) (evOo e l) (evOo e h') none = some y := by
          unfold slRS at hy
          split at hy
          · rename_i b hb
            rw [hb]
            simp only [sliceA, hu]
            split at hy
            · rename_i h2 e2; rw [e2]; exact hy
            · cases hy
          · cases hy
        simp only [this, pureO]; exact congrArg some hr'.symm
      · rename_i el a l h' hu ha hl hh
        cases hs : size X el with
        | none => rw [hs] at hr; cases hr
        | some n =>
          rw [hs] at hr; cases hr
          simp only [rop] at h
          obtain ⟨y, hy, hr'⟩ := pureO_eq h
          simp only [opA, rcO_spec ha e, rcOo_spec hl e, rcOo_spec hh e, evalO_none]
          have : sliceA X t (evO e a) (evOo e l) (evOo e h') none = some y := by
            unfold slRL at hy
            split at hy
            · rename_i hb
              rw [hb]
              simp only [sliceA, hu, hs]; exact hy
            · rename_i hb
              rw [hb]
              simp only [sliceA, hu, hs]
              split at hy
              · rename_i h2 e2; rw [e2]; exact hy
              · cases hy
            · rename_i es hb
              rw [hb]
              simp only [sliceA, hu, hs]
              split at hy
              · rename_i h2 e2; rw [e2]; exact hy
              · cases hy
            · cases hy
          simp only [this, pureO]; exact congrArg some hr'.symm
      · cases hr
    · rename_i t x f
      split at hr
      · rename_i fs a hu ha
        split at hr
        · rename_i fd hf
          split at hr
          · rename_i n hag hs
            cases hr
            simp only [rop] at h
            obtain ⟨y, hy, hr'⟩ := pureO_eq h
            unfold fdRn at hy
            split at hy
            · rename_i cs hcs
              cases hg : grab n fd.offset cs with
              | none => rw [hg] at hy; cases hy
              | some r =>
                rw [hg] at hy; cases hy
                simp only [opA, rcO_spec ha e, hcs, hu, hf, partA, hag, hs, hg, pureO]
                exact congrArg some hr'.symm
            · cases hy
          · rename_i hag
            cases hr
            simp only [rop] at h
            obtain ⟨y, hy, hr'⟩ := pureO_eq h
            unfold fdR1 at hy
            split at hy
            · rename_i cs hcs
              simp only [opA, rcO_spec ha e, hcs, hu, hf, partA, hag, hy, pureO]
              exact congrArg some hr'.symm
            · cases hy
          · cases hr
        · cases hr
      · cases hr
    · rename_i t ps
      split at hr
      · rename_i z fs hz hu
        split at hr
        · rename_i pl hpl
          cases hp : rcPs X (fun i => pl[i]?) ps.toList with
          | none => rw [hp] at hr; cases hr
          | some r' =>
            rw [hp] at hr; cases hr
            obtain ⟨vs, k1, k2⟩ := rcPs_spec (e := e) hp
            simp only [rop] at h
            obtain ⟨y, hy, hr'⟩ := pureO_eq h
            cases hfl : fillR e z r' with
            | none => rw [hfl] at hy; cases hy
            | some c =>
              rw [hfl] at hy; cases hy
              simp only [opA, k1, buildA, hz, hu, hpl, k2 _ _ hfl, pureO]
              exact congrArg some hr'.symm
        · cases hr
      · rename_i z len el hz hu
        split at hr
        · rename_i n hs
          cases hp : rcPs X (fun i => some (i * n, n)) ps.toList with
          | none => rw [hp] at hr; cases hr
          | some r' =>
            rw [hp] at hr; cases hr
            obtain ⟨vs, k1, k2⟩ := rcPs_spec (e := e) hp
            simp only [rop] at h
            obtain ⟨y, hy, hr'⟩ := pureO_eq h
            cases hfl : fillR e z r' with
            | none => rw [hfl] at hy; cases hy
            | some c =>
              rw [hfl] at hy; cases hy
              simp only [opA, k1, buildA, hz, hu, hs, k2 _ _ hfl, pureO]
              exact congrArg some hr'.symm
        · cases hr
      · cases hr
    · rename_i t len ps
      split at hr
      · rename_i el hu
        split at hr
        · rename_i n z hs hz
          split at hr
          · rename_i hc
            cases hp : rcPs X (fun i => some (i * n, n)) ps.toList with
            | none => rw [hp] at hr; cases hr
            | some r' =>
              rw [hp] at hr; cases hr
              obtain ⟨vs, k1, k2⟩ := rcPs_spec (e := e) hp
              simp only [rop] at h
              split at h
              · rename_i c hfl
                simp only [opA, k1, buildSliceA, hu, hs, hz, if_pos hc, k2 _ _ hfl]
                exact h
              · cases h
          · cases hr
        · cases hr
      · cases hr
    · rename_i g a b
      split at hr
      · rename_i x y hx hy
        cases hr
        simp only [rop] at h
        simp only [opA, rcOs_spec hx e, rcOs_spec hy e]; exact h
      · cases hr
    · rename_i f args ats
      cases hx : rcOs X args.toList with
      | none => rw [hx] at hr; cases hr
      | some l =>
        rw [hx] at hr; cases hr
        simp only [rop, cal] at h
        simp only [opA, eval, rcOs_spec hx e, callV, List.nil_append, List.append_nil]; exact h
    · rename_i t args ats
      cases hx : rcOs X args.toList with
      | none => rw [hx] at hr; cases hr
      | some l =>
        rw [hx] at hr; cases hr
        simp only [rop, calv, evO] at h
        simp only [opA, eval, rcOs_spec hx e]; exact h
    · cases hr
  · simp only [rop, rawR] at h; exact h

/-- what makes a block, at the id that is kept for it -/
theorem rop_at {base i : Nat} {e : Env} {s s' : St} {o : Op} {v : AV} (hc : cls X o = .a) (h : rop X base (some i) e s (rcOp X o) = some (v, s')) :
    ∃ s1, opA X (execL X) e o { s with next := base + i } = some (v, s1) ∧ s' = { s1 with next := s.next } := by
  unfold rcOp at h
  split at h
  · rename_i r hr
    unfold rcOp? at hr
    split at hr <;> try (simp only [cls] at hc; done)
    all_goals try (simp only [cls] at hc; cases hc; done)
    · rename_i t
      cases hz : zero X t with
      | none => rw [hz] at hr; cases hr
      | some z =>
        rw [hz] at hr; cases hr
        simp only [rop, mk] at h
        cases h
        refine ⟨_, by simp only [opA, hz, newCells]; rfl, rfl⟩
    · rename_i t x
      cases hx : rcO X x with
      | none => rw [hx] at hr; cases hr
      | some a =>
        rw [hx] at hr; cases hr
        simp only [rop, mk] at h
        cases h
        refine ⟨_, by simp only [opA, rcO_spec hx e, newCells]; rfl, rfl⟩
    · rename_i t len ps
      split at hr
      · rename_i el hu
        split at hr
        · rename_i n z hs hz
          split at hr
          · rename_i hcc
            cases hp : rcPs X (fun i => some (i * n, n)) ps.toList with
            | none => rw [hp] at hr; cases hr
            | some r' =>
              rw [hp] at hr; cases hr
              obtain ⟨vs, k1, k2⟩ := rcPs_spec (e := e) hp
              simp only [rop] at h
              split at h
              · rename_i c hfl
                cases h
                refine ⟨_, by simp only [opA, k1, buildSliceA, hu, hs, hz, if_pos hcc, k2 _ _ hfl]; rfl, rfl⟩
              · cases h
          · cases hr
        · cases hr
      · cases hr
    · simp only [cls] at hc
      split at hc <;> cases hc
    · cases hr
  · simp only [rop, rawR] at h
    split at h
    · rename_i v1 s1 h1
      cases h
      exact ⟨s1, h1, rfl⟩
    · cases h

theorem rcG_spec {ops : Array Oper} {o : Oper} {g : Option (Nat × Bool)} (h : rcG ops o.guard = some g) (e : Env) : wantR e g = wantedA ops e o := by
  unfold wantedA
  cases hg : o.guard with
  | none => rw [hg] at h; simp only [rcG] at h; cases h; rfl
  | some jb =>
    obtain ⟨j, b⟩ := jb
    rw [hg] at h
    simp only [rcG] at h
    split at h
    · rename_i oj hj
      split at h
      · rename_i d hd
        cases h
        simp only [wantR, hj, hd]
        cases Env.get e d <;> rfl
      · cases h
    · cases h

theorem rops_spec {ops : Array Oper} {base : Nat} {r : Env × St} : ∀ (l : List Oper) (i : Nat) (l' : List RO) (e : Env) (s : St), rcOps X ops false i l = some l' → rops X base l' e s = some r → opsA X (execL X) ops l e s = some r
  | [], i, l', e, s, h, hr => by simp only [rcOps] at h; cases h; simpa only [rops, opsA] using hr
  | o :: l, i, l', e, s, h, hr => by
    simp only [rcOps] at h
    split at h
    · rename_i g r' h1 h2
      cases h
      simp only [rops, Bool.false_and, Bool.false_eq_true, if_false] at hr
      simp only [opsA, ← rcG_spec h1 e]
      cases hw : wantR e g with
      | false =>
        rw [hw] at hr
        simp only [cond_false] at hr
        simp only [Bool.false_eq_true, if_false]
        exact rops_spec l (i + 1) r' _ _ h2 hr
      | true =>
        rw [hw] at hr
        simp only [cond_true] at hr
        simp only [if_true]
        split at hr
        · rename_i v s1 hv
          rw [rop_spec hv]
          exact rops_spec l (i + 1) r' _ _ h2 hr
        · cases hr
    · cases h

/-! ### Regions whose order is drawn -/

mutual
theorem same_refl : ∀ a : AV, same a a = true
  | .bool _ | .int _ _ | .flt _ _ | .str _ | .nilp | .ptr _ _ | .nils | .sl .. | .nilm | .map _ | .nilch | .chan _ | .nilfn | .nili => by simp [same]
  | .fn f x y => by simp [same, sames_refl x, sames_refl y]
  | .iface t x => by simp [same, same_refl x]
  | .agg a => by simp [same, sames_refl a]
  | .tup a => by simp [same, sames_refl a]
  | .fz a => by simp [same, sames_refl a]
  | .fp a o => by simp [same, sames_refl a]
  | .fm a b => by simp [same, sames_refl a, sames_refl b]
theorem sames_refl : ∀ a : List AV, sames a a = true
  | [] => by simp [sames]
  | x :: l => by simp [sames, same_refl x, sames_refl l]
end

/-- the states on the way -/
theorem ropsD_go {ops : Array Oper} {base : Nat} {r : Env × St} : ∀ (l : List Oper) (i : Nat) (l' : List RO) (e : Env) (s : St), rcOps X ops true i l = some l' → ropsD X base l' e s = some r →
    ∃ tr, goD X (execL X) ops base i l e s = some tr ∧ lastD tr = some r ∧ ∀ (k : Nat) o, l[k]? = some o → (cls X o.op).isW = true → ∀ k', k < k' → ∀ o', l[k']? = some o' → (cls X o'.op).isA = true → (trS tr (k + 1)).get (base + (i + k')) = none
  | [], i, l', e, s, h, hr => by
    simp only [rcOps] at h; cases h
    simp only [ropsD] at hr; cases hr
    exact ⟨[(e, s)], rfl, rfl, fun k o ho => by simp at ho⟩
  | o :: l, i, l', e, s, h, hr => by
    simp only [rcOps] at h
    split at h
    · rename_i g r' h1 h2
      cases h
      simp only [ropsD, Bool.true_and] at hr
      have key : ∀ v s1, stepD X (execL X) ops base i o e s = some (setDst e o.dst v, s1) → (if (!(cls X o.op).isW || noneR base s1 r') = true then ropsD X base r' (setDst e o.dst v) s1 else none) = some r →
          ∃ tr, goD X (execL X) ops base i (o :: l) e s = some tr ∧ lastD tr = some r ∧ ∀ (k : Nat) o1, (o :: l)[k]? = some o1 → (cls X o1.op).isW = true → ∀ k', k < k' → ∀ o', (o :: l)[k']? = some o' → (cls X o'.op).isA = true → (trS tr (k + 1)).get (base + (i + k')) = none := by
        intro v s1 hst hif
        split at hif
        · rename_i hchk
          obtain ⟨tr, g1, g2, g3⟩ := ropsD_go l (i + 1) r' _ _ h2 hif
          obtain ⟨k1, k2, _⟩ := goD_spec _ _ _ _ _ g1
          refine ⟨(e, s) :: tr, by simp only [goD, hst, g1], ?_, fun k o1 ho1 hw k' hk o' ho' ha => ?_⟩
          · cases tr with
            | nil => simp at k1
            | cons x y => exact g2
          · obtain ⟨k2', rfl⟩ : ∃ q, k' = q + 1 := ⟨k' - 1, by omega⟩
            have hts : ∀ n, trS ((e, s) :: tr) (n + 1) = trS tr n := fun n => by simp [trS]
            rw [hts]
            cases k with
            | zero =>
              simp at ho1; subst ho1
              have hs1 : trS tr 0 = s1 := by simp [trS, k2]
              rw [hs1]
              rw [hw] at hchk
              simp only [Bool.not_true, Bool.false_or] at hchk
              -- the check behind it
              have chk : ∀ (l : List Oper) (i : Nat) (r' : List RO), rcOps X ops true i l = some r' → noneR base s1 r' = true → ∀ (q : Nat) o', l[q]? = some o' → (cls X o'.op).isA = true → s1.get (base + (i + q)) = none := by
                intro l
                induction l with
                | nil => intro i r' _ _ q o' ho'; simp at ho'
                | cons x l ih =>
                  intro i r' hrc hn q o' ho' ha
                  simp only [rcOps] at hrc
                  split at hrc
                  · rename_i g2 r2 e1 e2
                    cases hrc
                    simp only [noneR, List.all_cons, Bool.and_eq_true] at hn
                    cases q with
                    | zero =>
                      simp at ho'; subst ho'
                      have := hn.1
                      simp only [Bool.true_and, ha, if_true, Option.isNone_iff_eq_none] at this
                      simpa using this
                    | succ q =>
                      have := ih (i + 1) r2 e2 hn.2 q o' (by simpa using ho') ha
                      rw [show i + (q + 1) = i + 1 + q by omega]; exact this
                  · cases hrc
              have := chk l (i + 1) r' h2 hchk k2' o' (by simpa using ho') ha
              rw [show i + (k2' + 1) = i + 1 + k2' by omega]; exact this
            | succ k =>
              have := g3 k o1 (by simpa using ho1) hw k2' (by omega) o' (by simpa using ho') ha
              rw [show i + (k2' + 1) = i + 1 + k2' by omega]; exact this
        · cases hif
      have hwant := rcG_spec h1 e
      cases hw : wantR e g with
      | false =>
        rw [hw] at hr hwant
        simp only [cond_false] at hr
        refine key undef s ?_ hr
        simp only [stepD, ← hwant, Bool.false_eq_true, if_false]
      | true =>
        rw [hw] at hr hwant
        simp only [cond_true] at hr
        split at hr
        · rename_i v s1 hv
          refine key v s1 ?_ hr
          simp only [stepD, ← hwant, if_true]
          by_cases ha : (cls X o.op).isA = true
          · rw [if_pos ha] at hv
            obtain ⟨s2, e1, e2⟩ := rop_at (isA_iff.1 ha) hv
            rw [isA_iff.1 ha]
            simp only [e1, e2]
          · rw [if_neg ha] at hv
            have := rop_spec hv
            cases hk : cls X o.op <;> rw [hk] at ha <;> first | exact absurd rfl ha | simp only [this]
        · cases hr
    · cases h

theorem noneR_start {ops : Array Oper} {base : Nat} {s : St} : ∀ (l : List Oper) (i : Nat) (r' : List RO), rcOps X ops true i l = some r' → noneR base s r' = true → ∀ (q : Nat) o', l[q]? = some o' → (cls X o'.op).isA = true → s.get (base + (i + q)) = none
  | [], i, r', _, _, q, o', ho', _ => by simp at ho'
  | x :: l, i, r', hrc, hn, q, o', ho', ha => by
    simp only [rcOps] at hrc
    split at hrc
    · rename_i g2 r2 e1 e2
      cases hrc
      simp only [noneR, List.all_cons, Bool.and_eq_true] at hn
      cases q with
      | zero =>
        simp at ho'; subst ho'
        have := hn.1
        simp only [Bool.true_and, ha, if_true, Option.isNone_iff_eq_none] at this
        simpa using this
      | succ q =>
        have := noneR_start l (i + 1) r2 e2 hn.2 q o' (by simpa using ho') ha
        rw [show i + (q + 1) = i + 1 + q by omega]; exact this
    · cases hrc

end
end Go.Am
set_option linter.unusedSimpArgs false
set_option linter.unusedVariables false
set_option linter.unusedSectionVars false
namespace Go.Am
open Go
section
variable [Stat]
variable {X : Cx} {ops : Array Oper} {base : Nat}

theorem statesD_ok {tr : List (Env × St)} : ∀ (ws : List Nat), (∀ j ∈ ws, j + 1 < tr.length) → statesD tr ws = some (ws.map fun j => (j + 1, trS tr (j + 1)))
  | [], _ => rfl
  | j :: ws, h => by
    have hj := h j (List.mem_cons_self ..)
    simp only [statesD, List.getElem?_eq_getElem hj, statesD_ok ws fun k hk => h k (List.mem_cons_of_mem _ hk), List.map_cons, trS, Option.getD_some]

theorem lateIds_nil (h : lateReg X ops = false) : ∀ (l : List Oper) (i : Nat) (tr : List (Env × St)), lateIds X ops i l tr = []
  | [], i, tr => by cases tr <;> rfl
  | o :: l, i, [] => rfl
  | o :: l, i, (e, s) :: tr => by
    have : late X ops i = false := by simp [late, h]
    simp only [lateIds, this, Bool.false_eq_true, if_false]
    exact lateIds_nil h l (i + 1) tr

theorem checkR_of {ex : Ex} {ws as : List Nat} {ss : List (Nat × St)} {tr0 : List (Env × St)} : ∀ (l : List Oper) (tr : List (Env × St)) (i : Nat),
    (∀ (k : Nat) o es, l[k]? = some o → tr[k]? = some es → wantedA ops es.1 o = true →
      (cls X o.op = .r → ∃ v s', opA X ex es.1 o.op es.2 = some (v, s') ∧ readsSame X ex ops base (i + k) as tr0 es.1 o.op v (rangeR ops ws ss (i + k)) = true) ∧
      (cls X o.op = .q → ∃ c vs us, o.op = .call c ∧ evals X es.1 c.args.toList = some vs ∧ frzArgs X es.2 vs = some us ∧ argsSame X ops base (i + k) as tr0 vs us (rangeR ops ws ss (i + k)) = true)) →
    checkR X ex ops base ws as ss tr0 i l tr = true
  | [], tr, i, _ => by cases tr <;> rfl
  | o :: l, [], i, _ => rfl
  | o :: l, (e, s) :: tr, i, h => by
    simp only [checkR, Bool.and_eq_true]
    refine ⟨?_, checkR_of l tr (i + 1) fun k o' es h1 h2 h3 => by
      have := h (k + 1) o' es (by simpa using h1) (by simpa using h2) h3
      rw [show i + (k + 1) = i + 1 + k by omega] at this
      exact this⟩
    have h0 := h 0 o (e, s) rfl rfl
    simp only [Nat.add_zero] at h0
    cases hw : wantedA ops e o with
    | false => cases cls X o.op <;> simp
    | true =>
      obtain ⟨q1, q2⟩ := h0 hw
      cases hk : cls X o.op with
      | p => rfl
      | a => rfl
      | w => rfl
      | r =>
        obtain ⟨v, s', e1, e2⟩ := q1 hk
        simp only [e1, e2, Bool.or_true]
      | q =>
        obtain ⟨c, vs, us, e1, e2, e3, e4⟩ := q2 hk
        simp only [e1, e2, e3, e4, Bool.or_true]

theorem noneAll_of : ∀ (l : List (Nat × St)), (∀ m s, (m, s) ∈ l → ∀ i, m ≤ i → kA X ops i → s.get (base + i) = none) → noneAll X ops base l = true
  | [], _ => rfl
  | (m, s) :: l, h => by
    simp only [noneAll, Bool.and_eq_true]
    refine ⟨?_, noneAll_of l fun m' s' hm => h m' s' (List.mem_cons_of_mem _ hm)⟩
    have h0 := h m s (List.mem_cons_self ..)
    have : ∀ (l : List Oper) (i : Nat), m ≤ i → (∀ k : Nat, l[k]? = ops[i + k]?) → noneD X base s i l = true := by
      intro l
      induction l with
      | nil => intro i _ _; rfl
      | cons o l ih =>
        intro i hi hl
        simp only [noneD, Bool.and_eq_true, Bool.or_eq_true, Bool.not_eq_true']
        refine ⟨?_, ih (i + 1) (by omega) fun k => by
          have := hl (k + 1)
          rw [show i + 1 + k = i + (k + 1) by omega, ← this]
          simp⟩
        cases ha : (cls X o.op).isA with
        | false => exact .inl rfl
        | true =>
          right
          rw [h0 i hi ⟨o, by have := hl 0; simpa using this.symm, isA_iff.1 ha⟩]
          rfl
    refine this (ops.toList.drop m) m (Nat.le_refl m) fun k => ?_
    rw [List.getElem?_drop, Array.getElem?_toList]

variable {E : Nat → Env} {S : Nat → St} {ex : Ex}

/-- the next state, as a state -/
theorem Tr0.next_eq (h : Tr0 X ex ops base E S) {i : Nat} {o : Oper} (ho : ops[i]? = some o) (hw : cls X o.op ≠ .w) :
    (cls X o.op ≠ .a → S (i + 1) = S i) ∧ (cls X o.op = .a → S (i + 1) = S i ∨ ∃ b, b ≠ .gone ∧ S (i + 1) = (S i).put (base + i) b) := by
  rcases stepD_cases (h.step i o ho) with ⟨_, _, h3⟩ | ⟨_, v, _, ⟨hc, s1, h3, h4⟩ | ⟨hc, h3⟩⟩
  · exact ⟨fun _ => h3, fun _ => .inl h3⟩
  · have hc := isA_iff.1 hc
    obtain ⟨b, hb, rfl, _⟩ := cls_a hc h3
    exact ⟨fun hne => absurd hc hne, fun _ => .inr ⟨b, hb, by rw [h4]; rfl⟩⟩
  · refine ⟨fun _ => ?_, fun ha => ?_⟩
    · cases hk : cls X o.op with
      | a => rw [hk] at hc; cases hc
      | w => exact absurd hk hw
      | p => exact (cls_p hk _ _ _ h3).1
      | r => exact cls_r hk h3
      | q => exact (cls_c hk h3).1
    · rw [ha] at hc; cases hc

theorem aIdx_cons (i : Nat) (o : Oper) (l : List Oper) : aIdx X i (o :: l) = if (cls X o.op).isA then i :: aIdx X (i + 1) l else aIdx X (i + 1) l := rfl

/-- what an operation finds is what stands there in the written order -/
theorem addA_here {tr : List (Env × St)} (ht : Tr0 X ex ops base (trE tr) (trS tr)) (hlen : tr.length = ops.size + 1) (hok : Ok X ops) {i m : Nat} (hi : i < ops.size) (hmi : m ≤ i) (hnw : ∀ k o, m ≤ k → k < i → ops[k]? = some o → cls X o.op ≠ .w)
    (ha : ∀ k, k < i → kA X ops k → bef ops k i = true) (hnone : ∀ k, m ≤ k → kA X ops k → (trS tr m).get (base + k) = none) :
    addA ops base i m tr (aIdx X 0 ops.toList) (trS tr m) = trS tr i := by
  have skip : ∀ (as : List Nat) (s : St), (∀ j ∈ as, ¬ (m ≤ j ∧ bef ops j i = true)) → addA ops base i m tr as s = s := by
    intro as
    induction as with
    | nil => intro s _; rfl
    | cons j as ih =>
      intro s h
      have hj := h j (List.mem_cons_self ..)
      unfold addA
      rw [if_neg (by simpa using hj)]
      exact ih s fun k hk => h k (List.mem_cons_of_mem _ hk)
  -- nothing else comes to an id that is kept
  have keep : ∀ n, m ≤ n → n ≤ i → ∀ k, n ≤ k → kA X ops k → (trS tr n).get (base + k) = none := by
    intro n hn
    induction hn with
    | refl => intro _ k hk hka; exact hnone k hk hka
    | step hmn ih =>
      rename_i n
      intro hni k hk hka
      have hno : n < ops.size := by omega
      have ho := Array.getElem?_eq_getElem hno
      obtain ⟨e1, e2⟩ := ht.next_eq ho (hnw n _ hmn (by omega) ho)
      by_cases hca : cls X (ops[n]).op = .a
      · rcases e2 hca with e | ⟨b, _, e⟩
        · rw [e]; exact ih (by omega) k (by omega) hka
        · rw [e, St.get_put, if_neg (by omega)]; exact ih (by omega) k (by omega) hka
      · rw [e1 hca]; exact ih (by omega) k (by omega) hka
  have run : ∀ d n, n + d = i → m ≤ n → addA ops base i m tr (aIdx X n (ops.toList.drop n)) (trS tr n) = trS tr i := by
    intro d
    induction d with
    | zero =>
      intro n hn _
      have : n = i := by omega
      subst this
      refine skip _ _ fun j hj hc => ?_
      obtain ⟨k, o, _, rfl, _⟩ := aIdx_mem _ _ _ hj
      have := hok.bef_lt n (n + k) hc.2
      omega
    | succ d ih =>
      intro n hn hmn
      have hno : n < ops.size := by omega
      have ho := Array.getElem?_eq_getElem hno
      have hdrop : ops.toList.drop n = ops[n] :: ops.toList.drop (n + 1) := by
        rw [List.drop_eq_getElem_cons (by simpa using hno)]; simp
      rw [hdrop]
      obtain ⟨e1, e2⟩ := ht.next_eq ho (hnw n _ hmn (by omega) ho)
      rw [aIdx_cons]
      by_cases hca : (cls X (ops[n]).op).isA = true
      · rw [if_pos hca]
        have hk : kA X ops n := ⟨_, ho, isA_iff.1 hca⟩
        unfold addA
        rw [if_pos (by simp [hmn, ha n (by omega) hk])]
        have htn : tr[n + 1]? = some (trE tr (n + 1), trS tr (n + 1)) := by
          rw [List.getElem?_eq_getElem (by omega)]
          simp [trE, trS, List.getElem?_eq_getElem (show n + 1 < tr.length by omega)]
        rw [htn]
        simp only
        rcases e2 (isA_iff.1 hca) with e | ⟨b, _, e⟩
        · rw [e, keep n hmn (by omega) n (Nat.le_refl n) hk]
          simp only
          rw [← e]
          exact ih (n + 1) (by omega) (by omega)
        · rw [e, St.get_put, if_pos rfl]
          simp only
          rw [← e]
          exact ih (n + 1) (by omega) (by omega)
      · rw [if_neg hca, ← e1 (fun h => hca (isA_iff.2 h))]
        exact ih (n + 1) (by omega) (by omega)
  -- those ahead of m are passed over
  have pass : ∀ n, n ≤ m → addA ops base i m tr (aIdx X n (ops.toList.drop n)) (trS tr m) = addA ops base i m tr (aIdx X m (ops.toList.drop m)) (trS tr m) := by
    intro n hn
    obtain ⟨d, hd⟩ : ∃ d, n + d = m := ⟨m - n, by omega⟩
    clear hn
    induction d generalizing n with
    | zero => have : n = m := by omega
              subst this; rfl
    | succ d ih =>
      have hno : n < ops.size := by omega
      have hdrop : ops.toList.drop n = ops[n] :: ops.toList.drop (n + 1) := by
        rw [List.drop_eq_getElem_cons (by simpa using hno)]; simp
      rw [← ih (n + 1) (by omega), hdrop, aIdx_cons]
      split
      · conv => lhs; unfold addA
        rw [if_neg (by simp; omega)]
      · rfl
  have := pass 0 (Nat.zero_le m)
  rw [List.drop_zero] at this
  rw [this]
  exact run (i - m) m (by omega) (Nat.le_refl m)

theorem drw_spec {l : List RO} {e : Env} {s : St} {r : Env × St} (hrc : rcOps X ops true 0 ops.toList = some l) (hcalm : calmD X ops = true) (hokd : okD X ops = true) (hn : noneR s.next s l = true)
    (hr : ropsD X s.next l e { s with next := s.next + ops.size } = some r) : drawA X (execL X) ops e s = some r := by
  have hok := okD_ok hokd
  unfold calmD at hcalm
  simp only [Bool.and_eq_true, Bool.not_eq_true', List.all_eq_true, List.mem_range] at hcalm
  obtain ⟨hlr, hall⟩ := hcalm
  obtain ⟨tr, g1, g2, g3⟩ := ropsD_go _ _ _ _ _ hrc hr
  obtain ⟨k1, k2, k3⟩ := goD_spec _ _ _ _ _ g1
  have k1 : tr.length = ops.size + 1 := by simpa using k1
  have ht : Tr0 X (execL X) ops s.next (trE tr) (trS tr) := ⟨fun i o ho => by
    have := k3 i o (by simpa using ho)
    simpa using this⟩
  have hS0 : trS tr 0 = { s with next := s.next + ops.size } := by simp [trS, k2]
  have hlate : ∀ i, late X ops i = false := fun i => by simp [late, hlr]
  have wmem : ∀ j, j ∈ wIdx X ops 0 ops.toList ↔ ∃ o, ops[j]? = some o ∧ cls X o.op = .w := by
    intro j
    rw [wIdx_mem]
    constructor
    · rintro ⟨k, o, h1, rfl, h3⟩
      simp only [Bool.and_eq_true] at h3
      exact ⟨o, by simpa using h1, isW_iff.1 h3.1⟩
    · rintro ⟨o, h1, h3⟩
      exact ⟨j, o, by simpa using h1, by omega, by simp [isW_iff.2 h3, hlate]⟩
  have amem : ∀ j, kA X ops j → j ∈ aIdx X 0 ops.toList := by
    have : ∀ (l : List Oper) (i k : Nat) o, l[k]? = some o → cls X o.op = .a → i + k ∈ aIdx X i l := by
      intro l
      induction l with
      | nil => intro i k o h; simp at h
      | cons x l ih =>
        intro i k o h hc
        unfold aIdx
        cases k with
        | zero => simp at h; subst h; rw [if_pos (isA_iff.2 hc)]; exact List.mem_cons_self ..
        | succ k =>
          have := ih (i + 1) k o (by simpa using h) hc
          rw [show i + (k + 1) = i + 1 + k by omega]
          split
          · exact List.mem_cons_of_mem _ this
          · exact this
    rintro j ⟨o, ho, hc⟩
    have := this ops.toList 0 j o (by simpa using ho) hc
    simpa using this
  have hsts := statesD_ok (tr := tr) (wIdx X ops 0 ops.toList) fun j hj => by
    obtain ⟨o, ho, _⟩ := (wmem j).1 hj
    have := (Array.getElem?_eq_some_iff.1 ho).1
    omega
  unfold drawA
  rw [g1]
  simp only [hsts]
  -- no block stands where one is to be made
  have hnoneM : ∀ m, m = 0 ∨ (∃ j, m = j + 1 ∧ j ∈ wIdx X ops 0 ops.toList) → ∀ i, m ≤ i → kA X ops i → (trS tr m).get (s.next + i) = none := by
    rintro m (rfl | ⟨j, rfl, hj⟩) i hi ⟨o, ho, hc⟩
    · rw [hS0]
      have := noneR_start _ _ _ hrc hn i o (by simpa using ho) (isA_iff.2 hc)
      rw [Nat.zero_add] at this
      exact this
    · obtain ⟨oj, hoj, hcj⟩ := (wmem j).1 hj
      have := g3 j oj (by simpa using hoj) (isW_iff.2 hcj) i (by omega) o (by simpa using ho) (isA_iff.2 hc)
      simpa using this
  have hss : ∀ m s1, (m, s1) ∈ (0, ({ s with next := s.next + ops.size } : St)) :: ((wIdx X ops 0 ops.toList).map fun j => (j + 1, trS tr (j + 1))) → (m = 0 ∨ ∃ j, m = j + 1 ∧ j ∈ wIdx X ops 0 ops.toList) ∧ s1 = trS tr m := by
    intro m s1 hm
    rcases List.mem_cons.1 hm with e | hm
    · cases e; exact ⟨.inl rfl, hS0.symm⟩
    · obtain ⟨j, hj, e⟩ := List.mem_map.1 hm
      cases e
      exact ⟨.inr ⟨j, rfl, hj⟩, rfl⟩
  have hnA : noneAll X ops s.next ((0, ({ s with next := s.next + ops.size } : St)) :: ((wIdx X ops 0 ops.toList).map fun j => (j + 1, trS tr (j + 1)))) = true := noneAll_of _ fun m s1 hm i hi hk => by
    obtain ⟨h1, rfl⟩ := hss m s1 hm
    exact hnoneM m h1 i hi hk
  have hchk : checkR X (execL X) ops s.next (wIdx X ops 0 ops.toList) (aIdx X 0 ops.toList) ((0, ({ s with next := s.next + ops.size } : St)) :: ((wIdx X ops 0 ops.toList).map fun j => (j + 1, trS tr (j + 1)))) tr 0 ops.toList tr = true := by
    refine checkR_of _ _ _ fun i o es ho htr hw => ?_
    have ho' : ops[i]? = some o := by simpa using ho
    have hi : i < ops.size := (Array.getElem?_eq_some_iff.1 ho').1
    have hes : es = (trE tr i, trS tr i) := by simp [trE, trS, htr]
    subst hes
    simp only at hw
    rw [Nat.zero_add]
    -- the step
    have hop : cls X o.op ≠ .a → ∃ v, opA X (execL X) (trE tr i) o.op (trS tr i) = some (v, trS tr (i + 1)) := fun hne => by
      rcases stepD_cases (ht.step i o ho') with ⟨h1, _⟩ | ⟨_, v, _, ⟨hc, _⟩ | ⟨_, h3⟩⟩
      · rw [hw] at h1; cases h1
      · exact absurd (isA_iff.1 hc) hne
      · exact ⟨v, h3⟩
    -- the one state
    have hone : cls X o.op = .r ∨ cls X o.op = .q → ∃ m, rangeR ops (wIdx X ops 0 ops.toList) ((0, ({ s with next := s.next + ops.size } : St)) :: ((wIdx X ops 0 ops.toList).map fun j => (j + 1, trS tr (j + 1)))) i = [(m, trS tr m)] ∧
        addA ops s.next i m tr (aIdx X 0 ops.toList) (trS tr m) = trS tr i := by
      intro hk
      have hst := hall i hi
      rw [ho'] at hst
      simp only at hst
      have hst' : (aIdx X 0 ops.toList).all (fun k => !decide (k < i) || bef ops k i) = true ∧ (wIdx X ops 0 ops.toList).all (fun k => bef ops k i || bef ops i k) = true := by
        rcases hk with hk | hk <;> rw [hk] at hst <;> simpa [Cls.isR] using hst
      obtain ⟨ha, hwb⟩ := hst'
      rw [List.all_eq_true] at ha hwb
      have hab : ∀ k, k < i → kA X ops k → bef ops k i = true := fun k hki hka => by
        have := ha k (amem k hka)
        simpa [hki] using this
      have hbw : ∀ k ∈ wIdx X ops 0 ops.toList, (bef ops k i = true ↔ k < i) ∧ (bef ops i k = true ↔ i < k) := by
        intro k hkm
        have := hwb k hkm
        simp only [Bool.or_eq_true] at this
        rcases this with h1 | h1
        · have := hok.bef_lt i k h1
          refine ⟨⟨fun _ => this, fun _ => h1⟩, ⟨fun h2 => ?_, fun h2 => by omega⟩⟩
          have := hok.bef_lt k i h2; omega
        · have := hok.bef_lt k i h1
          refine ⟨⟨fun h2 => ?_, fun h2 => by omega⟩, ⟨fun _ => this, fun _ => h1⟩⟩
          have := hok.bef_lt i k h2; omega
      have hne : ∀ k ∈ wIdx X ops 0 ops.toList, k ≠ i := fun k hkm e => by
        obtain ⟨o2, ho2, hc2⟩ := (wmem k).1 hkm
        rw [e, ho'] at ho2; cases ho2
        rcases hk with hk | hk <;> rw [hk] at hc2 <;> cases hc2
      have hcnt : countL (fun j => !bef ops i j) (wIdx X ops 0 ops.toList) = countL (fun j => bef ops j i) (wIdx X ops 0 ops.toList) := by
        refine Nat.le_antisymm (countL_mono _ fun x hx h => ?_) (countL_mono _ fun x hx h => ?_)
        · have h1 : bef ops i x = false := by simpa using h
          refine ((hbw x hx).1).2 (Nat.lt_of_not_le fun hle => ?_)
          have := ((hbw x hx).2).2 (by have := hne x hx; omega)
          rw [h1] at this; cases this
        · have h1 := ((hbw x hx).1).1 h
          simp only [Bool.not_eq_true']
          cases hb : bef ops i x with
          | false => rfl
          | true => have := ((hbw x hx).2).1 hb; omega
      unfold rangeR
      rw [hcnt]
      -- how many stand ahead
      generalize hq : countL (fun j => bef ops j i) (wIdx X ops 0 ops.toList) = q
      have hsort := List.pairwise_iff_getElem.1 (wIdx_sorted (X := X) (ops := ops) ops.toList 0)
      have hql : q ≤ (wIdx X ops 0 ops.toList).length := by
        rw [← hq]
        generalize wIdx X ops 0 ops.toList = L
        induction L with
        | nil => exact Nat.le_refl _
        | cons x L ih => simp only [countL, List.length_cons]; split <;> omega
      -- the first q are those ahead of i
      have hfirst : ∀ n (hn : n < (wIdx X ops 0 ops.toList).length), (n < q ↔ (wIdx X ops 0 ops.toList)[n] < i) := by
        -- the point where they part
        obtain ⟨p, hp1, hp2, hp3⟩ : ∃ p, p ≤ (wIdx X ops 0 ops.toList).length ∧ (∀ n (hn : n < (wIdx X ops 0 ops.toList).length), n < p → (wIdx X ops 0 ops.toList)[n] < i) ∧ (∀ n (hn : n < (wIdx X ops 0 ops.toList).length), p ≤ n → ¬ (wIdx X ops 0 ops.toList)[n] < i) := by
          rcases last_of (fun n => ∃ hn : n < (wIdx X ops 0 ops.toList).length, (wIdx X ops 0 ops.toList)[n] < i) (wIdx X ops 0 ops.toList).length with h | ⟨n0, h1, ⟨h2, h3⟩, h4⟩
          · exact ⟨0, Nat.zero_le _, fun n _ hn => by omega, fun n hn _ hlt => h n hn ⟨hn, hlt⟩⟩
          · refine ⟨n0 + 1, h1, fun n hn hlt => ?_, fun n hn hle hlt => h4 n (by omega) hn ⟨hn, hlt⟩⟩
            by_cases e : n = n0
            · subst e; exact h3
            · have := hsort n n0 hn h2 (by omega); omega
        have hpq : p = q := by
          rw [← hq]
          refine (countL_split _ p hp1 (fun x hx => ?_) (fun x hx => ?_)).symm
          · obtain ⟨n, hn, rfl⟩ := List.mem_iff_getElem.1 hx
            rw [List.getElem_take]
            have hn' : n < p ∧ n < (wIdx X ops 0 ops.toList).length := by rw [List.length_take] at hn; omega
            exact ((hbw _ (List.getElem_mem hn'.2)).1).2 (hp2 n hn'.2 hn'.1)
          · obtain ⟨n, hn, rfl⟩ := List.mem_iff_getElem.1 hx
            rw [List.getElem_drop]
            rw [List.length_drop] at hn
            have := hp3 (p + n) (by omega) (by omega)
            cases hb : bef ops (wIdx X ops 0 ops.toList)[p + n] i with
            | false => rfl
            | true => exact absurd (((hbw _ (List.getElem_mem (by omega))).1).1 hb) this
        subst hpq
        exact fun n hn => ⟨hp2 n hn, fun hlt => Nat.lt_of_not_le fun hle => hp3 n hn hle hlt⟩
      have fin : ∀ m, (m = 0 ∨ ∃ j, m = j + 1 ∧ j ∈ wIdx X ops 0 ops.toList) → m ≤ i → (∀ k ∈ wIdx X ops 0 ops.toList, k < i → k < m) →
          addA ops s.next i m tr (aIdx X 0 ops.toList) (trS tr m) = trS tr i := fun m hm hmi hwm =>
        addA_here ht k1 hok hi hmi (fun k ok h1 h2 hok' hc => by
          have := hwm k ((wmem k).2 ⟨ok, hok', hc⟩) h2; omega) hab (fun k h1 h2 => hnoneM m hm k h1 h2)
      cases q with
      | zero =>
        refine ⟨0, by simp [hS0], fin 0 (.inl rfl) (Nat.zero_le _) fun k hkm hki => ?_⟩
        obtain ⟨n, hn, rfl⟩ := List.mem_iff_getElem.1 hkm
        have := (hfirst n hn).2 hki; omega
      | succ q =>
        have hqn : q < (wIdx X ops 0 ops.toList).length := by omega
        have hqi := (hfirst q hqn).1 (by omega)
        refine ⟨(wIdx X ops 0 ops.toList)[q] + 1, ?_, fin _ (.inr ⟨_, rfl, List.getElem_mem _⟩) (by omega) fun k hkm hki => ?_⟩
        · rw [List.drop_take]
          rw [show q + 1 + 1 - (q + 1) = 1 by omega, List.drop_succ_cons, List.drop_eq_getElem_cons (by simpa using hqn)]
          simp
        · obtain ⟨n, hn, rfl⟩ := List.mem_iff_getElem.1 hkm
          have hnq := (hfirst n hn).2 hki
          by_cases e : n = q
          · subst e; omega
          · have := hsort n q hn hqn (by omega); omega
    refine ⟨fun hk => ?_, fun hk => ?_⟩
    · obtain ⟨v, hv⟩ := hop (by rw [hk]; simp)
      obtain ⟨m, hm1, hm2⟩ := hone (.inl hk)
      refine ⟨v, _, hv, ?_⟩
      rw [hm1]
      simp only [readsSame, hm2, hv, same_refl, Bool.and_self]
    · obtain ⟨v, hv⟩ := hop (by rw [hk]; simp)
      obtain ⟨m, hm1, hm2⟩ := hone (.inr hk)
      obtain ⟨_, c, vs, us, e1, e2, e3, _⟩ := cls_c hk hv
      refine ⟨c, vs, us, e1, e2, e3, ?_⟩
      rw [hm1]
      simp only [argsSame, hm2, e3, sames_refl, Bool.and_self]
  rw [lateIds_nil hlr]
  simp only [lateOk, hchk, hnA, Bool.and_self, if_true]
  exact g2

/-! ### Loops -/

theorem iterN_mono {b : Env → St → Fl} {r : Out × Env × St} : ∀ (n : Nat) (e : Env) (s : St), iterN b n e s = some r → ∀ m, n ≤ m → iterN b m e s = some r
  | 0, e, s, h, m, _ => by simp [iterN] at h
  | n + 1, e, s, h, m, hm => by
    obtain ⟨k, rfl⟩ : ∃ k, m = k + 1 := ⟨m - 1, by omega⟩
    simp only [iterN] at h ⊢
    split at h
    · exact iterN_mono n _ _ h k (by omega)
    · exact h

theorem iterL_iff {b : Env → St → Fl} {e : Env} {s : St} {r : Out × Env × St} : iterL b e s = some r ↔ ∃ n, iterN b n e s = some r := by
  unfold iterL
  constructor
  · intro h
    split at h
    · rename_i hx
      cases h
      exact Classical.choose_spec hx
    · cases h
  · rintro ⟨n, hn⟩
    have hx : ∃ r n, iterN b n e s = some r := ⟨r, n, hn⟩
    rw [dif_pos hx]
    obtain ⟨n', hn'⟩ := Classical.choose_spec hx
    have h1 := iterN_mono n e s hn (max n n') (Nat.le_max_left ..)
    have h2 := iterN_mono n' e s hn' (max n n') (Nat.le_max_right ..)
    rw [h1] at h2
    exact congrArg some (Option.some.inj h2).symm

/-- one round -/
theorem iterL_eq (b : Env → St → Fl) (e : Env) (s : St) : iterL b e s = match b e s with
    | some (.norm, e, s) => iterL b e s
    | r => r := by
  cases hb : b e s with
  | none =>
    cases h : iterL b e s with
    | none => rfl
    | some r =>
      obtain ⟨n, hn⟩ := iterL_iff.1 h
      cases n with
      | zero => simp [iterN] at hn
      | succ n => simp only [iterN, hb] at hn; cases hn
  | some x =>
    obtain ⟨o, e1, s1⟩ := x
    cases o with
    | norm =>
      simp only
      cases h : iterL b e1 s1 with
      | some r =>
        obtain ⟨n, hn⟩ := iterL_iff.1 h
        exact iterL_iff.2 ⟨n + 1, by simp only [iterN, hb]; exact hn⟩
      | none =>
        cases h' : iterL b e s with
        | none => rfl
        | some r =>
          obtain ⟨n, hn⟩ := iterL_iff.1 h'
          cases n with
          | zero => simp [iterN] at hn
          | succ n =>
            simp only [iterN, hb] at hn
            rw [iterL_iff.2 ⟨n, hn⟩] at h; cases h
    | exit i => exact iterL_iff.2 ⟨1, by simp only [iterN, hb]⟩
    | ret => exact iterL_iff.2 ⟨1, by simp only [iterN, hb]⟩

/-- what the resolved code comes to, the code comes to -/
theorem den_sound : ∀ (c : Code) (e : Env) (s : St) (r : Out × Env × St), den X (rc X c) e s = some r → execL X c e s = some r := by
  intro c
  induction c with
  | skip => intro e s r h; simp only [rc, den] at h; rw [execL_eq]; exact h
  | label l => intro e s r h; simp only [rc, den] at h; rw [execL_eq]; exact h
  | exit i => intro e s r h; simp only [rc, den] at h; rw [execL_eq]; exact h
  | ret => intro e s r h; simp only [rc, den] at h; rw [execL_eq]; exact h
  | region id ops d =>
    intro e s r h
    simp only [rc] at h
    split at h
    · rename_i hd
      split at h
      · rename_i hc
        simp only [Bool.and_eq_true] at hc
        split at h
        · rename_i l hl
          simp only [den] at h
          split at h
          · rename_i hn
            split at h
            · rename_i e1 s1 h1
              cases h
              rw [execL_eq]
              simp only [stepA, hd, if_true, drw_spec hl hc.1 hc.2 hn h1]
            · cases h
          · cases h
        · exact h
      · exact h
    · rename_i hd
      split at h
      · rename_i hn
        split at h
        · rename_i l hl
          simp only [den] at h
          split at h
          · rename_i e1 s1 h1
            cases h
            rw [execL_eq]
            simp only [stepA, if_neg hd, hn, if_true, rops_spec _ _ _ _ _ hl h1]
          · cases h
        · exact h
      · exact h
  | seq a b iha ihb =>
    intro e s r h
    simp only [rc, den] at h
    rw [execL_eq]
    simp only [stepA]
    split at h
    · rename_i e1 s1 h1
      rw [iha _ _ _ h1]
      exact ihb _ _ _ h
    · rename_i hne
      rw [iha _ _ _ h]
      obtain ⟨o, e1, s1⟩ := r
      cases o with
      | norm => exact absurd h (hne _ _)
      | _ => rfl
  | cond c a b iha ihb =>
    intro e s r h
    simp only [rc] at h
    split at h
    · rename_i x hx
      simp only [den] at h
      rw [execL_eq]
      simp only [stepA, rcO_spec hx e]
      split at h
      · rename_i p hp
        rw [hp]
        cases p
        · exact ihb _ _ _ h
        · exact iha _ _ _ h
      · cases h
    · exact h
  | block id b ih =>
    intro e s r h
    simp only [rc, den] at h
    rw [execL_eq]
    simp only [stepA]
    split at h
    · rename_i i e1 s1 h1
      rw [ih _ _ _ h1]
      exact h
    · rename_i hne
      rw [ih _ _ _ h]
      obtain ⟨o, e1, s1⟩ := r
      cases o with
      | exit i => exact absurd h (hne _ _ _)
      | _ => rfl
  | loop b ih =>
    intro e s r h
    simp only [rc, den] at h
    obtain ⟨n, hn⟩ := iterL_iff.1 h
    clear h
    induction n generalizing e s with
    | zero => simp [iterN] at hn
    | succ n ihn =>
      simp only [iterN] at hn
      rw [execL_eq]
      simp only [stepA]
      split at hn
      · rename_i e1 s1 h1
        rw [ih _ _ _ h1]
        exact ihn _ _ hn
      · rename_i hne
        rw [ih _ _ _ hn]
        obtain ⟨o, e1, s1⟩ := r
        cases o with
        | norm => exact absurd hn (hne _ _)
        | _ => rfl
  | scope b ih =>
    intro e s r h
    simp only [rc] at h
    rw [execL_eq]
    simp only [stepA]
    exact ih _ _ _ h
  | rangeFunc f ps a b _ _ => intro e s r h; simpa only [rc, den] using h
  | goto l => intro e s r h; simpa only [rc, den] using h
  | refuse w => intro e s r h; simpa only [rc, den] using h

end
end Go.Am
