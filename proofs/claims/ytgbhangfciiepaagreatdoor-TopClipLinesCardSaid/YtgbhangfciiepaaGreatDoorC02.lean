/- A part of the proof of a statement of this seat: the machine on which the program is read, and what it computes; for every input. -/
import Derived.Test.YtgbhangfciiepaaGreatDoorC01
set_option linter.all false
set_option linter.unusedSimpArgs false
set_option linter.unusedVariables false
set_option linter.unusedSectionVars false
namespace Go.Am
open Go
section
variable [Stat]
variable {X : Cx}

theorem rcO_spec {x : Operand} {a : Opd} (h : rcO X x = some a) (e : Env) : eval X e x = some (evO e a) := by
  cases x <;> simp only [rcO] at h
  · cases h; rfl
  · rename_i v
    cases hv : ofV 3 v with
    | none => rw [hv] at h; cases h
    | some y => rw [hv] at h; cases h; exact hv
  · split at h
    · rename_i hg; cases h; simp only [eval, hg, if_true, evO]
    · cases h
  · cases h; rfl

theorem rcOs_spec {l : List Operand} : ∀ {r : List Opd}, rcOs X l = some r → ∀ e, evals X e l = some (evOs e r) := by
  induction l with
  | nil => intro r h e; simp only [rcOs] at h; cases h; rfl
  | cons x l ih =>
    intro r h e
    simp only [rcOs] at h
    split at h
    · rename_i a r' h1 h2
      cases h
      simp only [evals, rcO_spec h1 e, ih h2 e]
      rfl
    · cases h

theorem pureO_eq {v : Option AV} {s : St} {r : AV × St} (h : pureO v s = some r) : ∃ x, v = some x ∧ r = (x, s) := by
  unfold pureO at h
  split at h
  · cases h; exact ⟨_, rfl, rfl⟩
  · cases h

theorem ld1_load {t : TypeId} {a v : AV} {s : St} (ht : isAggT X t = some false) (h : ld1 a s = some v) : loadA X t a s = some v := by
  unfold ld1 at h
  split at h
  · simp only [loadA, ht]; exact h
  · simp only [loadA, ht]; exact h
  · cases h

theorem ldn_load {t : TypeId} {n : Nat} {a v : AV} {s : St} (ht : isAggT X t = some true) (hn : size X t = some n) (h : ldn n a s = some v) : loadA X t a s = some v := by
  unfold ldn at h
  split at h
  · simp only [loadA, ht, hn]
    split at h
    · rename_i c hc; rw [hc]; exact h
    · cases h
  · simp only [loadA, ht, hn]; exact h
  · cases h

theorem evalO_none (e : Env) : evalO X e none = some none := rfl

theorem rcOo_spec {x : Option Operand} {a : Option Opd} (h : rcOo X x = some a) (e : Env) : evalO X e x = some (evOo e a) := by
  cases x with
  | none => simp only [rcOo] at h; cases h; rfl
  | some x =>
    simp only [rcOo] at h
    cases hx : rcO X x with
    | none => rw [hx] at h; cases h
    | some y => rw [hx] at h; cases h; simp only [evalO, rcO_spec hx e]; rfl

theorem rcPs_spec {place : Nat → Option (Nat × Nat)} {e : Env} : ∀ {l : List (Nat × Operand)} {r : List (Nat × Nat × Opd)}, rcPs X place l = some r → ∃ vs, evalParts X e l = some vs ∧ ∀ z c, fillR e z r = some c → fillA place z vs = some c
  | [], r, h => by simp only [rcPs] at h; cases h; exact ⟨[], rfl, fun z c h => h⟩
  | (i, x) :: l, r, h => by
    simp only [rcPs] at h
    split at h
    · rename_i off n a r' h1 h2 h3
      cases h
      obtain ⟨vs, k1, k2⟩ := rcPs_spec (e := e) h3
      refine ⟨(i, evO e a) :: vs, by simp only [evalParts, rcO_spec h2 e, k1], fun z c hz => ?_⟩
      simp only [fillR] at hz
      simp only [fillA, h1]
      split at hz
      · rename_i hc
        rw [if_pos hc]
        split at hz
        · rename_i c' hl
          rw [hl]; exact k2 _ _ hz
        · cases hz
      · cases hz
    · cases h

theorem appR_spec {t u elem : TypeId} {ei : TypeInfo} {n : Nat} {d x r : AV} {s s' : St} (hu : X.und t = some (.slice elem)) (hi : X.inf elem = some ei) (hs : size X elem = some n) (h1 : ¬ (ei.bytes > 2 ^ 20 ∨ n = 0 ∨ ei.bytes = 0 ∨ zeroBad ei.zero n = true ∨ X.spec elem = true))
    (h : appR elem n ei.bytes d x s = some (r, s')) : appendA X t d x s = some (r, s') := by
  unfold appR at h
  unfold appendA
  simp only [hu, hi, hs]
  split at h
  · rename_i m new hsrc
    rw [hsrc]
    simp only
    split at h
    · cases h
    · rename_i hc
      rw [if_neg (by
        intro hx
        rcases hx with hx | hx | hx | hx | hx | hx | hx | hx
        · exact hc (.inl hx)
        · exact hc (.inr (.inl hx))
        · exact h1 (.inl hx)
        · exact hc (.inr (.inr hx))
        · exact h1 (.inr (.inl hx))
        · exact h1 (.inr (.inr (.inl hx)))
        · exact h1 (.inr (.inr (.inr (.inl hx))))
        · exact h1 (.inr (.inr (.inr (.inr hx)))))]
      exact h
  · cases h

/-- the resolved operation is the operation -/
theorem rop_spec {base : Nat} {e : Env} {s s' : St} {o : Op} {v : AV} (h : rop X base none e s (rcOp X o) = some (v, s')) : opA X (execL X) e o s = some (v, s') := by
  unfold rcOp at h
  split at h
  · rename_i r hr
    unfold rcOp? at hr
    split at hr
    · rename_i x
      cases hx : rcO X x with
      | none => rw [hx] at hr; cases hr
      | some a =>
        rw [hx] at hr; cases hr
        simp only [rop] at h
        simp only [opA, rcO_spec hx e, pureO]; exact h
    · rename_i x
      cases hx : rcO X x with
      | none => rw [hx] at hr; cases hr
      | some a =>
        rw [hx] at hr; cases hr
        simp only [rop] at h
        simp only [opA, rcO_spec hx e, pureO]; exact h
    · rename_i c a b
      split at hr
      · rename_i c' a' b' h1 h2 h3
        cases hr
        simp only [rop] at h
        obtain ⟨x, hx, hr'⟩ := pureO_eq h
        simp only [opA, rcO_spec h1 e]
        unfold pickR at hx
        split at hx
        · rename_i p hp
          rw [hp]
          cases p <;> simp only [rcO_spec h2 e, rcO_spec h3 e, pureO] <;> cases hx <;> exact congrArg some hr'.symm
        · cases hx
      · cases hr
    · rename_i t
      cases hz : zero X t with
      | none => rw [hz] at hr; cases hr
      | some z =>
        rw [hz] at hr; cases hr
        simp only [rop, mk] at h
        simp only [opA, hz, newCells]; exact h
    · rename_i t x
      cases hx : rcO X x with
      | none => rw [hx] at hr; cases hr
      | some a =>
        rw [hx] at hr; cases hr
        simp only [rop, mk] at h
        simp only [opA, rcO_spec hx e, newCells]; exact h
    · rename_i t x
      split at hr
      · rename_i n a h1 h2 h3
        cases hr
        simp only [rop] at h
        obtain ⟨y, hy, hr'⟩ := pureO_eq h
        simp only [opA, rcO_spec h3 e, ldn_load h1 h2 hy, pureO]
        exact congrArg some hr'.symm
      · rename_i n a h1 h3
        cases hr
        simp only [rop] at h
        obtain ⟨y, hy, hr'⟩ := pureO_eq h
        simp only [opA, rcO_spec h3 e, ld1_load h1 hy, pureO]
        exact congrArg some hr'.symm
      · cases hr
    · rename_i t a x
      split at hr
      · rename_i n a' x' h1 h2 h3
        cases hr
        simp only [rop] at h
        simp only [opA, rcO_spec h2 e, rcO_spec h3 e]
        have : storeA X t (evO e a') (evO e x') s = st n (evO e a') (evO e x') s := by
          unfold storeA st
          rw [h1]
          cases evO e a' <;> rfl
        rw [this]; exact h
      · cases hr
    · rename_i t x f
      split at hr
      · rename_i fs a h1 h2
        split at hr
        · rename_i fd hf
          split at hr
          · rename_i n hn
            cases hr
            simp only [rop] at h
            obtain ⟨y, hy, hr'⟩ := pureO_eq h
            simp only [opA, rcO_spec h2 e]
            have : fieldAddrA X t (evO e a) f = some y := by
              unfold faR at hy
              unfold fieldAddrA
              rw [h1]
              split at hy
              · rename_i b o' hb; rw [hb]; simp only [hf, hn]; exact hy
              · rename_i c o' hb; rw [hb]; simp only [hf, hn]; exact hy
              · cases hy
            simp only [this, pureO]
            exact congrArg some hr'.symm
          · cases hr
        · cases hr
      · cases hr
    · rename_i op t x y yt
      split at hr
      · rename_i a b h1 h2
        cases hr
        simp only [rop] at h
        simp only [opA, rcO_spec h1 e, rcO_spec h2 e]; exact h
      · cases hr
    · rename_i x i
      cases hx : rcO X x with
      | none => rw [hx] at hr; cases hr
      | some a =>
        rw [hx] at hr; cases hr
        simp only [rop] at h
        obtain ⟨y, hy, hr'⟩ := pureO_eq h
        simp only [opA, rcO_spec hx e]
        unfold extR at hy
        split at hy
        · rename_i vs hvs
          rw [hvs]
          simp only [hy, pureO]
          exact congrArg some hr'.symm
        · cases hy
    · rename_i op t x
      cases hx : rcO X x with
      | none => rw [hx] at hr; cases hr
      | some a =>
        rw [hx] at hr; cases hr
        simp only [rop] at h
        simp only [opA, rcO_spec hx e]; exact h
    · rename_i args ats
      split at hr
      · rename_i x t hargs hat
        have hev : ∀ a, rcO X x = some a → evals X e args.toList = some [evO e a] := fun a ha => by
          rw [hargs]; simp only [evals, rcO_spec ha e]
        split at hr
        · rename_i a hu ha
          cases hr
          simp only [rop] at h
          obtain ⟨y, hy, hr'⟩ := pureO_eq h
          simp only [opA, hev a ha, builtinA, hat, hu]
          unfold lenRS at hy
          split at hy
          · rename_i l hl; rw [hl]; cases hy; exact congrArg some hr'.symm
          · cases hy
        · rename_i a hu ha
          cases hr
          simp only [rop] at h
          obtain ⟨y, hy, hr'⟩ := pureO_eq h
          simp only [opA, hev a ha, builtinA, hat, hu]
          unfold lenRL at hy
          split at hy
          · rename_i hl; rw [hl]; cases hy; exact congrArg some hr'.symm
          · rename_i hl; rw [hl]; cases hy; exact congrArg some hr'.symm
          · rename_i hl; rw [hl]; cases hy; exact congrArg some hr'.symm
          · cases hy
        · rename_i a hu ha
          cases hr
          simp only [rop] at h
          obtain ⟨y, hy, hr'⟩ := pureO_eq h
          simp only [opA, hev a ha, builtinA, hat, hu]
          unfold lenRM at hy
          split at hy
          · rename_i hl; rw [hl]; cases hy; exact congrArg some hr'.symm
          · rename_i hl; rw [hl]; cases hy; exact congrArg some hr'.symm
          · rename_i r hl
            rw [hl]
            simp only
            split at hy
            · rename_i es ro hg
              rw [hg]; cases hy; exact congrArg some hr'.symm
            · cases hy
          · cases hy
        · cases hr
      · cases hr
    · rename_i args ats
      split at hr
      · rename_i d x t u hargs hat hau
        split at hr
        · rename_i elem ud a b hu hud ha hb
          have hev : evals X e args.toList = some [evO e a, evO e b] := by
            rw [hargs]; simp only [evals, rcO_spec ha e, rcO_spec hb e]
          split at hr
          · rename_i ei n hi hs hok
            split at hr
            · cases hr
            · rename_i hc
              cases hr
              simp only [rop] at h
              simp only [opA, hev, builtinA, hat, hau, hud]
              have := appR_spec (u := u) hu hi hs hc h
              cases ud <;> simp only [Bool.false_eq_true] at hok <;> first | exact this | cases hok
          · cases hr
        · cases hr
      · cases hr
    · rename_i t x i
      split at hr
      · rename_i a b hu ha hb
        cases hr
        simp only [rop] at h
        obtain ⟨y, hy, hr'⟩ := pureO_eq h
        simp only [opA, rcO_spec ha e, rcO_spec hb e]
        have : indexA X t (evO e a) (evO e b) = some y := by
          unfold ixRS at hy
          split at hy
          · rename_i l k i' hl hi'
            rw [hl, hi']
            simp only [indexA, hu]; exact hy
          · cases hy
        simp only [this, pureO]; exact congrArg some hr'.symm
      · cases hr
    · rename_i t x i
      split at hr
      · rename_i el a b hu ha hb
        cases hs : size X el with
        | none => rw [hs] at hr; cases hr
        | some n =>
          rw [hs] at hr; cases hr
          simp only [rop] at h
          obtain ⟨y, hy, hr'⟩ := pureO_eq h
          simp only [opA, rcO_spec ha e, rcO_spec hb e]
          have : indexAddrA X t (evO e a) (evO e b) = some y := by
            unfold ixRA at hy
            split at hy
            · rename_i b' o len cap esz k i' hl hi'
              rw [hl, hi']
              simp only [indexAddrA, hu, hs]; exact hy
            · rename_i es k i' hl hi'
              rw [hl, hi']
              simp only [indexAddrA, hu, hs]
              split at hy
              · rename_i h0
                rw [if_pos h0]
                split at hy
                · rename_i x' hx'; rw [hx']; exact hy
                · cases hy
              · cases hy
            · cases hy
          simp only [this, pureO]; exact congrArg some hr'.symm
      · rename_i len el a b hu ha hb
        cases hs : size X el with
        | none => rw [hs] at hr; cases hr
        | some n =>
          rw [hs] at hr; cases hr
          simp only [rop] at h
          obtain ⟨y, hy, hr'⟩ := pureO_eq h
          simp only [opA, rcO_spec ha e, rcO_spec hb e]
          have : indexAddrA X t (evO e a) (evO e b) = some y := by
            unfold ixRP at hy
            split at hy
            · rename_i b' o k i' hl hi'
              rw [hl, hi']
              simp only [indexAddrA, hu, hs]; exact hy
            · rename_i c o k i' hl hi'
              rw [hl, hi']
              simp only [indexAddrA, hu, hs]; exact hy
            · cases hy
          simp only [this, pureO]; exact congrArg some hr'.symm
      · cases hr
    · rename_i t x lo hi
      split at hr
      · rename_i a l h' hu ha hl hh
        cases hr
        simp only [rop] at h
        obtain ⟨y, hy, hr'⟩ := pureO_eq h
        simp only [opA, rcO_spec ha e, rcOo_spec hl e, rcOo_spec hh e, evalO_none]
        have : sliceA X t (evO e a) (evOo e l) (evOo e h') none = some y := by
          unfold slRS at hy
          split at hy
          · rename_i b hb
            rw [hb]
            simp only [sliceA, hu]
            split at hy
            · rename_i h2 e2; rw [e2]; exact hy
            · cases hy
          · cases hy
        simp only [this, pureO]; exact congrArg some hr'.symm
      · rename_i el a l h' hu ha hl hh
        cases hs : size X el with
        | none => rw [hs] at hr; cases hr
        | some n =>
          rw [hs] at hr; cases hr
          simp only [rop] at h
          obtain ⟨y, hy, hr'⟩ := pureO_eq h
          simp only [opA, rcO_spec ha e, rcOo_spec hl e, rcOo_spec hh e, evalO_none]
          have : sliceA X t (evO e a) (evOo e l) (evOo e h') none = some y := by
            unfold slRL at hy
            split at hy
            · rename_i hb
              rw [hb]
              simp only [sliceA, hu, hs]; exact hy
            · rename_i hb
              rw [hb]
              simp only [sliceA, hu, hs]
              split at hy
              · rename_i h2 e2; rw [e2]; exact hy
              · cases hy
            · rename_i es hb
              rw [hb]
              simp only [sliceA, hu, hs]
              split at hy
              · rename_i h2 e2; rw [e2]; exact hy
              · cases hy
            · cases hy
          simp only [this, pureO]; exact congrArg some hr'.symm
      · cases hr
    · rename_i t x f
      split at hr
      · rename_i fs a hu ha
        split at hr
        · rename_i fd hf
          split at hr
          · rename_i n hag hs
            cases hr
            simp only [rop] at h
            obtain ⟨y, hy, hr'⟩ := pureO_eq h
            unfold fdRn at hy
            split at hy
            · rename_i cs hcs
              cases hg : grab n fd.offset cs with
              | none => rw [hg] at hy; cases hy
              | some r =>
                rw [hg] at hy; cases hy
                simp only [opA, rcO_spec ha e, hcs, hu, hf, partA, hag, hs, hg, pureO]
                exact congrArg some hr'.symm
            · cases hy
          · rename_i hag
            cases hr
            simp only [rop] at h
            obtain ⟨y, hy, hr'⟩ := pureO_eq h
            unfold fdR1 at hy
            split at hy
            · rename_i cs hcs
              simp only [opA, rcO_spec ha e, hcs, hu, hf, partA, hag, hy, pureO]
              exact congrArg some hr'.symm
            · cases hy
          · cases hr
        · cases hr
      · cases hr
    · rename_i t ps
      split at hr
      · rename_i z fs hz hu
        split at hr
        · rename_i pl hpl
          cases hp : rcPs X (fun i => pl[i]?) ps.toList with
          | none => rw [hp] at hr; cases hr
          | some r' =>
            rw [hp] at hr; cases hr
            obtain ⟨vs, k1, k2⟩ := rcPs_spec (e := e) hp
            simp only [rop] at h
            obtain ⟨y, hy, hr'⟩ := pureO_eq h
            cases hfl : fillR e z r' with
            | none => rw [hfl] at hy; cases hy
            | some c =>
              rw [hfl] at hy; cases hy
              simp only [opA, k1, buildA, hz, hu, hpl, k2 _ _ hfl, pureO]
              exact congrArg some hr'.symm
        · cases hr
      · rename_i z len el hz hu
        split at hr
        · rename_i n hs
          cases hp : rcPs X (fun i => some (i * n, n)) ps.toList with
          | none => rw [hp] at hr; cases hr
          | some r' =>
            rw [hp] at hr; cases hr
            obtain ⟨vs, k1, k2⟩ := rcPs_spec (e := e) hp
            simp only [rop] at h
            obtain ⟨y, hy, hr'⟩ := pureO_eq h
            cases hfl : fillR e z r' with
            | none => rw [hfl] at hy; cases hy
            | some c =>
              rw [hfl] at hy; cases hy
              simp only [opA, k1, buildA, hz, hu, hs, k2 _ _ hfl, pureO]
              exact congrArg some hr'.symm
        · cases hr
      · cases hr
    · rename_i t len ps
      split at hr
      · rename_i el hu
        split at hr
        · rename_i n z hs hz
          split at hr
          · rename_i hc
            cases hp : rcPs X (fun i => some (i * n, n)) ps.toList with
            | none => rw [hp] at hr; cases hr
            | some r' =>
              rw [hp] at hr; cases hr
              obtain ⟨vs, k1, k2⟩ := rcPs_spec (e := e) hp
              simp only [rop] at h
              split at h
              · rename_i c hfl
                simp only [opA, k1, buildSliceA, hu, hs, hz, if_pos hc, k2 _ _ hfl]
                exact h
              · cases h
          · cases hr
        · cases hr
      · cases hr
    · rename_i g a b
      split at hr
      · rename_i x y hx hy
        cases hr
        simp only [rop] at h
        simp only [opA, rcOs_spec hx e, rcOs_spec hy e]; exact h
      · cases hr
    · rename_i f args ats
      cases hx : rcOs X args.toList with
      | none => rw [hx] at hr; cases hr
      | some l =>
        rw [hx] at hr; cases hr
        simp only [rop, cal] at h
        simp only [opA, eval, rcOs_spec hx e, callV, List.nil_append, List.append_nil]; exact h
    · rename_i t args ats
      cases hx : rcOs X args.toList with
      | none => rw [hx] at hr; cases hr
      | some l =>
        rw [hx] at hr; cases hr
        simp only [rop, calv, evO] at h
        simp only [opA, eval, rcOs_spec hx e]; exact h
    · cases hr
  · simp only [rop, rawR] at h; exact h

/-- what makes a block, at the id that is kept for it -/
theorem rop_at {base i : Nat} {e : Env} {s s' : St} {o : Op} {v : AV} (hc : cls X o = .a) (h : rop X base (some i) e s (rcOp X o) = some (v, s')) :
    ∃ s1, opA X (execL X) e o { s with next := base + i } = some (v, s1) ∧ s' = { s1 with next := s.next } := by
  unfold rcOp at h
  split at h
  · rename_i r hr
    unfold rcOp? at hr
    split at hr <;> try (simp only [cls] at hc; done)
    all_goals try (simp only [cls] at hc; cases hc; done)
    · rename_i t
      cases hz : zero X t with
      | none => rw [hz] at hr; cases hr
      | some z =>
        rw [hz] at hr; cases hr
        simp only [rop, mk] at h
        cases h
        refine ⟨_, by simp only [opA, hz, newCells]; rfl, rfl⟩
    · rename_i t x
      cases hx : rcO X x with
      | none => rw [hx] at hr; cases hr
      | some a =>
        rw [hx] at hr; cases hr
        simp only [rop, mk] at h
        cases h
        refine ⟨_, by simp only [opA, rcO_spec hx e, newCells]; rfl, rfl⟩
    · rename_i t len ps
      split at hr
      · rename_i el hu
        split at hr
        · rename_i n z hs hz
          split at hr
          · rename_i hcc
            cases hp : rcPs X (fun i => some (i * n, n)) ps.toList with
            | none => rw [hp] at hr; cases hr
            | some r' =>
              rw [hp] at hr; cases hr
              obtain ⟨vs, k1, k2⟩ := rcPs_spec (e := e) hp
              simp only [rop] at h
              split at h
              · rename_i c hfl
                cases h
                refine ⟨_, by simp only [opA, k1, buildSliceA, hu, hs, hz, if_pos hcc, k2 _ _ hfl]; rfl, rfl⟩
              · cases h
          · cases hr
        · cases hr
      · cases hr
    · simp only [cls] at hc
      split at hc <;> cases hc
    · cases hr
  · simp only [rop, rawR] at h
    split at h
    · rename_i v1 s1 h1
      cases h
      exact ⟨s1, h1, rfl⟩
    · cases h

theorem rcG_spec {ops : Array Oper} {o : Oper} {g : Option (Nat × Bool)} (h : rcG ops o.guard = some g) (e : Env) : wantR e g = wantedA ops e o := by
  unfold wantedA
  cases hg : o.guard with
  | none => rw [hg] at h; simp only [rcG] at h; cases h; rfl
  | some jb =>
    obtain ⟨j, b⟩ := jb
    rw [hg] at h
    simp only [rcG] at h
    split at h
    · rename_i oj hj
      split at h
      · rename_i d hd
        cases h
        simp only [wantR, hj, hd]
        cases Env.get e d <;> rfl
      · cases h
    · cases h

theorem rops_spec {ops : Array Oper} {base : Nat} {r : Env × St} : ∀ (l : List Oper) (i : Nat) (l' : List RO) (e : Env) (s : St), rcOps X ops false i l = some l' → rops X base l' e s = some r → opsA X (execL X) ops l e s = some r
  | [], i, l', e, s, h, hr => by simp only [rcOps] at h; cases h; simpa only [rops, opsA] using hr
  | o :: l, i, l', e, s, h, hr => by
    simp only [rcOps] at h
    split at h
    · rename_i g r' h1 h2
      cases h
      simp only [rops, Bool.false_and, Bool.false_eq_true, if_false] at hr
      simp only [opsA, ← rcG_spec h1 e]
      cases hw : wantR e g with
      | false =>
        rw [hw] at hr
        simp only [cond_false] at hr
        simp only [Bool.false_eq_true, if_false]
        exact rops_spec l (i + 1) r' _ _ h2 hr
      | true =>
        rw [hw] at hr
        simp only [cond_true] at hr
        simp only [if_true]
        split at hr
        · rename_i v s1 hv
          rw [rop_spec hv]
          exact rops_spec l (i + 1) r' _ _ h2 hr
        · cases hr
    · cases h

/-! ### Regions whose order is drawn -/

mutual
theorem same_refl : ∀ a : AV, same a a = true
  | .bool _ | .int _ _ | .flt _ _ | .str _ | .nilp | .ptr _ _ | .nils | .sl .. | .nilm | .map _ | .nilfn | .nili => by simp [same]
  | .fn f x y => by simp [same, sames_refl x, sames_refl y]
  | .iface t x => by simp [same, same_refl x]
  | .agg a => by simp [same, sames_refl a]
  | .tup a => by simp [same, sames_refl a]
  | .fz a => by simp [same, sames_refl a]
  | .fp a o => by simp [same, sames_refl a]
  | .fm a b => by simp [same, sames_refl a, sames_refl b]
theorem sames_refl : ∀ a : List AV, sames a a = true
  | [] => by simp [sames]
  | x :: l => by simp [sames, same_refl x, sames_refl l]
end

/-- the states on the way -/
theorem ropsD_go {ops : Array Oper} {base : Nat} {r : Env × St} : ∀ (l : List Oper) (i : Nat) (l' : List RO) (e : Env) (s : St), rcOps X ops true i l = some l' → ropsD X base l' e s = some r →
    ∃ tr, goD X (execL X) ops base i l e s = some tr ∧ lastD tr = some r ∧ ∀ (k : Nat) o, l[k]? = some o → (cls X o.op).isW = true → ∀ k', k < k' → ∀ o', l[k']? = some o' → (cls X o'.op).isA = true → (trS tr (k + 1)).get (base + (i + k')) = none
  | [], i, l', e, s, h, hr => by
    simp only [rcOps] at h; cases h
    simp only [ropsD] at hr; cases hr
    exact ⟨[(e, s)], rfl, rfl, fun k o ho => by simp at ho⟩
  | o :: l, i, l', e, s, h, hr => by
    simp only [rcOps] at h
    split at h
    · rename_i g r' h1 h2
      cases h
      simp only [ropsD, Bool.true_and] at hr
      have key : ∀ v s1, stepD X (execL X) ops base i o e s = some (setDst e o.dst v, s1) → (if (!(cls X o.op).isW || noneR base s1 r') = true then ropsD X base r' (setDst e o.dst v) s1 else none) = some r →
          ∃ tr, goD X (execL X) ops base i (o :: l) e s = some tr ∧ lastD tr = some r ∧ ∀ (k : Nat) o1, (o :: l)[k]? = some o1 → (cls X o1.op).isW = true → ∀ k', k < k' → ∀ o', (o :: l)[k']? = some o' → (cls X o'.op).isA = true → (trS tr (k + 1)).get (base + (i + k')) = none := by
        intro v s1 hst hif
        split at hif
        · rename_i hchk
          obtain ⟨tr, g1, g2, g3⟩ := ropsD_go l (i + 1) r' _ _ h2 hif
          obtain ⟨k1, k2, _⟩ := goD_spec _ _ _ _ _ g1
          refine ⟨(e, s) :: tr, by simp only [goD, hst, g1], ?_, fun k o1 ho1 hw k' hk o' ho' ha => ?_⟩
          · cases tr with
            | nil => simp at k1
            | cons x y => exact g2
          · obtain ⟨k2', rfl⟩ : ∃ q, k' = q + 1 := ⟨k' - 1, by omega⟩
            have hts : ∀ n, trS ((e, s) :: tr) (n + 1) = trS tr n := fun n => by simp [trS]
            rw [hts]
            cases k with
            | zero =>
              simp at ho1; subst ho1
              have hs1 : trS tr 0 = s1 := by simp [trS, k2]
              rw [hs1]
              rw [hw] at hchk
              simp only [Bool.not_true, Bool.false_or] at hchk
              -- the check behind it
              have chk : ∀ (l : List Oper) (i : Nat) (r' : List RO), rcOps X ops true i l = some r' → noneR base s1 r' = true → ∀ (q : Nat) o', l[q]? = some o' → (cls X o'.op).isA = true → s1.get (base + (i + q)) = none := by
                intro l
                induction l with
                | nil => intro i r' _ _ q o' ho'; simp at ho'
                | cons x l ih =>
                  intro i r' hrc hn q o' ho' ha
                  simp only [rcOps] at hrc
                  split at hrc
                  · rename_i g2 r2 e1 e2
                    cases hrc
                    simp only [noneR, List.all_cons, Bool.and_eq_true] at hn
                    cases q with
                    | zero =>
                      simp at ho'; subst ho'
                      have := hn.1
                      simp only [Bool.true_and, ha, if_true, Option.isNone_iff_eq_none] at this
                      simpa using this
                    | succ q =>
                      have := ih (i + 1) r2 e2 hn.2 q o' (by simpa using ho') ha
                      rw [show i + (q + 1) = i + 1 + q by omega]; exact this
                  · cases hrc
              have := chk l (i + 1) r' h2 hchk k2' o' (by simpa using ho') ha
              rw [show i + (k2' + 1) = i + 1 + k2' by omega]; exact this
            | succ k =>
              have := g3 k o1 (by simpa using ho1) hw k2' (by omega) o' (by simpa using ho') ha
              rw [show i + (k2' + 1) = i + 1 + k2' by omega]; exact this
        · cases hif
      have hwant := rcG_spec h1 e
      cases hw : wantR e g with
      | false =>
        rw [hw] at hr hwant
        simp only [cond_false] at hr
        refine key undef s ?_ hr
        simp only [stepD, ← hwant, Bool.false_eq_true, if_false]
      | true =>
        rw [hw] at hr hwant
        simp only [cond_true] at hr
        split at hr
        · rename_i v s1 hv
          refine key v s1 ?_ hr
          simp only [stepD, ← hwant, if_true]
          by_cases ha : (cls X o.op).isA = true
          · rw [if_pos ha] at hv
            obtain ⟨s2, e1, e2⟩ := rop_at (isA_iff.1 ha) hv
            rw [isA_iff.1 ha]
            simp only [e1, e2]
          · rw [if_neg ha] at hv
            have := rop_spec hv
            cases hk : cls X o.op <;> rw [hk] at ha <;> first | exact absurd rfl ha | simp only [this]
        · cases hr
    · cases h

theorem noneR_start {ops : Array Oper} {base : Nat} {s : St} : ∀ (l : List Oper) (i : Nat) (r' : List RO), rcOps X ops true i l = some r' → noneR base s r' = true → ∀ (q : Nat) o', l[q]? = some o' → (cls X o'.op).isA = true → s.get (base + (i + q)) = none
  | [], i, r', _, _, q, o', ho', _ => by simp at ho'
  | x :: l, i, r', hrc, hn, q, o', ho', ha => by
    simp only [rcOps] at hrc
    split at hrc
    · rename_i g2 r2 e1 e2
      cases hrc
      simp only [noneR, List.all_cons, Bool.and_eq_true] at hn
      cases q with
      | zero =>
        simp at ho'; subst ho'
        have := hn.1
        simp only [Bool.true_and, ha, if_true, Option.isNone_iff_eq_none] at this
        simpa using this
      | succ q =>
        have := noneR_start l (i + 1) r2 e2 hn.2 q o' (by simpa using ho') ha
        rw [show i + (q + 1) = i + 1 + q by omega]; exact this
    · cases hrc

end
end Go.Am
set_option linter.unusedSimpArgs false
set_option linter.unusedVariables false
set_option linter.unusedSectionVars false
namespace Go.Am
open Go
section
variable [Stat]
variable {X : Cx} {ops : Array Oper} {base : Nat}

theorem statesD_ok {tr : List (Env × St)} : ∀ (ws : List Nat), (∀ j ∈ ws, j + 1 < tr.length) → statesD tr ws = some (ws.map fun j => (j + 1, trS tr (j + 1)))
  | [], _ => rfl
  | j :: ws, h => by
    have hj := h j (List.mem_cons_self ..)
    simp only [statesD, List.getElem?_eq_getElem hj, statesD_ok ws fun k hk => h k (List.mem_cons_of_mem _ hk), List.map_cons, trS, Option.getD_some]

theorem lateIds_nil (h : lateReg X ops = false) : ∀ (l : List Oper) (i : Nat) (tr : List (Env × St)), lateIds X ops i l tr = []
  | [], i, tr => by cases tr <;> rfl
  | o :: l, i, [] => rfl
  | o :: l, i, (e, s) :: tr => by
    have : late X ops i = false := by simp [late, h]
    simp only [lateIds, this, Bool.false_eq_true, if_false]
    exact lateIds_nil h l (i + 1) tr

theorem checkR_of {ex : Ex} {ws as : List Nat} {ss : List (Nat × St)} {tr0 : List (Env × St)} : ∀ (l : List Oper) (tr : List (Env × St)) (i : Nat),
    (∀ (k : Nat) o es, l[k]? = some o → tr[k]? = some es → wantedA ops es.1 o = true →
      (cls X o.op = .r → ∃ v s', opA X ex es.1 o.op es.2 = some (v, s') ∧ readsSame X ex ops base (i + k) as tr0 es.1 o.op v (rangeR ops ws ss (i + k)) = true) ∧
      (cls X o.op = .q → ∃ c vs us, o.op = .call c ∧ evals X es.1 c.args.toList = some vs ∧ frzArgs X es.2 vs = some us ∧ argsSame X ops base (i + k) as tr0 vs us (rangeR ops ws ss (i + k)) = true)) →
    checkR X ex ops base ws as ss tr0 i l tr = true
  | [], tr, i, _ => by cases tr <;> rfl
  | o :: l, [], i, _ => rfl
  | o :: l, (e, s) :: tr, i, h => by
    simp only [checkR, Bool.and_eq_true]
    refine ⟨?_, checkR_of l tr (i + 1) fun k o' es h1 h2 h3 => by
      have := h (k + 1) o' es (by simpa using h1) (by simpa using h2) h3
      rw [show i + (k + 1) = i + 1 + k by omega] at this
      exact this⟩
    have h0 := h 0 o (e, s) rfl rfl
    simp only [Nat.add_zero] at h0
    cases hw : wantedA ops e o with
    | false => cases cls X o.op <;> simp
    | true =>
      obtain ⟨q1, q2⟩ := h0 hw
      cases hk : cls X o.op with
      | p => rfl
      | a => rfl
      | w => rfl
      | r =>
        obtain ⟨v, s', e1, e2⟩ := q1 hk
        simp only [e1, e2, Bool.or_true]
      | q =>
        obtain ⟨c, vs, us, e1, e2, e3, e4⟩ := q2 hk
        simp only [e1, e2, e3, e4, Bool.or_true]

theorem noneAll_of : ∀ (l : List (Nat × St)), (∀ m s, (m, s) ∈ l → ∀ i, m ≤ i → kA X ops i → s.get (base + i) = none) → noneAll X ops base l = true
  | [], _ => rfl
  | (m, s) :: l, h => by
    simp only [noneAll, Bool.and_eq_true]
    refine ⟨?_, noneAll_of l fun m' s' hm => h m' s' (List.mem_cons_of_mem _ hm)⟩
    have h0 := h m s (List.mem_cons_self ..)
    have : ∀ (l : List Oper) (i : Nat), m ≤ i → (∀ k : Nat, l[k]? = ops[i + k]?) → noneD X base s i l = true := by
      intro l
      induction l with
      | nil => intro i _ _; rfl
      | cons o l ih =>
        intro i hi hl
        simp only [noneD, Bool.and_eq_true, Bool.or_eq_true, Bool.not_eq_true']
        refine ⟨?_, ih (i + 1) (by omega) fun k => by
          have := hl (k + 1)
          rw [show i + 1 + k = i + (k + 1) by omega, ← this]
          simp⟩
        cases ha : (cls X o.op).isA with
        | false => exact .inl rfl
        | true =>
          right
          rw [h0 i hi ⟨o, by have := hl 0; simpa using this.symm, isA_iff.1 ha⟩]
          rfl
    refine this (ops.toList.drop m) m (Nat.le_refl m) fun k => ?_
    rw [List.getElem?_drop, Array.getElem?_toList]

variable {E : Nat → Env} {S : Nat → St} {ex : Ex}

/-- the next state, as a state -/
theorem Tr0.next_eq (h : Tr0 X ex ops base E S) {i : Nat} {o : Oper} (ho : ops[i]? = some o) (hw : cls X o.op ≠ .w) :
    (cls X o.op ≠ .a → S (i + 1) = S i) ∧ (cls X o.op = .a → S (i + 1) = S i ∨ ∃ b, b ≠ .gone ∧ S (i + 1) = (S i).put (base + i) b) := by
  rcases stepD_cases (h.step i o ho) with ⟨_, _, h3⟩ | ⟨_, v, _, ⟨hc, s1, h3, h4⟩ | ⟨hc, h3⟩⟩
  · exact ⟨fun _ => h3, fun _ => .inl h3⟩
  · have hc := isA_iff.1 hc
    obtain ⟨b, hb, rfl, _⟩ := cls_a hc h3
    exact ⟨fun hne => absurd hc hne, fun _ => .inr ⟨b, hb, by rw [h4]; rfl⟩⟩
  · refine ⟨fun _ => ?_, fun ha => ?_⟩
    · cases hk : cls X o.op with
      | a => rw [hk] at hc; cases hc
      | w => exact absurd hk hw
      | p => exact (cls_p hk _ _ _ h3).1
      | r => exact cls_r hk h3
      | q => exact (cls_c hk h3).1
    · rw [ha] at hc; cases hc

theorem aIdx_cons (i : Nat) (o : Oper) (l : List Oper) : aIdx X i (o :: l) = if (cls X o.op).isA then i :: aIdx X (i + 1) l else aIdx X (i + 1) l := rfl

/-- what an operation finds is what stands there in the written order -/
theorem addA_here {tr : List (Env × St)} (ht : Tr0 X ex ops base (trE tr) (trS tr)) (hlen : tr.length = ops.size + 1) (hok : Ok X ops) {i m : Nat} (hi : i < ops.size) (hmi : m ≤ i) (hnw : ∀ k o, m ≤ k → k < i → ops[k]? = some o → cls X o.op ≠ .w)
    (ha : ∀ k, k < i → kA X ops k → bef ops k i = true) (hnone : ∀ k, m ≤ k → kA X ops k → (trS tr m).get (base + k) = none) :
    addA ops base i m tr (aIdx X 0 ops.toList) (trS tr m) = trS tr i := by
  have skip : ∀ (as : List Nat) (s : St), (∀ j ∈ as, ¬ (m ≤ j ∧ bef ops j i = true)) → addA ops base i m tr as s = s := by
    intro as
    induction as with
    | nil => intro s _; rfl
    | cons j as ih =>
      intro s h
      have hj := h j (List.mem_cons_self ..)
      unfold addA
      rw [if_neg (by simpa using hj)]
      exact ih s fun k hk => h k (List.mem_cons_of_mem _ hk)
  -- nothing else comes to an id that is kept
  have keep : ∀ n, m ≤ n → n ≤ i → ∀ k, n ≤ k → kA X ops k → (trS tr n).get (base + k) = none := by
    intro n hn
    induction hn with
    | refl => intro _ k hk hka; exact hnone k hk hka
    | step hmn ih =>
      rename_i n
      intro hni k hk hka
      have hno : n < ops.size := by omega
      have ho := Array.getElem?_eq_getElem hno
      obtain ⟨e1, e2⟩ := ht.next_eq ho (hnw n _ hmn (by omega) ho)
      by_cases hca : cls X (ops[n]).op = .a
      · rcases e2 hca with e | ⟨b, _, e⟩
        · rw [e]; exact ih (by omega) k (by omega) hka
        · rw [e, St.get_put, if_neg (by omega)]; exact ih (by omega) k (by omega) hka
      · rw [e1 hca]; exact ih (by omega) k (by omega) hka
  have run : ∀ d n, n + d = i → m ≤ n → addA ops base i m tr (aIdx X n (ops.toList.drop n)) (trS tr n) = trS tr i := by
    intro d
    induction d with
    | zero =>
      intro n hn _
      have : n = i := by omega
      subst this
      refine skip _ _ fun j hj hc => ?_
      obtain ⟨k, o, _, rfl, _⟩ := aIdx_mem _ _ _ hj
      have := hok.bef_lt n (n + k) hc.2
      omega
    | succ d ih =>
      intro n hn hmn
      have hno : n < ops.size := by omega
      have ho := Array.getElem?_eq_getElem hno
      have hdrop : ops.toList.drop n = ops[n] :: ops.toList.drop (n + 1) := by
        rw [List.drop_eq_getElem_cons (by simpa using hno)]; simp
      rw [hdrop]
      obtain ⟨e1, e2⟩ := ht.next_eq ho (hnw n _ hmn (by omega) ho)
      rw [aIdx_cons]
      by_cases hca : (cls X (ops[n]).op).isA = true
      · rw [if_pos hca]
        have hk : kA X ops n := ⟨_, ho, isA_iff.1 hca⟩
        unfold addA
        rw [if_pos (by simp [hmn, ha n (by omega) hk])]
        have htn : tr[n + 1]? = some (trE tr (n + 1), trS tr (n + 1)) := by
          rw [List.getElem?_eq_getElem (by omega)]
          simp [trE, trS, List.getElem?_eq_getElem (show n + 1 < tr.length by omega)]
        rw [htn]
        simp only
        rcases e2 (isA_iff.1 hca) with e | ⟨b, _, e⟩
        · rw [e, keep n hmn (by omega) n (Nat.le_refl n) hk]
          simp only
          rw [← e]
          exact ih (n + 1) (by omega) (by omega)
        · rw [e, St.get_put, if_pos rfl]
          simp only
          rw [← e]
          exact ih (n + 1) (by omega) (by omega)
      · rw [if_neg hca, ← e1 (fun h => hca (isA_iff.2 h))]
        exact ih (n + 1) (by omega) (by omega)
  -- those ahead of m are passed over
  have pass : ∀ n, n ≤ m → addA ops base i m tr (aIdx X n (ops.toList.drop n)) (trS tr m) = addA ops base i m tr (aIdx X m (ops.toList.drop m)) (trS tr m) := by
    intro n hn
    obtain ⟨d, hd⟩ : ∃ d, n + d = m := ⟨m - n, by omega⟩
    clear hn
    induction d generalizing n with
    | zero => have : n = m := by omega
              subst this; rfl
    | succ d ih =>
      have hno : n < ops.size := by omega
      have hdrop : ops.toList.drop n = ops[n] :: ops.toList.drop (n + 1) := by
        rw [List.drop_eq_getElem_cons (by simpa using hno)]; simp
      rw [← ih (n + 1) (by omega), hdrop, aIdx_cons]
      split
      · conv => lhs; unfold addA
        rw [if_neg (by simp; omega)]
      · rfl
  have := pass 0 (Nat.zero_le m)
  rw [List.drop_zero] at this
  rw [this]
  exact run (i - m) m (by omega) (Nat.le_refl m)

theorem drw_spec {l : List RO} {e : Env} {s : St} {r : Env × St} (hrc : rcOps X ops true 0 ops.toList = some l) (hcalm : calmD X ops = true) (hokd : okD X ops = true) (hn : noneR s.next s l = true)
    (hr : ropsD X s.next l e { s with next := s.next + ops.size } = some r) : drawA X (execL X) ops e s = some r := by
  have hok := okD_ok hokd
  unfold calmD at hcalm
  simp only [Bool.and_eq_true, Bool.not_eq_true', List.all_eq_true, List.mem_range] at hcalm
  obtain ⟨hlr, hall⟩ := hcalm
  obtain ⟨tr, g1, g2, g3⟩ := ropsD_go _ _ _ _ _ hrc hr
  obtain ⟨k1, k2, k3⟩ := goD_spec _ _ _ _ _ g1
  have k1 : tr.length = ops.size + 1 := by simpa using k1
  have ht : Tr0 X (execL X) ops s.next (trE tr) (trS tr) := ⟨fun i o ho => by
    have := k3 i o (by simpa using ho)
    simpa using this⟩
  have hS0 : trS tr 0 = { s with next := s.next + ops.size } := by simp [trS, k2]
  have hlate : ∀ i, late X ops i = false := fun i => by simp [late, hlr]
  have wmem : ∀ j, j ∈ wIdx X ops 0 ops.toList ↔ ∃ o, ops[j]? = some o ∧ cls X o.op = .w := by
    intro j
    rw [wIdx_mem]
    constructor
    · rintro ⟨k, o, h1, rfl, h3⟩
      simp only [Bool.and_eq_true] at h3
      exact ⟨o, by simpa using h1, isW_iff.1 h3.1⟩
    · rintro ⟨o, h1, h3⟩
      exact ⟨j, o, by simpa using h1, by omega, by simp [isW_iff.2 h3, hlate]⟩
  have amem : ∀ j, kA X ops j → j ∈ aIdx X 0 ops.toList := by
    have : ∀ (l : List Oper) (i k : Nat) o, l[k]? = some o → cls X o.op = .a → i + k ∈ aIdx X i l := by
      intro l
      induction l with
      | nil => intro i k o h; simp at h
      | cons x l ih =>
        intro i k o h hc
        unfold aIdx
        cases k with
        | zero => simp at h; subst h; rw [if_pos (isA_iff.2 hc)]; exact List.mem_cons_self ..
        | succ k =>
          have := ih (i + 1) k o (by simpa using h) hc
          rw [show i + (k + 1) = i + 1 + k by omega]
          split
          · exact List.mem_cons_of_mem _ this
          · exact this
    rintro j ⟨o, ho, hc⟩
    have := this ops.toList 0 j o (by simpa using ho) hc
    simpa using this
  have hsts := statesD_ok (tr := tr) (wIdx X ops 0 ops.toList) fun j hj => by
    obtain ⟨o, ho, _⟩ := (wmem j).1 hj
    have := (Array.getElem?_eq_some_iff.1 ho).1
    omega
  unfold drawA
  rw [g1]
  simp only [hsts]
  -- no block stands where one is to be made
  have hnoneM : ∀ m, m = 0 ∨ (∃ j, m = j + 1 ∧ j ∈ wIdx X ops 0 ops.toList) → ∀ i, m ≤ i → kA X ops i → (trS tr m).get (s.next + i) = none := by
    rintro m (rfl | ⟨j, rfl, hj⟩) i hi ⟨o, ho, hc⟩
    · rw [hS0]
      have := noneR_start _ _ _ hrc hn i o (by simpa using ho) (isA_iff.2 hc)
      rw [Nat.zero_add] at this
      exact this
    · obtain ⟨oj, hoj, hcj⟩ := (wmem j).1 hj
      have := g3 j oj (by simpa using hoj) (isW_iff.2 hcj) i (by omega) o (by simpa using ho) (isA_iff.2 hc)
      simpa using this
  have hss : ∀ m s1, (m, s1) ∈ (0, ({ s with next := s.next + ops.size } : St)) :: ((wIdx X ops 0 ops.toList).map fun j => (j + 1, trS tr (j + 1))) → (m = 0 ∨ ∃ j, m = j + 1 ∧ j ∈ wIdx X ops 0 ops.toList) ∧ s1 = trS tr m := by
    intro m s1 hm
    rcases List.mem_cons.1 hm with e | hm
    · cases e; exact ⟨.inl rfl, hS0.symm⟩
    · obtain ⟨j, hj, e⟩ := List.mem_map.1 hm
      cases e
      exact ⟨.inr ⟨j, rfl, hj⟩, rfl⟩
  have hnA : noneAll X ops s.next ((0, ({ s with next := s.next + ops.size } : St)) :: ((wIdx X ops 0 ops.toList).map fun j => (j + 1, trS tr (j + 1)))) = true := noneAll_of _ fun m s1 hm i hi hk => by
    obtain ⟨h1, rfl⟩ := hss m s1 hm
    exact hnoneM m h1 i hi hk
  have hchk : checkR X (execL X) ops s.next (wIdx X ops 0 ops.toList) (aIdx X 0 ops.toList) ((0, ({ s with next := s.next + ops.size } : St)) :: ((wIdx X ops 0 ops.toList).map fun j => (j + 1, trS tr (j + 1)))) tr 0 ops.toList tr = true := by
    refine checkR_of _ _ _ fun i o es ho htr hw => ?_
    have ho' : ops[i]? = some o := by simpa using ho
    have hi : i < ops.size := (Array.getElem?_eq_some_iff.1 ho').1
    have hes : es = (trE tr i, trS tr i) := by simp [trE, trS, htr]
    subst hes
    simp only at hw
    rw [Nat.zero_add]
    -- the step
    have hop : cls X o.op ≠ .a → ∃ v, opA X (execL X) (trE tr i) o.op (trS tr i) = some (v, trS tr (i + 1)) := fun hne => by
      rcases stepD_cases (ht.step i o ho') with ⟨h1, _⟩ | ⟨_, v, _, ⟨hc, _⟩ | ⟨_, h3⟩⟩
      · rw [hw] at h1; cases h1
      · exact absurd (isA_iff.1 hc) hne
      · exact ⟨v, h3⟩
    -- the one state
    have hone : cls X o.op = .r ∨ cls X o.op = .q → ∃ m, rangeR ops (wIdx X ops 0 ops.toList) ((0, ({ s with next := s.next + ops.size } : St)) :: ((wIdx X ops 0 ops.toList).map fun j => (j + 1, trS tr (j + 1)))) i = [(m, trS tr m)] ∧
        addA ops s.next i m tr (aIdx X 0 ops.toList) (trS tr m) = trS tr i := by
      intro hk
      have hst := hall i hi
      rw [ho'] at hst
      simp only at hst
      have hst' : (aIdx X 0 ops.toList).all (fun k => !decide (k < i) || bef ops k i) = true ∧ (wIdx X ops 0 ops.toList).all (fun k => bef ops k i || bef ops i k) = true := by
        rcases hk with hk | hk <;> rw [hk] at hst <;> simpa [Cls.isR] using hst
      obtain ⟨ha, hwb⟩ := hst'
      rw [List.all_eq_true] at ha hwb
      have hab : ∀ k, k < i → kA X ops k → bef ops k i = true := fun k hki hka => by
        have := ha k (amem k hka)
        simpa [hki] using this
      have hbw : ∀ k ∈ wIdx X ops 0 ops.toList, (bef ops k i = true ↔ k < i) ∧ (bef ops i k = true ↔ i < k) := by
        intro k hkm
        have := hwb k hkm
        simp only [Bool.or_eq_true] at this
        rcases this with h1 | h1
        · have := hok.bef_lt i k h1
          refine ⟨⟨fun _ => this, fun _ => h1⟩, ⟨fun h2 => ?_, fun h2 => by omega⟩⟩
          have := hok.bef_lt k i h2; omega
        · have := hok.bef_lt k i h1
          refine ⟨⟨fun h2 => ?_, fun h2 => by omega⟩, ⟨fun _ => this, fun _ => h1⟩⟩
          have := hok.bef_lt i k h2; omega
      have hne : ∀ k ∈ wIdx X ops 0 ops.toList, k ≠ i := fun k hkm e => by
        obtain ⟨o2, ho2, hc2⟩ := (wmem k).1 hkm
        rw [e, ho'] at ho2; cases ho2
        rcases hk with hk | hk <;> rw [hk] at hc2 <;> cases hc2
      have hcnt : countL (fun j => !bef ops i j) (wIdx X ops 0 ops.toList) = countL (fun j => bef ops j i) (wIdx X ops 0 ops.toList) := by
        refine Nat.le_antisymm (countL_mono _ fun x hx h => ?_) (countL_mono _ fun x hx h => ?_)
        · have h1 : bef ops i x = false := by simpa using h
          refine ((hbw x hx).1).2 (Nat.lt_of_not_le fun hle => ?_)
          have := ((hbw x hx).2).2 (by have := hne x hx; omega)
          rw [h1] at this; cases this
        · have h1 := ((hbw x hx).1).1 h
          simp only [Bool.not_eq_true']
          cases hb : bef ops i x with
          | false => rfl
          | true => have := ((hbw x hx).2).1 hb; omega
      unfold rangeR
      rw [hcnt]
      -- how many stand ahead
      generalize hq : countL (fun j => bef ops j i) (wIdx X ops 0 ops.toList) = q
      have hsort := List.pairwise_iff_getElem.1 (wIdx_sorted (X := X) (ops := ops) ops.toList 0)
      have hql : q ≤ (wIdx X ops 0 ops.toList).length := by
        rw [← hq]
        generalize wIdx X ops 0 ops.toList = L
        induction L with
        | nil => exact Nat.le_refl _
        | cons x L ih => simp only [countL, List.length_cons]; split <;> omega
      -- the first q are those ahead of i
      have hfirst : ∀ n (hn : n < (wIdx X ops 0 ops.toList).length), (n < q ↔ (wIdx X ops 0 ops.toList)[n] < i) := by
        -- the point where they part
        obtain ⟨p, hp1, hp2, hp3⟩ : ∃ p, p ≤ (wIdx X ops 0 ops.toList).length ∧ (∀ n (hn : n < (wIdx X ops 0 ops.toList).length), n < p → (wIdx X ops 0 ops.toList)[n] < i) ∧ (∀ n (hn : n < (wIdx X ops 0 ops.toList).length), p ≤ n → ¬ (wIdx X ops 0 ops.toList)[n] < i) := by
          rcases last_of (fun n => ∃ hn : n < (wIdx X ops 0 ops.toList).length, (wIdx X ops 0 ops.toList)[n] < i) (wIdx X ops 0 ops.toList).length with h | ⟨n0, h1, ⟨h2, h3⟩, h4⟩
          · exact ⟨0, Nat.zero_le _, fun n _ hn => by omega, fun n hn _ hlt => h n hn ⟨hn, hlt⟩⟩
          · refine ⟨n0 + 1, h1, fun n hn hlt => ?_, fun n hn hle hlt => h4 n (by omega) hn ⟨hn, hlt⟩⟩
            by_cases e : n = n0
            · subst e; exact h3
            · have := hsort n n0 hn h2 (by omega); omega
        have hpq : p = q := by
          rw [← hq]
          refine (countL_split _ p hp1 (fun x hx => ?_) (fun x hx => ?_)).symm
          · obtain ⟨n, hn, rfl⟩ := List.mem_iff_getElem.1 hx
            rw [List.getElem_take]
            have hn' : n < p ∧ n < (wIdx X ops 0 ops.toList).length := by rw [List.length_take] at hn; omega
            exact ((hbw _ (List.getElem_mem hn'.2)).1).2 (hp2 n hn'.2 hn'.1)
          · obtain ⟨n, hn, rfl⟩ := List.mem_iff_getElem.1 hx
            rw [List.getElem_drop]
            rw [List.length_drop] at hn
            have := hp3 (p + n) (by omega) (by omega)
            cases hb : bef ops (wIdx X ops 0 ops.toList)[p + n] i with
            | false => rfl
            | true => exact absurd (((hbw _ (List.getElem_mem (by omega))).1).1 hb) this
        subst hpq
        exact fun n hn => ⟨hp2 n hn, fun hlt => Nat.lt_of_not_le fun hle => hp3 n hn hle hlt⟩
      have fin : ∀ m, (m = 0 ∨ ∃ j, m = j + 1 ∧ j ∈ wIdx X ops 0 ops.toList) → m ≤ i → (∀ k ∈ wIdx X ops 0 ops.toList, k < i → k < m) →
          addA ops s.next i m tr (aIdx X 0 ops.toList) (trS tr m) = trS tr i := fun m hm hmi hwm =>
        addA_here ht k1 hok hi hmi (fun k ok h1 h2 hok' hc => by
          have := hwm k ((wmem k).2 ⟨ok, hok', hc⟩) h2; omega) hab (fun k h1 h2 => hnoneM m hm k h1 h2)
      cases q with
      | zero =>
        refine ⟨0, by simp [hS0], fin 0 (.inl rfl) (Nat.zero_le _) fun k hkm hki => ?_⟩
        obtain ⟨n, hn, rfl⟩ := List.mem_iff_getElem.1 hkm
        have := (hfirst n hn).2 hki; omega
      | succ q =>
        have hqn : q < (wIdx X ops 0 ops.toList).length := by omega
        have hqi := (hfirst q hqn).1 (by omega)
        refine ⟨(wIdx X ops 0 ops.toList)[q] + 1, ?_, fin _ (.inr ⟨_, rfl, List.getElem_mem _⟩) (by omega) fun k hkm hki => ?_⟩
        · rw [List.drop_take]
          rw [show q + 1 + 1 - (q + 1) = 1 by omega, List.drop_succ_cons, List.drop_eq_getElem_cons (by simpa using hqn)]
          simp
        · obtain ⟨n, hn, rfl⟩ := List.mem_iff_getElem.1 hkm
          have hnq := (hfirst n hn).2 hki
          by_cases e : n = q
          · subst e; omega
          · have := hsort n q hn hqn (by omega); omega
    refine ⟨fun hk => ?_, fun hk => ?_⟩
    · obtain ⟨v, hv⟩ := hop (by rw [hk]; simp)
      obtain ⟨m, hm1, hm2⟩ := hone (.inl hk)
      refine ⟨v, _, hv, ?_⟩
      rw [hm1]
      simp only [readsSame, hm2, hv, same_refl, Bool.and_self]
    · obtain ⟨v, hv⟩ := hop (by rw [hk]; simp)
      obtain ⟨m, hm1, hm2⟩ := hone (.inr hk)
      obtain ⟨_, c, vs, us, e1, e2, e3, _⟩ := cls_c hk hv
      refine ⟨c, vs, us, e1, e2, e3, ?_⟩
      rw [hm1]
      simp only [argsSame, hm2, e3, sames_refl, Bool.and_self]
  rw [lateIds_nil hlr]
  simp only [lateOk, hchk, hnA, Bool.and_self, if_true]
  exact g2

/-! ### Loops -/

theorem iterN_mono {b : Env → St → Fl} {r : Out × Env × St} : ∀ (n : Nat) (e : Env) (s : St), iterN b n e s = some r → ∀ m, n ≤ m → iterN b m e s = some r
  | 0, e, s, h, m, _ => by simp [iterN] at h
  | n + 1, e, s, h, m, hm => by
    obtain ⟨k, rfl⟩ : ∃ k, m = k + 1 := ⟨m - 1, by omega⟩
    simp only [iterN] at h ⊢
    split at h
    · exact iterN_mono n _ _ h k (by omega)
    · exact h

theorem iterL_iff {b : Env → St → Fl} {e : Env} {s : St} {r : Out × Env × St} : iterL b e s = some r ↔ ∃ n, iterN b n e s = some r := by
  unfold iterL
  constructor
  · intro h
    split at h
    · rename_i hx
      cases h
      exact Classical.choose_spec hx
    · cases h
  · rintro ⟨n, hn⟩
    have hx : ∃ r n, iterN b n e s = some r := ⟨r, n, hn⟩
    rw [dif_pos hx]
    obtain ⟨n', hn'⟩ := Classical.choose_spec hx
    have h1 := iterN_mono n e s hn (max n n') (Nat.le_max_left ..)
    have h2 := iterN_mono n' e s hn' (max n n') (Nat.le_max_right ..)
    rw [h1] at h2
    exact congrArg some (Option.some.inj h2).symm

/-- one round -/
theorem iterL_eq (b : Env → St → Fl) (e : Env) (s : St) : iterL b e s = match b e s with
    | some (.norm, e, s) => iterL b e s
    | r => r := by
  cases hb : b e s with
  | none =>
    cases h : iterL b e s with
    | none => rfl
    | some r =>
      obtain ⟨n, hn⟩ := iterL_iff.1 h
      cases n with
      | zero => simp [iterN] at hn
      | succ n => simp only [iterN, hb] at hn; cases hn
  | some x =>
    obtain ⟨o, e1, s1⟩ := x
    cases o with
    | norm =>
      simp only
      cases h : iterL b e1 s1 with
      | some r =>
        obtain ⟨n, hn⟩ := iterL_iff.1 h
        exact iterL_iff.2 ⟨n + 1, by simp only [iterN, hb]; exact hn⟩
      | none =>
        cases h' : iterL b e s with
        | none => rfl
        | some r =>
          obtain ⟨n, hn⟩ := iterL_iff.1 h'
          cases n with
          | zero => simp [iterN] at hn
          | succ n =>
            simp only [iterN, hb] at hn
            rw [iterL_iff.2 ⟨n, hn⟩] at h; cases h
    | exit i => exact iterL_iff.2 ⟨1, by simp only [iterN, hb]⟩
    | ret => exact iterL_iff.2 ⟨1, by simp only [iterN, hb]⟩

/-- what the resolved code comes to, the code comes to -/
theorem den_sound : ∀ (c : Code) (e : Env) (s : St) (r : Out × Env × St), den X (rc X c) e s = some r → execL X c e s = some r := by
  intro c
  induction c with
  | skip => intro e s r h; simp only [rc, den] at h; rw [execL_eq]; exact h
  | label l => intro e s r h; simp only [rc, den] at h; rw [execL_eq]; exact h
  | exit i => intro e s r h; simp only [rc, den] at h; rw [execL_eq]; exact h
  | ret => intro e s r h; simp only [rc, den] at h; rw [execL_eq]; exact h
  | region id ops d =>
    intro e s r h
    simp only [rc] at h
    split at h
    · rename_i hd
      split at h
      · rename_i hc
        simp only [Bool.and_eq_true] at hc
        split at h
        · rename_i l hl
          simp only [den] at h
          split at h
          · rename_i hn
            split at h
            · rename_i e1 s1 h1
              cases h
              rw [execL_eq]
              simp only [stepA, hd, if_true, drw_spec hl hc.1 hc.2 hn h1]
            · cases h
          · cases h
        · exact h
      · exact h
    · rename_i hd
      split at h
      · rename_i l hl
        simp only [den] at h
        split at h
        · rename_i e1 s1 h1
          cases h
          rw [execL_eq]
          simp only [stepA, if_neg hd, rops_spec _ _ _ _ _ hl h1]
        · cases h
      · exact h
  | seq a b iha ihb =>
    intro e s r h
    simp only [rc, den] at h
    rw [execL_eq]
    simp only [stepA]
    split at h
    · rename_i e1 s1 h1
      rw [iha _ _ _ h1]
      exact ihb _ _ _ h
    · rename_i hne
      rw [iha _ _ _ h]
      obtain ⟨o, e1, s1⟩ := r
      cases o with
      | norm => exact absurd h (hne _ _)
      | _ => rfl
  | cond c a b iha ihb =>
    intro e s r h
    simp only [rc] at h
    split at h
    · rename_i x hx
      simp only [den] at h
      rw [execL_eq]
      simp only [stepA, rcO_spec hx e]
      split at h
      · rename_i p hp
        rw [hp]
        cases p
        · exact ihb _ _ _ h
        · exact iha _ _ _ h
      · cases h
    · exact h
  | block id b ih =>
    intro e s r h
    simp only [rc, den] at h
    rw [execL_eq]
    simp only [stepA]
    split at h
    · rename_i i e1 s1 h1
      rw [ih _ _ _ h1]
      exact h
    · rename_i hne
      rw [ih _ _ _ h]
      obtain ⟨o, e1, s1⟩ := r
      cases o with
      | exit i => exact absurd h (hne _ _ _)
      | _ => rfl
  | loop b ih =>
    intro e s r h
    simp only [rc, den] at h
    obtain ⟨n, hn⟩ := iterL_iff.1 h
    clear h
    induction n generalizing e s with
    | zero => simp [iterN] at hn
    | succ n ihn =>
      simp only [iterN] at hn
      rw [execL_eq]
      simp only [stepA]
      split at hn
      · rename_i e1 s1 h1
        rw [ih _ _ _ h1]
        exact ihn _ _ hn
      · rename_i hne
        rw [ih _ _ _ hn]
        obtain ⟨o, e1, s1⟩ := r
        cases o with
        | norm => exact absurd hn (hne _ _)
        | _ => rfl
  | scope b ih =>
    intro e s r h
    simp only [rc] at h
    rw [execL_eq]
    simp only [stepA]
    exact ih _ _ _ h
  | rangeFunc f ps a b _ _ => intro e s r h; simpa only [rc, den] using h
  | goto l => intro e s r h; simpa only [rc, den] using h
  | refuse w => intro e s r h; simpa only [rc, den] using h

end
end Go.Am
