/- A part of the proof of a statement of this seat: the machine on which the program is read, and what it computes; for every input. -/
import Derived.Test.YtgbhangfciiepaaGreatDoorC00
import Derived.RangeFuncLeaves
import Derived.Orders
import Derived.RangeFuncCalls
import Derived.Scope
import Derived.RangeFuncRecord
set_option linter.all false
set_option linter.unusedSimpArgs false
set_option linter.unusedVariables false
set_option linter.unusedSectionVars false
namespace Go.Am
open Go
section
variable [Stat]
variable {X : Cx} {P : Program} {w : World} {σ : Sg} {s : St}

/-- what the machine gets of an operation that enters nothing -/
def NextIs (nx : Next) (v : Value) : Prop := nx = .value v ∨ (nx = .skip ∧ v = Go.undef)

def OpRun (P : Program) (σ : Sg) (s : St) (w : World) (m : Sem Next) (a : AV) (s' : St) : Prop :=
  ∃ σ' nx v w', m.run P w = .ok nx w' ∧ NextIs nx v ∧ vrel σ' a v ∧ Good σ s w σ' s' w'

theorem ORun.op {m : Sem Value} {a : AV} {s' : St} (h : ORun P σ s w m a s') : OpRun P σ s w (do pure (.value (← m))) a s' := by
  obtain ⟨σ', v, w', h1, h2, h3⟩ := h
  exact ⟨σ', .value v, v, w', by simp only [Sem.run_bind, h1, Result.andThen_ok, Sem.run_pure], .inl rfl, h2, h3⟩

theorem PRun.op {m : Sem Value} {a : AV} (h : PRun P w σ m a) (H : HR σ s w) : OpRun P σ s w (do pure (.value (← m))) a s := (h.o H).op

theorem undef_rel : vrel σ Am.undef Go.undef := by
  simp only [Am.undef, vrel]; exact ⟨#[], rfl, by simp [vrels]⟩

theorem unit_op {m : Sem Unit} {s' : St} (h : ∃ w', m.run P w = .ok () w' ∧ Good σ s w σ s' w') : OpRun P σ s w (do m; pure .skip) Am.undef s' := by
  obtain ⟨w', h1, h2⟩ := h
  exact ⟨σ, .skip, Go.undef, w', by simp only [Sem.run_bind, h1, Result.andThen_ok, Sem.run_pure], .inr ⟨rfl, rfl⟩, undef_rel, h2⟩

theorem evalO_rel (hg : GlobOk X σ) {e : Env} {tmps : Array Value} (he : erel σ e tmps) {x : Option Operand} {a : Option AV} (h : evalO X e x = some a) : orel σ a (x.map (rho tmps)) := by
  unfold evalO at h
  split at h
  · cases h; exact trivial
  · rename_i x
    split at h
    · rename_i v hv; cases h
      exact eval_rel hg he hv
    · cases h

/-- it is no call of a function value -/
def isCallV : Op → Bool
  | .call { callee := .value _, .. } => true
  | _ => false

theorem pureO_some {v : Option AV} {r : AV} {s s' : St} (h : pureO v s = some (r, s')) : v = some r ∧ s' = s := by
  unfold pureO at h
  split at h
  · cases h; exact ⟨rfl, rfl⟩
  · cases h

theorem unitO_some {t : Option St} {r : AV} {s' : St} (h : unitO t = some (r, s')) : t = some s' ∧ r = Am.undef := by
  unfold unitO at h
  split at h
  · cases h; exact ⟨rfl, rfl⟩
  · cases h

theorem copyA_run (hX : CxOk X P) (H : HR σ s w) {ts : Array TypeId} {ty t : TypeId} {d x r : AV} {dv xv : Value} {s' : St} (ht : ts[0]? = some t) (hd : vrel σ d dv) (hx : vrel σ x xv) (h : copyA X t d x s = some (r, s')) :
    ORun P σ s w (Builtin.copy_ ts ty #[dv, xv]) r s' := by
  unfold copyA at h
  split at h
  · rename_i e b o len cap esz hu
    split at h
    · rename_i n hs
      split at h
      · rename_i m new hsrc
        split at h
        · rename_i hm
          split at h
          · rename_i s1 hw
            cases h
            obtain ⟨a, c, rfl, hlen, ⟨p, hp, ha, _⟩, _⟩ := vrel_sl hd
            have := ha (by omega); subst this
            obtain ⟨k1, vs, k2, k3⟩ := sourceA_run (P := P) H hx hsrc
            obtain ⟨w', g1, g2⟩ := writeCells_run (P := P) H hp k3 hw
            refine ⟨σ, .int .i64 m, w', ?_, by simp [vrel], g2⟩
            have hmin : Nat.min m len = m := Nat.min_eq_left hm.1
            simp only [Builtin.copy_, ht, List.getElem?_toArray, List.getElem?_cons_zero, List.getElem?_cons_succ, Sem.run_bind, Sem.run_pure, Result.andThen_ok, run_und (hX.und _ _ hu), k1, hmin, run_size' hX hs, k2 w rfl, g1]
            rfl
          · cases h
        · cases h
      · cases h
    · cases h
  · cases h

theorem builtinA_sound (hX : CxOk X P) (H : HR σ s w) (hf : σ s.next = none) {b : Builtin} {ts : Array TypeId} {ty : TypeId} {cs : Array Bool} {vs : List AV} {us : List Value} {r : AV} {s' : St} (hv : vrels σ vs us)
    (h : builtinA X b ts vs s = some (r, s')) : OpRun P σ s w (builtin b ts ty cs us.toArray) r s' := by
  have h0 := h
  unfold builtinA at h
  split at h
  · -- len
    simp only [vrels] at hv
    obtain ⟨v, y, rfl, h1, rfl⟩ := hv
    obtain ⟨rfl, h2⟩ := lenA_run (P := P) (ty := ty) hX H h1 h0
    exact h2.op H
  · -- append
    simp only [vrels] at hv
    obtain ⟨v, y, rfl, h1, u, z, rfl, h2, rfl⟩ := hv
    split at h
    · rename_i t u' ht hu
      split at h
      · rename_i e hd
        exact (appendA_run (P := P) hX H hf ht hu ⟨_, hd, by simp⟩ h1 h2 h).op
      · rename_i hd
        exact (appendA_run (P := P) hX H hf ht hu ⟨_, hd, by simp⟩ h1 h2 h).op
      · cases h
    · cases h
  · -- copy
    simp only [vrels] at hv
    obtain ⟨v, y, rfl, h1, u, z, rfl, h2, rfl⟩ := hv
    split at h
    · rename_i t ht
      exact (copyA_run (P := P) (ty := ty) hX H ht h1 h2 h).op
    · cases h
  · -- min
    rename_i k x l
    split at h
    · rename_i q hq
      cases h
      simp only [vrels] at hv
      obtain ⟨v, y, rfl, h1, h2⟩ := hv
      rw [vrel_int h1]
      obtain ⟨u, g1, g2⟩ := minA_run (P := P) (w := w) hq h2
      exact PRun.op (m := Builtin.min_ ts ty _) ⟨u, g1, g2⟩ H
    · cases h
  · -- max
    rename_i k x l
    split at h
    · rename_i q hq
      cases h
      simp only [vrels] at hv
      obtain ⟨v, y, rfl, h1, h2⟩ := hv
      rw [vrel_int h1]
      obtain ⟨u, g1, g2⟩ := maxA_run (P := P) (w := w) hq h2
      exact PRun.op (m := Builtin.max_ ts ty _) ⟨u, g1, g2⟩ H
    · cases h
  · -- unsafe.SliceData
    simp only [vrels] at hv
    obtain ⟨v, y, rfl, h1, rfl⟩ := hv
    split at h
    · cases h
      simp only [vrel] at h1; subst h1
      exact PRun.op (m := Builtin.unsafeSliceData_ ts ty _) ⟨.pointer none, rfl, by simp [vrel]⟩ H
    · cases h
      obtain ⟨a, c, rfl, hlen, ⟨p, hp, ha, _⟩, _⟩ := vrel_sl h1
      obtain ⟨c', rfl⟩ : ∃ c', c = c' + 1 := ⟨c - 1, by omega⟩
      have := ha (by omega); subst this
      exact PRun.op (m := Builtin.unsafeSliceData_ ts ty _) ⟨.pointer (some ⟨p.b, p.sh + _, none⟩), rfl, by simp only [vrel]; exact ⟨p, hp, rfl⟩⟩ H
    · cases h
  · -- unsafe.String
    rename_i p k n
    simp only [vrels] at hv
    obtain ⟨v, y, rfl, h1, u, z, rfl, h2, rfl⟩ := hv
    rw [vrel_int h2]
    cases ht : ts[0]? with
    | some t => exact (unsafeString_run (P := P) (ty := ty) hX H h1 h0 ⟨t, ht⟩).op
    | none =>
      have : ts.size = 0 := by
        rcases Nat.eq_zero_or_pos ts.size with h | h
        · exact h
        · rw [Array.getElem?_eq_getElem h] at ht; cases ht
      rw [if_pos this] at h; cases h
  · cases h

theorem opA_sound (hX : CxOk X P) (hG : GlobOk X σ) (H : HR σ s w) (hf : σ s.next = none) {ex : Ex} {e : Env} {tmps : Array Value} (E : erel σ e tmps) {o : Oper} {v : AV} {s' : St} (hn : isCallV o.op = false)
    (h : opA X ex e o.op s = some (v, s')) : OpRun P σ s w (execOp (rho tmps) o) v s' := by
  obtain ⟨dst, op, type, pos, after, guard⟩ := o
  simp only at h hn
  have ev : ∀ {x a}, eval X e x = some a → vrel σ a (rho tmps x) := fun h => eval_rel hG E h
  cases op <;> simp only [opA] at h <;> try (cases h; done)
  case move x =>
    obtain ⟨h1, rfl⟩ := pureO_some h
    exact ⟨σ, _, _, w, rfl, .inl rfl, ev h1, Good.refl H⟩
  case assign x =>
    obtain ⟨h1, rfl⟩ := pureO_some h
    exact ⟨σ, _, _, w, rfl, .inl rfl, ev h1, Good.refl H⟩
  case pick c a b =>
    split at h
    · rename_i hc
      obtain ⟨h1, rfl⟩ := pureO_some h
      exact ⟨σ, _, _, w, by simp only [execOp, Sem.run_bind, vrel_bool (ev hc), asBool, Sem.run_pure, Result.andThen_ok, if_true], .inl rfl, ev h1, Good.refl H⟩
    · rename_i hc
      obtain ⟨h1, rfl⟩ := pureO_some h
      exact ⟨σ, _, _, w, by simp only [execOp, Sem.run_bind, vrel_bool (ev hc), asBool, Sem.run_pure, Result.andThen_ok, Bool.false_eq_true, if_false], .inl rfl, ev h1, Good.refl H⟩
    · cases h
  case alloc t =>
    split at h
    · rename_i z hz
      cases h
      exact (alloc_run (P := P) hX H hf hz).op
    · cases h
  case box t x =>
    split at h
    · rename_i a ha
      cases h
      exact (box_run (P := P) H hf (ev ha)).op
    · cases h
  case build t ps =>
    split at h
    · rename_i l hl
      obtain ⟨h1, rfl⟩ := pureO_some h
      exact (buildA_run (w := w) hX (by simpa using evalParts_rel hG E hl) h1).op H
    · cases h
  case buildSlice t n ps =>
    split at h
    · rename_i l hl
      exact (buildSliceA_run (P := P) hX H hf (by simpa using evalParts_rel hG E hl) h).op
    · cases h
  case load t a =>
    split at h
    · rename_i x hx
      obtain ⟨h1, rfl⟩ := pureO_some h
      exact (loadA_run (P := P) hX H (ev hx) h1).op H
    · cases h
  case store t a x =>
    split at h
    · rename_i y z hy hz
      obtain ⟨h1, rfl⟩ := unitO_some h
      exact unit_op (storeA_run (P := P) hX H (ev hy) (ev hz) h1)
    · cases h
  case nilCheck x =>
    split at h
    · rename_i b o hx
      cases h
      have hr := ev hx
      obtain ⟨p, hp, hv⟩ := vrel_ptr hr
      exact ⟨σ, .value (rho tmps x), _, w, by simp only [execOp, hv]; rfl, .inl rfl, hr, Good.refl H⟩
    · rename_i c o hx
      cases h
      have hr := ev hx
      obtain ⟨b, base, us, cc, e, fz, hv, _⟩ := vrel_fp hr
      exact ⟨σ, .value (rho tmps x), _, w, by simp only [execOp, hv]; rfl, .inl rfl, hr, Good.refl H⟩
    · rename_i f a b hx
      cases h
      have hr := ev hx
      have hr' := hr
      simp only [vrel] at hr'
      obtain ⟨f', x', y', hv, hf', _, _⟩ := hr'
      simp only [fnrel] at hf'; subst hf'
      exact ⟨σ, .value (rho tmps x), _, w, by simp only [execOp, hv]; rfl, .inl rfl, hr, Good.refl H⟩
    · rename_i f a b hx
      cases h
      have hr := ev hx
      have hr' := hr
      simp only [vrel] at hr'
      obtain ⟨f', x', y', hv, hf', _, _⟩ := hr'
      simp only [fnrel] at hf'
      obtain ⟨p, _, rfl⟩ := hf'
      exact ⟨σ, .value (rho tmps x), _, w, by simp only [execOp, hv]; rfl, .inl rfl, hr, Good.refl H⟩
    · cases h
  case binOp op t x y yt =>
    split at h
    · rename_i a b ha hb
      obtain ⟨h1, rfl⟩ := pureO_some h
      exact (binA_run (w := w) hX rfl (ev ha) (ev hb) h1).op H
    · cases h
  case unOp op t x =>
    split at h
    · rename_i a ha
      obtain ⟨h1, rfl⟩ := pureO_some h
      exact (unA_run (P := P) (w := w) (ev ha) h1).op H
    · cases h
  case convert src dst x =>
    split at h
    · rename_i a ha
      have hr := ev ha
      cases hs : X.und src with
      | none => unfold convA at h; rw [hs] at h; simp at h
      | some sd =>
        cases hd : X.und dst with
        | none => unfold convA at h; rw [hs, hd] at h; cases a <;> simp at h
        | some dd =>
          by_cases h1 : ∃ e, sd = .slice e ∧ dd = .string
          · obtain ⟨e, rfl, rfl⟩ := h1
            obtain ⟨rfl, h2⟩ := bytesToString_run (P := P) hX H hs hd hr h
            exact h2.op H
          · by_cases h2 : ∃ e l, dd = .slice e ∧ a = .str l
            · obtain ⟨e, l, rfl, rfl⟩ := h2
              exact (stringToBytes_run (P := P) (v := .nilp) hX H hf hs hd hr h).op
            · obtain ⟨rfl, h3⟩ := convP_run (P := P) (w := w) hX hr h (fun ⟨e, g1, g2⟩ => h1 ⟨e, by rw [hs] at g1; exact Option.some.inj g1, by rw [hd] at g2; exact Option.some.inj g2⟩) (fun ⟨e, l, g1, g2⟩ => h2 ⟨e, l, by rw [hd] at g1; exact Option.some.inj g1, g2⟩)
              exact h3.op H
    · cases h
  case sliceToArrayPointer t x =>
    split at h
    · rename_i b o len cap esz n el ha hn
      split at h
      · rename_i hnl
        obtain ⟨h1, rfl⟩ := pureO_some h
        cases h1
        obtain ⟨a, c, hv, hlen, ⟨p, hp, hpa, _⟩, _⟩ := vrel_sl (ev ha)
        have := hpa (by omega); subst this
        refine PRun.op (m := Instr.arrayAt t (rho tmps x)) ⟨.pointer (some ⟨p.b, p.sh + o, none⟩), ?_, by simp only [vrel]; exact ⟨p, hp, rfl⟩⟩ H
        simp only [Instr.arrayAt, Sem.run_bind, run_und (hX.und _ _ hn), Result.andThen_ok, hv]
        rw [if_neg (by omega)]; rfl
      · cases h
    · cases h
  case makeInterface t x =>
    split at h
    · rename_i a ha
      split at h
      · cases h
      · rename_i d hd hni
        cases h
        exact (makeInterface_run (P := P) (w := w) hX (ev ha) hni (fun ms hm => by subst hm; exact hd ms rfl)).op H
      · cases h
    · cases h
  case makeFunc f a b =>
    split at h
    · rename_i g
      split at h
      · rename_i x y hx hy
        cases h
        have hx' := evals_rel hG E hx
        have hy' := evals_rel hG E hy
        refine PRun.op (m := Instr.makeFunc (.func g) (a.map (rho tmps)) (b.map (rho tmps))) ⟨.func (.func g) (a.map (rho tmps)) (b.map (rho tmps)), by simp [Instr.makeFunc], ?_⟩ H
        simp only [vrel]
        exact ⟨_, _, _, rfl, by simp [fnrel], by simpa using hx', by simpa using hy'⟩
      · cases h
    · cases h
  case makeMap t r =>
    split at h
    · cases h
      exact (makeMap_run (P := P) H hf).op
    · rename_i x
      split at h
      · rename_i k n kt et hx hu
        cases h
        have := (makeMap_run' (P := P) hX H hf (kn := k) (n := n) hu).op
        simp only [execOp, Option.map_some, vrel_int (ev hx)]
        exact this
      · cases h
  case makeSlice t l c =>
    split at h
    · rename_i kl l kc c elem hl hc hu
      split at h
      · rename_i i z hi hz
        split at h
        · rename_i hcond
          cases h
          have := (makeSlice_run (P := P) hX H hf (kl := kl) (kc := kc) hu hi hz hcond).op
          simp only [execOp, vrel_int (ev hl), vrel_int (ev hc)]
          exact this
        · cases h
      · cases h
    · cases h
  case slice t x lo hi mx =>
    split at h
    · rename_i v lo' hi' mx' hv hl hh hm
      obtain ⟨h1, rfl⟩ := pureO_some h
      exact (sliceA_run (w := w) hX (ev hv) (evalO_rel hG E hl) (evalO_rel hG E hh) (evalO_rel hG E hm) h1).op H
    · cases h
  case fieldAddr t x f =>
    split at h
    · rename_i a ha
      obtain ⟨h1, rfl⟩ := pureO_some h
      exact (fieldAddr_run (w := w) hX (ev ha) h1).op H
    · cases h
  case field t x f =>
    split at h
    · rename_i cs fs hc hu
      split at h
      · rename_i fd hfd
        obtain ⟨h1, rfl⟩ := pureO_some h
        exact (field_run (w := w) hX hu (ev hc) hfd h1).op H
      · cases h
    · cases h
  case indexAddr t x i =>
    split at h
    · rename_i a b ha hb
      obtain ⟨h1, rfl⟩ := pureO_some h
      exact (indexAddr_run (w := w) hX (ev ha) (ev hb) h1).op H
    · cases h
  case index t x i =>
    split at h
    · rename_i a b ha hb
      obtain ⟨h1, rfl⟩ := pureO_some h
      exact (index_run (w := w) hX (ev ha) (ev hb) h1).op H
    · cases h
  case lookup t m k ok =>
    split at h
    · rename_i a b ha hb
      obtain ⟨h1, rfl⟩ := pureO_some h
      exact (lookupA_run (P := P) hX H (ev ha) (ev hb) h1).op H
    · cases h
  case mapUpdate t m k x =>
    split at h
    · rename_i a b c ha hb hc
      obtain ⟨h1, rfl⟩ := unitO_some h
      exact unit_op (updateA_run (P := P) hX H (ev ha) (ev hb) (ev hc) h1)
    · cases h
  case insert t m k x =>
    split at h
    · rename_i a b c ha hb hc
      obtain ⟨h1, rfl⟩ := unitO_some h
      exact unit_op (updateA_run (P := P) hX H (ev ha) (ev hb) (ev hc) h1)
    · cases h
  case range t x =>
    split at h
    · rename_i b hb hu
      cases h
      exact (range_run (P := P) hX H hf hu (ev hb)).op
    · cases h
  case next it str =>
    cases str with
    | false => simp only [opA] at h; cases h
    | true =>
      simp only [opA] at h
      split at h
      · rename_i r hr
        split at h
        · rename_i b pos hg
          have := next_run (P := P) (ty := type) H (ev hr) hg
          cases b with
          | nil => cases h; exact this.op
          | cons c b => cases h; exact this.op
        · cases h
      · cases h
  case extract t i =>
    split at h
    · rename_i vs hvs
      obtain ⟨h1, rfl⟩ := pureO_some h
      exact (extract_run (P := P) (w := w) (ev hvs) h1).op H
    · cases h
  case call c =>
    obtain ⟨callee, args, argTypes⟩ := c
    cases callee with
    | value f => simp [isCallV] at hn
    | invoke r m => simp only at h; cases h
    | builtin b =>
      simp only at h
      split at h
      · rename_i vs hvs
        have hv := evals_rel hG E hvs
        have := builtinA_sound (P := P) (ty := type) (cs := args.map fun | .const _ => true | _ => false) hX H hf hv h
        have he : (args.toList.map (rho tmps)).toArray = args.map (rho tmps) := by
          apply Array.ext'; simp
        rw [he] at this
        exact this
      · cases h

end

end Go.Am
set_option linter.unusedSimpArgs false
set_option linter.unusedVariables false
set_option linter.unusedSectionVars false
namespace Go.Am
open Go
abbrev FW (r : Option Nat) : Fence := { Fence.wide with round := r }

section
variable [Stat]

/-- the marks among the deferred calls -/
def DF (n0 : Nat) (σ : Sg) (w : World) (ds : List Deferred) : Prop :=
  ∃ rs : List Nat, ds = rs.map (fun r => ({ target := .collected r, args := #[] } : Deferred)) ∧ rs.Nodup ∧ ∀ r ∈ rs, n0 ≤ r ∧ w.heap[r]? = some (.deferred (some [])) ∧ (∀ i p, σ i = some p → p.b ≠ r) ∧ σ.fz r = none

theorem DF.nil (n0 : Nat) (σ : Sg) (w : World) : DF n0 σ w [] := ⟨[], rfl, List.nodup_nil, fun _ h => by cases h⟩

theorem DF.good {n0 : Nat} {σ σ' : Sg} {s s' : St} {w w' : World} {ds : List Deferred} (h : DF n0 σ w ds) (g : Good σ s w σ' s' w') : DF n0 σ' w' ds := by
  obtain ⟨rs, e, hn, hr⟩ := h
  refine ⟨rs, e, hn, fun r hm => ?_⟩
  obtain ⟨h1, h2, h3, h4⟩ := hr r hm
  have hlt : r < w.heap.size := (Array.getElem?_eq_some_iff.1 h2).1
  have hno : ¬ Owns σ s r := fun ⟨i, p, b, hp, _, _, hb⟩ => h3 i p hp hb
  refine ⟨h1, by rw [g.ext.keep r hlt hno]; exact h2, fun i p hp hb => ?_, ?_⟩
  rotate_left
  · cases hz : σ'.fz r with
    | none => rfl
    | some o =>
      rcases g.ext.nfz r o hz with h5 | h5
      · rw [h4] at h5; cases h5
      · omega
  by_cases e : σ i = none
  · rcases g.news i p hp e with hk | hk
    · omega
    · exact hno (hb ▸ hk)
  · cases hq : σ i with
    | none => exact e hq
    | some q =>
      have := g.ext.le.p i q hq
      rw [hp] at this; cases this
      exact h3 i p hq hb

structure Inv (X : Cx) (σ : Sg) (s : St) (w : World) (n0 : Nat) (e : Env) (a : Act) : Prop where
  hr : HR σ s w
  fresh : Fresh σ s
  glob : GlobOk X σ
  env : erel σ e a.tmps
  df : DF n0 σ w a.defers
  n0 : n0 ≤ w.heap.size

def exRel : Out → Exit → Prop
  | .norm, .normal => True
  | .exit i, .exit j => i = j
  | .ret, .ret => True
  | _, _ => False

def After (X : Cx) (σ : Sg) (s : St) (w : World) (n0 : Nat) (a : Act) (e' : Env) (s' : St) (a' : Act) (w' : World) : Prop :=
  ∃ σ', Good σ s w σ' s' w' ∧ Inv X σ' s' w' n0 e' a' ∧ a'.tmps.size = a.tmps.size

def Post (X : Cx) (σ : Sg) (s : St) (w : World) (n0 : Nat) (a : Act) (out : Out) (e' : Env) (s' : St) : Exit → Act → World → Prop :=
  fun ex a' w' => exRel out ex ∧ After X σ s w n0 a e' s' a' w'

theorem GlobOk.mono {X : Cx} {σ τ : Sg} (h : Sg.le σ τ) (k : GlobOk X σ) : GlobOk X τ := fun g hg => by
  obtain ⟨n, hn, hb⟩ := k g hg
  refine ⟨n, h.p _ _ hn, fun b e => ?_⟩
  obtain ⟨h1, o, h2, h3⟩ := hb b e
  exact ⟨h1, o, h.z _ _ h2, h3.mono h.bare⟩

theorem After.refl {X : Cx} {σ : Sg} {s : St} {w : World} {n0 : Nat} {e : Env} {a : Act} (I : Inv X σ s w n0 e a) : After X σ s w n0 a e s a w := ⟨σ, Good.refl I.hr, I, rfl⟩

theorem After.trans {X : Cx} {σ σ1 : Sg} {s s1 s2 : St} {w w1 w2 : World} {n0 : Nat} {e2 : Env} {a a1 a2 : Act} (g : Good σ s w σ1 s1 w1) (hs : a1.tmps.size = a.tmps.size) (k : After X σ1 s1 w1 n0 a1 e2 s2 a2 w2) :
    After X σ s w n0 a e2 s2 a2 w2 := by
  obtain ⟨σ2, g2, i2, h2⟩ := k
  exact ⟨σ2, g.trans g2, i2, h2.trans hs⟩

theorem erel.put {σ : Sg} {e : Env} {tmps : Array Value} (h : erel σ e tmps) {d : Nat} (hd : d < tmps.size) {v : AV} {u : Value} (hv : vrel σ v u) : erel σ (Tr.set e d v) (tmps.setIfInBounds d u) := by
  intro t
  rw [Env.get_set]
  by_cases ht : d = t
  · subst ht
    rw [if_pos rfl]
    simp only [Array.getD_eq_getD_getElem?, Array.getElem?_setIfInBounds, hd, if_true, if_pos, Option.getD_some]
    exact hv
  · rw [if_neg ht]
    have := h t
    simp only [Array.getD_eq_getD_getElem?, Array.getElem?_setIfInBounds] at this ⊢
    rw [if_neg ht]
    exact this

def dstOk (m : Nat) (d : Option Tmp) : Prop := ∀ t, d = some t → t < m

theorem put_size (a : Act) (d : Option Tmp) (u : Value) : (a.put d u).tmps.size = a.tmps.size := by
  cases d <;> simp [Act.put]
theorem put_defers (a : Act) (d : Option Tmp) (u : Value) : (a.put d u).defers = a.defers := by
  cases d <;> simp [Act.put]

theorem erel_setDst {σ : Sg} {e : Env} {a : Act} (h : erel σ e a.tmps) {d : Option Tmp} (hd : dstOk a.tmps.size d) {v : AV} {u : Value} (hv : vrel σ v u) : erel σ (setDst e d v) (a.put d u).tmps := by
  cases d with
  | none => exact h
  | some d => exact h.put (hd d rfl) hv

theorem Inv.put {X : Cx} {σ σ' : Sg} {s s' : St} {w w' : World} {n0 : Nat} {e : Env} {a : Act} (I : Inv X σ s w n0 e a) (g : Good σ s w σ' s' w') {d : Option Tmp} (hd : dstOk a.tmps.size d) {v : AV} {u : Value} (hv : vrel σ' v u) :
    After X σ s w n0 a (setDst e d v) s' (a.put d u) w' :=
  ⟨σ', g, ⟨g.hr, g.fresh I.fresh, I.glob.mono g.ext.le, erel_setDst (I.env.mono g.ext.le) hd hv, by rw [put_defers]; exact I.df.good g, Nat.le_trans I.n0 g.ext.size⟩, put_size _ _ _⟩

theorem eval_eq_rho (a : Act) : a.eval = rho a.tmps := by
  funext x; cases x <;> rfl

theorem vrel_bool_inv {σ : Sg} {a : AV} {b : Bool} (h : vrel σ a (.bool b)) : a = .bool b := by
  cases a <;> simp only [vrel] at h <;> first
    | (injection h with h; subst h; rfl)
    | (cases h; done)
    | (obtain ⟨_, h, _⟩ := h; cases h; done)
    | (obtain ⟨_, _, h⟩ := h; cases h; done)
    | (obtain ⟨_, _, h, _⟩ := h; cases h; done)
    | (obtain ⟨_, _, _, h, _⟩ := h; cases h; done)
    | (obtain ⟨_, _, _, _, _, _, h, _⟩ := h; cases h; done)

theorem wanted_eq {σ : Sg} {e : Env} {tmps : Array Value} (h : erel σ e tmps) (ops : Array Oper) (o : Oper) : Region.wanted o (yielded ops tmps) = wantedA ops e o := by
  unfold Region.wanted wantedA
  cases hg : o.guard with
  | none => rfl
  | some g =>
    obtain ⟨j, want⟩ := g
    simp only [yielded]
    cases ho : ops[j]? with
    | none => simp
    | some oj =>
      cases hd : oj.dst with
      | none => simp [hd]
      | some d =>
        simp only [Option.bind_some, hd]
        have ht := h d
        rw [Array.getD_eq_getD_getElem?] at ht
        cases hv : tmps[d]? with
        | none =>
          rw [hv] at ht
          simp only [Option.getD_none] at ht
          cases ha : Env.get e d <;> rw [ha] at ht <;> simp only [vrel] at ht <;> first | rfl | (cases ht; done)
        | some v =>
          rw [hv] at ht
          simp only [Option.getD_some] at ht
          cases v with
          | bool b =>
            rw [vrel_bool_inv ht]
            show (some b == some want) = (b == want)
            cases b <;> cases want <;> rfl
          | _ =>
            cases ha : Env.get e d <;> rw [ha] at ht <;> simp only [vrel] at ht <;> first | rfl | (cases ht; done)

/-- how a callee ends -/
def FnPost (P : Program) (R : Value → World → Prop) : Result Next → Prop
  | .ok (.value v) w' => R v w'
  | .ok (.enter f args) w' => Calls P f args w' fun e w'' => ∃ v, e = .returned v ∧ R v w''
  | _ => False

def FnOk (X : Cx) (P : Program) (f : FuncId) (g : List AV → St → Option (AV × St)) : Prop :=
  ∀ args s v s' σ w (us : Array Value), g args s = some (v, s') → HR σ s w → Fresh σ s → GlobOk X σ → vrels σ args us.toList →
    FnPost P (fun u w' => ∃ σ', vrel σ' v u ∧ Good σ s w σ' s' w') ((callFunc f us).run P w)

structure Full (X : Cx) (P : Program) : Prop extends CxOk X P where
  stat : ∀ m c, Stat.ok m c ↔ ∃ n, n ≤ m ∧ okC X n c = true ∧ noRF c = true
  fok : ∀ f fn c, X.fn f = some fn → fn.body = some c → okC X fn.ntmps c = true
  nm : ∀ f fn, X.fn f = some fn → (fn.name == "runtime.NumGoroutine") = false
  ext : ∀ f g, X.ext f = some g → FnOk X P f g
  mixed : P.follows .mixedOrders = true
  gb : ∀ i b, X.gbase i = some b → b ≠ .gone

def Cok (X : Cx) (r : Option Nat) (m : Nat) (c : Code) : Prop := ∃ n, n ≤ m ∧ okC X n c = true ∧ (r.isSome = true → noRF c = true)

theorem callsIn_of {r : Option Nat} {n : Nat} {P : Program} {f : FuncId} {args : Array Value} {w : World} {R : Ending → World → Prop} (h : Calls P f args w R) : CallsIn (FW r) n P f args w R := by
  cases r with
  | none => exact callsIn_wide.2 h
  | some l => exact CallsIn.inRound l (callsIn_wide.2 h)

theorem callsIn_mono {F : Fence} {n : Nat} {P : Program} {f : FuncId} {args : Array Value} {w : World} {R R' : Ending → World → Prop} (h : CallsIn F n P f args w R) (hr : ∀ e w', R e w' → R' e w') : CallsIn F n P f args w R' :=
  ⟨h.1, fun cs hroom => let ⟨e, w', fr, r, s⟩ := h.2 cs hroom; ⟨e, w', fr, hr _ _ r, s⟩⟩

/-- What an operation comes to, with a callee walked. -/
theorem upon_of {X : Cx} {P : Program} {r : Option Nat} {o : Oper} {a : Act} {nxt : Act → World → Prop} {Q : Exit → Act → World → Prop} {m : Result Next} {R : Value → World → Prop} (h : FnPost P R m) (hn : ∀ v w', R v w' → nxt (a.put o.dst v) w') :
    o.uponIn (FW r) 0 P a nxt Q m := by
  unfold FnPost at h
  split at h
  · rw [Oper.uponIn_value]; exact hn _ _ h
  · rw [Oper.uponIn_enter]
    refine ⟨fun hd => (by cases hd), callsIn_mono (callsIn_of h) ?_⟩
    rintro e w' ⟨v, rfl, hv⟩
    exact hn _ _ hv
  · exact h.elim

theorem about_wide {r : Option Nat} {P : Program} {w : World} {o : Oper} {ρ : Operand → Value} : ∀ f, o.about P w ρ = some f → (FW r).fn f := fun _ _ => trivial

theorem wpIn_scope {F : Fence} {n : Nat} {P : Program} {Q : Exit → Act → World → Prop} {a : Act} {w : World} {c : Code} (h : c.wpIn F n P (Exit.noGoto Q) a w) : (Code.scope c).wpIn F n P Q a w := by
  intro b k cs hro hb hr
  have h0 : (lone (b.atR a (.code (.scope c) :: k)) cs w).fenced P F := fenced_calm hb hr rfl
  have hst : step P (lone (b.atR a (.code (.scope c) :: k)) cs w) = .next (lone (b.atR a (.code c :: .inScope c :: k)) cs w) := step_lone_go (by simp [stepG, stepG.exec, Frame.atR])
  have hst2 : ∀ a w, step P (lone (b.atR a (.inScope c :: k)) cs w) = .next (lone (b.atR a k) cs w) := fun a w => step_lone_go (by simp [stepG, stepG.exec, Frame.atR])
  obtain ⟨e, a₁, w₁, hq, harr⟩ := h b (.inScope c :: k) cs hro hb hr
  cases e with
  | normal => exact ⟨.normal, a₁, w₁, hq, .head h0 hst (StepsIn.trans harr (.one (fenced_calm hb hr rfl) (hst2 _ _)))⟩
  | exit id => 
    have hx : exitTo id (.inScope c :: k) = exitTo id k := by simp [exitTo]
    exact ⟨.exit id, a₁, w₁, hq, fun k' hk => .head h0 hst (harr.1 k' (by rw [hx]; exact hk)), fun hr' hk => let ⟨k₁, h1, h2⟩ := harr.2 hr' (by rw [hx]; exact hk); ⟨k₁, h1, .head h0 hst h2⟩⟩
  | goto l => exact hq.elim
  | ret => exact ⟨.ret, a₁, w₁, hq, .of_steps (b := b) (k := k) (cs := cs) (e := .ret) (.one h0 hst) harr⟩
  | panic ch => exact ⟨.panic ch, a₁, w₁, hq, .of_steps (b := b) (k := k) (cs := cs) (e := .panic ch) (.one h0 hst) harr⟩
  | outgrown => exact ⟨.outgrown, a₁, w₁, hq, .of_steps (b := b) (k := k) (cs := cs) (e := .outgrown) (.one h0 hst) harr⟩

/-- a loop, from the head of its body on -/
def LoopRuns (F : Fence) (n : Nat) (P : Program) (c : Code) (Q : Exit → Act → World → Prop) (a : Act) (w : World) : Prop :=
  ∀ (b : Frame) (k : List Item) (cs : List Frame), b.roundOf = F.round → F.fn b.fn → F.room (cs.length + 1 + n) →
    ∃ e a' w', Q e a' w' ∧ ArrivesIn (Machine.fenced P F) P (lone (b.atR a (.code c :: .inLoop c :: k)) cs w) b k cs e a' w'

def Goes (F : Fence) (n : Nat) (P : Program) (c : Code) (Q : Exit → Act → World → Prop) (a : Act) (w : World) : Prop :=
  match c with
  | .loop b => LoopRuns F n P b Q a w
  | c => c.wpIn F n P Q a w

theorem Goes.wpIn {F : Fence} {n : Nat} {P : Program} {c : Code} {Q : Exit → Act → World → Prop} {a : Act} {w : World} (h : Goes F n P c Q a w) : c.wpIn F n P Q a w := by
  unfold Goes at h
  split at h
  · intro b k cs hro hb hr
    obtain ⟨e, a', w', hq, harr⟩ := h b k cs hro hb hr
    exact ⟨e, a', w', hq, .of_steps (.one (fenced_calm hb hr rfl) stepR_loop) harr⟩
  · exact h

theorem loopRuns_of {F : Fence} {n : Nat} {P : Program} {Q : Exit → Act → World → Prop} {a : Act} {w : World} {c : Code} (h : c.wpIn F n P (Exit.then (LoopRuns F n P c Q) Q) a w) : LoopRuns F n P c Q a w := by
  intro b k cs hro hb hr
  obtain ⟨e, a₁, w₁, hq, harr⟩ := h b (.inLoop c :: k) cs hro hb hr
  cases e with
  | normal =>
    obtain ⟨e2, a2, w2, hq2, harr2⟩ := hq b k cs hro hb hr
    exact ⟨e2, a2, w2, hq2, .of_steps (StepsIn.trans harr (.one (fenced_calm hb hr rfl) stepR_inLoop)) harr2⟩
  | exit id => exact ⟨_, a₁, w₁, hq, .pass (x := .inLoop c) rfl (fun _ _ => .inl (by simp)) harr⟩
  | goto l => exact ⟨_, a₁, w₁, hq, .pass (x := .inLoop c) rfl (fun _ _ => .inl (by simp)) harr⟩
  | ret => exact ⟨_, a₁, w₁, hq, .pass (x := .inLoop c) rfl (fun _ _ => .inl (by simp)) harr⟩
  | panic ch => exact ⟨_, a₁, w₁, hq, .pass (x := .inLoop c) rfl (fun _ _ => .inl (by simp)) harr⟩
  | outgrown => exact ⟨_, a₁, w₁, hq, .pass (x := .inLoop c) rfl (fun _ _ => .inl (by simp)) harr⟩

def ExOk (X : Cx) (P : Program) (ex : Ex) : Prop :=
  ∀ c e s out e' s', ex c e s = some (out, e', s') → ∀ r n0 a w σ, Cok X r a.tmps.size c → Inv X σ s w n0 e a → Goes (FW r) 0 P c (Post X σ s w n0 a out e' s') a w

end
end Go.Am
set_option linter.unusedSimpArgs false
set_option linter.unusedVariables false
set_option linter.unusedSectionVars false
namespace Go.Am
open Go
section
variable [Stat]

theorem HR.congr {σ : Sg} {s t : St} {w : World} (H : HR σ s w) (h : ∀ i, s.look i = t.look i) : HR σ t w :=
  ⟨H.lt, fun i p b hp hb => H.blk i p b hp (by rw [h]; exact hb), fun i j p q b c hp hq hb hc he => H.inj i j p q b c hp hq (by rw [h]; exact hb) (by rw [h]; exact hc) he, fun c o hc => ⟨(H.fz c o hc).1, fun ⟨i, p, b, h1, h2, h3, h4⟩ => (H.fz c o hc).2 ⟨i, p, b, h1, by rw [h]; exact h2, h3, h4⟩⟩⟩

theorem Good.congr {σ σ' : Sg} {s s' t : St} {w w' : World} (g : Good σ s w σ' s' w') (h : ∀ i, s'.look i = t.look i) (hn : t.next = s'.next) (hb : t.base = s'.base) : Good σ s w σ' t w' where
  hr := g.hr.congr h
  ext := { le := g.ext.le, nfz := g.ext.nfz, size := g.ext.size, keep := g.ext.keep, os := g.ext.os, tape := g.ext.tape, output := g.ext.output,
           owns := fun c hc ⟨i, p, b, h1, h2, h3, h4⟩ => g.ext.owns c hc ⟨i, p, b, h1, by rw [h]; exact h2, h3, h4⟩ }
  dom := fun i hi => g.dom i (by rw [hn] at hi; exact hi)
  next := by rw [hn]; exact g.next
  dead := fun i hi hl => by rw [← h]; exact g.dead i hi hl
  news := g.news
  glob := by rw [hb]; exact g.glob

theorem putput_look (s : St) (l : Nat) (b : Blk) (i : Nat) : ((s.put l b).put l .gone).look i = (s.put l .gone).look i := by
  rw [St.look_put, St.look_put, St.look_put]
  by_cases h : l = i <;> simp [h]

/-- A concrete block more that nobody of the abstract heap stands for. -/
theorem Good.alloc0 {σ : Sg} {s : St} {w : World} (H : HR σ s w) (o : Obj) : Good σ s w σ s (w.alloc o) where
  hr := ⟨fun i p h => by have := H.lt i p h; simp; omega, fun i p b hp hb => by
      obtain ⟨o', ho, hr⟩ := H.blk i p b hp hb
      have := H.lt i p hp
      exact ⟨o', by simp only [World.alloc]; rw [Array.getElem?_push, if_neg (by omega)]; exact ho, hr⟩, H.inj, fun c o' hc => by
      obtain ⟨h1, h2⟩ := H.fz c o' hc
      have hlt : c < w.heap.size := (Array.getElem?_eq_some_iff.1 h1).1
      exact ⟨by simp only [World.alloc]; rw [Array.getElem?_push, if_neg (by omega)]; exact h1, h2⟩⟩
  ext := ⟨Sg.le_refl _, fun _ _ h => .inl h, by simp, fun c hc _ => by simp only [World.alloc]; rw [Array.getElem?_push, if_neg (by omega)], fun _ _ h => h, rfl, rfl, rfl⟩
  dom := fun _ _ => rfl
  next := Nat.le_refl _
  dead := fun _ _ h => h
  news := fun i p h k => by rw [k] at h; cases h
  glob := rfl

/-- A mark taken off: the block of the deferred calls is no block of the abstract heap and was made since. -/
theorem Good.unmark {σ σ' : Sg} {s s' : St} {w w' : World} (g : Good σ s w σ' s' w') {r : Nat} (hr : w.heap.size ≤ r) (hno : ∀ i p, σ' i = some p → p.b ≠ r) (hz : σ'.fz r = none) (o : Obj) :
    Good σ s w σ' s' { w' with heap := w'.heap.setIfInBounds r o } where
  hr := ⟨fun i p h => by have := g.hr.lt i p h; simpa using this, fun i p b hp hb => by
      obtain ⟨o', ho, hr⟩ := g.hr.blk i p b hp hb
      have := hno i p hp
      exact ⟨o', by show (w'.heap.setIfInBounds r o)[p.b]? = some o'; rw [Array.getElem?_setIfInBounds, if_neg (fun h => this h.symm)]; exact ho, hr⟩, g.hr.inj, fun c o' hc => by
      obtain ⟨h1, h2⟩ := g.hr.fz c o' hc
      have hne : r ≠ c := fun e => by subst e; rw [hz] at hc; cases hc
      exact ⟨by show (w'.heap.setIfInBounds r o)[c]? = some o'; rw [Array.getElem?_setIfInBounds, if_neg hne]; exact h1, h2⟩⟩
  ext := ⟨g.ext.le, g.ext.nfz, by simpa using g.ext.size, fun c hc hn => by
      show (w'.heap.setIfInBounds r o)[c]? = _
      rw [Array.getElem?_setIfInBounds, if_neg (by omega)]; exact g.ext.keep c hc hn, g.ext.owns, g.ext.os, g.ext.tape, g.ext.output⟩
  dom := g.dom
  next := g.next
  dead := g.dead
  news := g.news
  glob := g.glob

variable {X : Cx} {P : Program}

theorem results1 (hX : CxOk X P) {σ : Sg} {s : St} {w : World} (H : HR σ s w) {e : Env} {tmps : Array Value} (E : erel σ e tmps) {r : ResultVar} {v : AV} (h : resultA X e s r = some v) :
    ∃ u, (match r with | .tmp t => pure (tmps.getD t Go.undef) | .cell a t => do loadVar t (← asAddr (tmps.getD a Go.undef)) : Sem Value).run P w = .ok u w ∧ vrel σ v u := by
  cases r with
  | tmp t => simp only [resultA] at h; cases h; exact ⟨_, rfl, E t⟩
  | cell a t =>
    simp only [resultA] at h
    have hrel := E a
    obtain ⟨u, h1, h2⟩ := loadA_run (P := P) hX H hrel h
    cases ha : Env.get e a <;> rw [ha] at h <;> simp only [loadA] at h <;> try (cases h; done)
    all_goals rw [ha] at hrel
    all_goals
      have hv : ∃ ad, tmps.getD a Go.undef = .pointer (some ad) := by
        first
          | (obtain ⟨p, hp, hv⟩ := vrel_ptr hrel; exact ⟨_, hv⟩)
          | (obtain ⟨_, _, _, _, _, _, hv, _⟩ := vrel_fp hrel; exact ⟨_, hv⟩)
      obtain ⟨ad, hv⟩ := hv
      refine ⟨u, ?_, h2⟩
      show Sem.run P (do loadVar t (← asAddr (tmps.getD a Go.undef))) w = _
      rw [hv] at h1 ⊢
      simp only [Instr.loadAt, Instr.sureAddr, Sem.run_bind, Sem.run_pure, Result.andThen_ok] at h1
      simp only [asAddr, Sem.run_bind, Sem.run_pure, Result.andThen_ok]
      exact h1

theorem resultsL_run (hX : CxOk X P) {σ : Sg} {s : St} {w : World} (H : HR σ s w) {e : Env} {tmps : Array Value} (E : erel σ e tmps) : ∀ {l : List ResultVar} {vs : List AV}, resultsL X e s l = some vs →
    ∃ us, (l.mapM fun r => (match r with | .tmp t => pure (tmps.getD t Go.undef) | .cell a t => do loadVar t (← asAddr (tmps.getD a Go.undef)) : Sem Value)).run P w = .ok us w ∧ vrels σ vs us
  | [], vs, h => by simp only [resultsL] at h; cases h; exact ⟨[], rfl, by simp [vrels]⟩
  | r :: l, vs, h => by
    simp only [resultsL] at h
    split at h
    · rename_i v vs' h1 h2
      cases h
      obtain ⟨u, g1, g2⟩ := results1 (P := P) hX H E h1
      obtain ⟨us, g3, g4⟩ := resultsL_run hX H E h2
      refine ⟨u :: us, ?_, by simp only [vrels]; exact ⟨_, _, rfl, g2, g4⟩⟩
      rw [List.mapM_cons, Sem.run_bind, g1, Result.andThen_ok, Sem.run_bind, g3, Result.andThen_ok, Sem.run_pure]
    · cases h

theorem results_run (hX : CxOk X P) {σ : Sg} {s : St} {w : World} (H : HR σ s w) {e : Env} {tmps : Array Value} (E : erel σ e tmps) {fn : Func} {v : AV} (h : resultsA X fn e s = some v) :
    ∃ u, (results fn tmps).run P w = .ok u w ∧ vrel σ v u := by
  unfold resultsA at h
  have key : ∀ vs, resultsL X e s fn.results.toList = some vs → ∃ us : Array Value, (fn.results.mapM fun r => (match r with | .tmp t => pure (tmps.getD t Go.undef) | .cell a t => do loadVar t (← asAddr (tmps.getD a Go.undef)) : Sem Value)).run P w = .ok us w ∧ vrels σ vs us.toList := by
    intro vs hvs
    obtain ⟨us, h1, h2⟩ := resultsL_run (P := P) hX H E hvs
    exact ⟨us.toArray, run_mapM_array _ _ _ h1, by simpa using h2⟩
  split at h
  · rename_i v' hv
    cases h
    obtain ⟨us, h1, h2⟩ := key _ hv
    simp only [vrels] at h2
    obtain ⟨u, y, hu, hr, rfl⟩ := h2
    have : us = #[u] := by apply Array.ext'; rw [hu]
    subst this
    refine ⟨u, ?_, hr⟩
    unfold results
    rw [Sem.run_bind]
    refine (congrArg (fun m => Result.andThen m _) h1).trans ?_
    simp
  · rename_i vs hne hv
    cases h
    obtain ⟨us, h1, h2⟩ := key _ hv
    have hl : us.size ≠ 1 := by
      intro hs
      have := h2.length
      have h3 : us.toList.length = us.size := rfl
      rw [h3, hs] at this
      match vs, this with
      | [x], _ => exact hne x rfl
    refine ⟨.tuple us, ?_, by simp only [vrel]; exact ⟨_, rfl, h2⟩⟩
    unfold results
    rw [Sem.run_bind]
    refine (congrArg (fun m => Result.andThen m _) h1).trans ?_
    simp [hl]
  · cases h

/-- the temporaries at a function's entry -/
theorem bindArgs_rel {σ : Sg} : ∀ (l : List AV) (us : List Value) (i : Nat) (e : Env) (f : Nat → Value), vrels σ l us → (∀ t : Nat, t < i ∨ i + l.length ≤ t → vrel σ (Env.get e t) (f t)) →
    ∀ t : Nat, vrel σ (Env.get (bindArgs i l e) t) (if i ≤ t ∧ t < i + l.length then (us[t - i]?).getD Go.undef else f t)
  | [], us, i, e, f, h, he, t => by
    simp only [bindArgs, List.length_nil, Nat.add_zero]
    rw [if_neg (by omega)]
    exact he t (by simp; omega)
  | v :: l, us, i, e, f, h, he, t => by
    simp only [vrels] at h
    obtain ⟨u, us, rfl, h1, h2⟩ := h
    simp only [bindArgs]
    have := bindArgs_rel l us (i + 1) (Tr.set e i v) (fun t => if t = i then u else f t) h2 (fun (t : Nat) ht => by
      rw [Env.get_set]
      by_cases hti : i = t
      · subst hti; simp only [if_pos]; exact h1
      · rw [if_neg hti, if_neg (fun h => hti h.symm)]
        exact he t (by simp only [List.length_cons]; omega)) t
    simp only [List.length_cons]
    by_cases c : i + 1 ≤ t ∧ t < i + 1 + l.length
    · rw [if_pos c] at this
      rw [if_pos (by omega)]
      rw [show t - i = (t - (i + 1)) + 1 from by omega, List.getElem?_cons_succ]
      exact this
    · rw [if_neg c] at this
      by_cases ht : t = i
      · subst ht
        rw [if_pos rfl] at this
        rw [if_pos (by omega)]
        simpa using this
      · rw [if_neg ht] at this
        rw [if_neg (by omega)]
        exact this

theorem enter_rel {σ : Sg} {l : List AV} {us : Array Value} (h : vrels σ l us.toList) (k : Nat) : erel σ (bindArgs 0 l .nil) (us ++ Array.replicate k Go.undef) := by
  intro (t : Nat)
  have := bindArgs_rel l us.toList 0 .nil (fun _ => Go.undef) h (fun t _ => by
    show vrel σ (Env.get (Tr.nil : Tr AV) t) Go.undef
    simp only [Env.get, Tr.get_nil]; exact undef_rel) t
  have hl := h.length
  have hl : l.length = us.size := hl
  simp only [Nat.zero_le, true_and, Nat.zero_add, Nat.sub_zero] at this
  rw [Array.getD_eq_getD_getElem?, Array.getElem?_append]
  by_cases c : t < l.length
  · rw [if_pos c] at this
    rw [if_pos (by omega)]
    simpa using this
  · rw [if_neg c] at this
    rw [if_neg (by omega)]
    rw [Array.getElem?_replicate]
    split <;> simpa using this

end
end Go.Am
set_option linter.unusedSimpArgs false
set_option linter.unusedVariables false
set_option linter.unusedSectionVars false
namespace Go.Am
open Go
section
variable [Stat]
variable {X : Cx} {P : Program}

mutual
theorem still_rel {σ : Sg} : ∀ {v : AV} {u : Value}, still v = true → vrel σ v u → vrel σ.bare v u
  | .bool _, _, _, k | .int _ _, _, _, k | .flt _ _, _, _, k | .str _, _, _, k | .nilp, _, _, k | .nils, _, _, k | .nilm, _, _, k | .nilfn, _, _, k | .nili, _, _, k => by simpa only [vrel] using k
  | .ptr .., _, h, _ => by simp [still] at h
  | .sl .., _, h, _ => by simp [still] at h
  | .map _, _, h, _ => by simp [still] at h
  | .fn f x y, u, h, k => by
    simp only [still, Bool.and_eq_true] at h
    simp only [vrel] at k ⊢
    obtain ⟨f', x', y', e, h1, h2, h3⟩ := k
    refine ⟨f', x', y', e, ?_, stills_rel h.1.2 h2, stills_rel h.2 h3⟩
    cases f <;> simp only [Bool.false_eq_true, false_and, and_false] at h
    simpa only [fnrel] using h1
  | .iface t x, u, h, k => by
    simp only [still] at h
    simp only [vrel] at k ⊢
    obtain ⟨y, e, r⟩ := k
    exact ⟨y, e, still_rel h r⟩
  | .agg cs, u, h, k => by
    simp only [still] at h
    simp only [vrel] at k ⊢
    obtain ⟨y, e, r⟩ := k
    exact ⟨y, e, stills_rel h r⟩
  | .tup cs, u, h, k => by
    simp only [still] at h
    simp only [vrel] at k ⊢
    obtain ⟨y, e, r⟩ := k
    exact ⟨y, e, stills_rel h r⟩
  | .fz es, u, h, k => by
    simp only [vrel] at k ⊢
    exact k
  | .fp _ _, u, h, k => by
    simp only [vrel] at k ⊢
    exact k
  | .fm _ _, u, h, k => by
    simp only [vrel] at k ⊢
    exact k
theorem stills_rel {σ : Sg} : ∀ {v : List AV} {u : List Value}, stills v = true → vrels σ v u → vrels σ.bare v u
  | [], _, _, k => by simpa only [vrels] using k
  | a :: x, u, h, k => by
    simp only [stills, Bool.and_eq_true] at h
    simp only [vrels] at k ⊢
    obtain ⟨v, y, e, h1, h2⟩ := k
    exact ⟨v, y, e, still_rel h.1 h1, stills_rel h.2 h2⟩
end

mutual
theorem flat_rel {σ τ : Sg} : ∀ {v : AV} {u : Value}, flat v = true → vrel σ v u → vrel τ v u
  | .bool _, _, _, k | .int _ _, _, _, k | .flt _ _, _, _, k | .str _, _, _, k | .nilp, _, _, k | .nils, _, _, k | .nilm, _, _, k | .nilfn, _, _, k | .nili, _, _, k => by simpa only [vrel] using k
  | .ptr .., _, h, _ => by simp [flat] at h
  | .sl .., _, h, _ => by simp [flat] at h
  | .map _, _, h, _ => by simp [flat] at h
  | .fn f x y, u, h, k => by
    simp only [flat, Bool.and_eq_true] at h
    simp only [vrel] at k ⊢
    obtain ⟨f', x', y', e, h1, h2, h3⟩ := k
    refine ⟨f', x', y', e, ?_, flats_rel h.1.2 h2, flats_rel h.2 h3⟩
    cases f <;> simp only [Bool.false_eq_true, false_and, and_false] at h
    simpa only [fnrel] using h1
  | .iface t x, u, h, k => by
    simp only [flat] at h
    simp only [vrel] at k ⊢
    obtain ⟨y, e, r⟩ := k
    exact ⟨y, e, flat_rel h r⟩
  | .agg cs, u, h, k => by
    simp only [flat] at h
    simp only [vrel] at k ⊢
    obtain ⟨y, e, r⟩ := k
    exact ⟨y, e, flats_rel h r⟩
  | .tup cs, u, h, k => by
    simp only [flat] at h
    simp only [vrel] at k ⊢
    obtain ⟨y, e, r⟩ := k
    exact ⟨y, e, flats_rel h r⟩
  | .fz es, u, h, k => by simp [flat] at h
  | .fp _ _, u, h, k => by simp [flat] at h
  | .fm _ _, u, h, k => by simp [flat] at h
theorem flats_rel {σ τ : Sg} : ∀ {v : List AV} {u : List Value}, flats v = true → vrels σ v u → vrels τ v u
  | [], _, _, k => by simpa only [vrels] using k
  | a :: x, u, h, k => by
    simp only [flats, Bool.and_eq_true] at h
    simp only [vrels] at k ⊢
    obtain ⟨v, y, e, h1, h2⟩ := k
    exact ⟨v, y, e, flat_rel h.1 h1, flats_rel h.2 h2⟩
end

theorem mapO_rel {σ τ : Sg} {f : AV → Option AV} (hf : ∀ a b u, f a = some b → vrel σ a u → vrel τ b u) : ∀ {l r : List AV} {us : List Value}, mapO f l = some r → vrels σ l us → vrels τ r us
  | [], r, us, h, k => by simp only [mapO] at h; cases h; simpa only [vrels] using k
  | x :: l, r, us, h, k => by
    simp only [mapO] at h
    split at h
    · rename_i y r' h1 h2
      cases h
      simp only [vrels] at k ⊢
      obtain ⟨v, z, e, k1, k2⟩ := k
      exact ⟨v, z, e, hf _ _ _ h1 k1, mapO_rel hf h2 k2⟩
    · cases h

/-- the elements' values -/
def chunksV (agg : Bool) (n : Nat) : Nat → List Value → List Value
  | 0, _ => []
  | k + 1, l => (match agg, l with | false, x :: _ => x | _, _ => .agg (l.take n).toArray) :: chunksV agg n k (l.drop n)

theorem chunks_rel {σ : Sg} {ag : Bool} {n : Nat} (hn : n ≠ 0) (ha : ag = false → n = 1) : ∀ (k : Nat) {r : List AV} {vs : List Value}, vrels σ r vs → r.length = k * n → (ag = false → r.all noAgg = true) →
    vrels σ (chunksA ag n k r) (chunksV ag n k vs) ∧ (chunksV ag n k vs).flatMap (fun u => u.cells.toList) = vs ∧ (∀ u ∈ chunksV ag n k vs, u.cells.size = n) ∧ (chunksV ag n k vs).length = k
  | 0, r, vs, h, hl, _ => by
    have : r = [] := by apply List.length_eq_zero_iff.1; simpa using hl
    subst this
    simp only [vrels] at h; subst h
    simp [chunksA, chunksV, vrels]
  | k + 1, r, vs, h, hl, hno => by
    have hll := h.length
    have hdl : (r.drop n).length = k * n := by rw [List.length_drop, hl, Nat.add_mul]; omega
    obtain ⟨i1, i2, i3, i4⟩ := chunks_rel hn ha k (h.drop n) hdl (fun e => by
      have := hno e
      rw [List.all_eq_true] at this ⊢
      exact fun x hx => this x (List.mem_of_mem_drop hx))
    have hnl : n ≤ r.length := by rw [hl, Nat.add_mul]; omega
    have htake := h.take n
    have hlen : (vs.take n).length = n := by rw [List.length_take]; omega
    cases ag with
    | true =>
      simp only [chunksA, chunksV, vrels, List.flatMap_cons, List.length_cons]
      refine ⟨⟨_, _, rfl, by simp only [vrel]; exact ⟨_, rfl, htake⟩, i1⟩, ?_, ?_, by rw [i4]⟩
      · rw [i2]; simp [Value.cells]
      · intro u hu
        rcases List.mem_cons.1 hu with rfl | hu
        · simp only [Value.cells]; simpa using hlen
        · exact i3 u hu
    | false =>
      have hn1 := ha rfl
      subst hn1
      cases r with
      | nil => simp at hnl
      | cons x r =>
        simp only [vrels] at h
        obtain ⟨v, y, rfl, h1, h2⟩ := h
        have hna : noAgg x = true := by have := hno rfl; simp only [List.all_cons, Bool.and_eq_true] at this; exact this.1
        have hc := (cells_of_noAgg h1 hna).1
        simp only [chunksA, chunksV, vrels, List.flatMap_cons, List.length_cons] at i1 i2 i3 ⊢
        refine ⟨⟨_, _, rfl, h1, i1⟩, ?_, ?_, by rw [i4]⟩
        · rw [i2, hc]; simp
        · intro u hu
          rcases List.mem_cons.1 hu with rfl | hu
          · rw [hc]; rfl
          · exact i3 u hu

/-- what is written out stands for the value as long as nobody writes there -/
theorem frz_rel {σ τ : Sg} {s : St} {w : World} (H : HR σ s w) (hz : ∀ b o, σ.fz b = some o → τ.fz b = some o) (ho : ∀ i p b o, σ i = some p → s.look i = some b → b.own = true → w.heap[p.b]? = some o → τ.fz p.b = some o) :
    ∀ (d : Nat) (v v' : AV) (u : Value), frz X s d v = some v' → vrel σ v u → vrel τ.bare v' u
  | 0, v, v', u, h, _ => by simp [frz] at h
  | d + 1, v, v', u, h, k => by
    have ih := frz_rel H hz ho d
    have hle : Sg.le σ.bare τ.bare := ⟨fun _ _ h => by simp [Sg.bare] at h, hz⟩
    have same : still v = true → vrel τ.bare v u := fun hs => vrel.mono hle _ _ (still_rel hs k)
    cases v with
    | ptr b o =>
      simp only [frz] at h
      split at h
      · rename_i c e lo hi hg
        split at h
        · rename_i c' hc'
          cases h
          obtain ⟨p, hp, rfl⟩ := vrel_ptr k
          have hl := St.look_some hg (by simp)
          obtain ⟨cc, fz, h1, h2, h3, h4, _⟩ := H.cells hp hl
          have hfz := ho _ _ _ _ hp hl rfl h1
          obtain ⟨vs, r1, r2⟩ := H.row (s := s) (c := c) hp (by simp [St.cells, hg]) c 0 (fun i a ha => by simpa using ha)
          simp only [vrel]
          refine ⟨p.b, p.sh, vs, cc, e, fz, rfl, hfz, mapO_rel ih hc' r1, fun i u hu => ?_⟩
          have := r2 i u hu
          rw [cell_of_block h1] at this
          simpa using this
        · cases h
      · cases h
    | sl b o len cap esz =>
      simp only [frz] at h
      split at h
      · rename_i c e lo hi hg
        split at h
        · rename_i r ag n hr hag hs
          split at h
          · rename_i hc
            obtain ⟨rfl, hn, hcond⟩ := hc
            split at h
            · rename_i es hes
              cases h
              obtain ⟨a, k', rfl, hlen, ⟨p, hp, hat, _⟩, _⟩ := vrel_sl k
              have hl := St.look_some hg (by simp)
              obtain ⟨cc, fz, h1, h2, h3, h4, _⟩ := H.cells hp hl
              have hfz := ho _ _ _ _ hp hl rfl h1
              obtain ⟨vs, r1, r2⟩ := H.row (s := s) (c := c) hp (by simp [St.cells, hg]) r o (fun i a ha => grab_get hr ha)
              have hrl := (grab_spec hr).1
              obtain ⟨q1, q2, q3, q4⟩ := chunks_rel hn (fun e => (hcond e).1) len r1 hrl (fun e => (hcond e).2)
              have q5 := mapO_rel ih hes q1
              have hesl : es.length = len := by rw [q5.length, q4]
              simp only [vrel]
              refine ⟨a, k', chunksV ag esz len vs, by rw [hesl], by omega, q5, ?_⟩
              by_cases hl0 : len = 0
              · subst hl0; exact .inl rfl
              · right
                have := hat (by omega); subst this
                refine ⟨rfl, cc, e, fz, esz, hfz, hn, q3, fun i v hv => ?_⟩
                rw [q2] at hv
                have := r2 i v hv
                rw [cell_of_block h1] at this
                exact this
            · cases h
          · cases h
        · cases h
      · cases h
    | map r =>
      simp only [frz] at h
      split at h
      · rename_i es hg
        split at h
        · rename_i ks vs hk hv
          cases h
          obtain ⟨p, hp, rfl⟩ := vrel_map k
          obtain ⟨ces, clock, g1, g2⟩ := H.map hp hg
          have hfz := ho _ _ _ _ hp (St.look_some hg (by simp)) rfl g1
          have key : ∀ (es : List (AV × AV)) (l : List MapEntry), entriesRel σ es l → vrels σ (es.map (·.1)) (l.map MapEntry.key) ∧ vrels σ (es.map (·.2)) (l.map MapEntry.val) := by
            intro es
            induction es with
            | nil => intro l hl; simp only [entriesRel] at hl; subst hl; simp [vrels]
            | cons a es ihe =>
              intro l hl
              obtain ⟨x, y⟩ := a
              simp only [entriesRel] at hl
              obtain ⟨m, r, rfl, e1, e2, e3⟩ := hl
              obtain ⟨j1, j2⟩ := ihe r e3
              simp only [List.map_cons, vrels]
              exact ⟨⟨_, _, rfl, e1, j1⟩, ⟨_, _, rfl, e2, j2⟩⟩
          obtain ⟨j1, j2⟩ := key _ _ g2
          simp only [vrel]
          exact ⟨p.b, ces, clock, rfl, hfz, mapO_rel ih hk j1, mapO_rel ih hv j2⟩
        · cases h
      · cases h
    | fn f x y =>
      simp only [frz] at h
      split at h
      · rename_i g
        split at h
        · rename_i x' y' hx hy
          cases h
          simp only [vrel] at k ⊢
          obtain ⟨f', x1, y1, e, h1, h2, h3⟩ := k
          simp only [fnrel] at h1 ⊢
          exact ⟨f', x1, y1, e, h1, mapO_rel ih hx h2, mapO_rel ih hy h3⟩
        · cases h
      · cases h
    | iface t x =>
      simp only [frz] at h
      split at h
      · rename_i x' hx
        cases h
        simp only [vrel] at k ⊢
        obtain ⟨y, e, r⟩ := k
        exact ⟨y, e, ih _ _ _ hx r⟩
      · cases h
    | agg cs =>
      simp only [frz] at h
      split at h
      · rename_i x' hx
        cases h
        simp only [vrel] at k ⊢
        obtain ⟨y, e, r⟩ := k
        exact ⟨y, e, mapO_rel ih hx r⟩
      · cases h
    | tup cs =>
      simp only [frz] at h
      split at h
      · rename_i x' hx
        cases h
        simp only [vrel] at k ⊢
        obtain ⟨y, e, r⟩ := k
        exact ⟨y, e, mapO_rel ih hx r⟩
      · cases h
    | _ => simp only [frz] at h; cases h; exact same rfl

/-- the same, where all of it is of the call's own making -/
theorem frzN_rel {σ τ : Sg} {s : St} {w : World} (H : HR σ s w) (ho : ∀ i p b o, σ i = some p → s.look i = some b → b.own = true → w.heap[p.b]? = some o → τ.fz p.b = some o) :
    ∀ (d : Nat) (v v' : AV) (u : Value), frzN X s d v = some v' → vrel σ v u → vrel τ.bare v' u
  | 0, v, v', u, h, _ => by simp [frzN] at h
  | d + 1, v, v', u, h, k => by
    have ih := frzN_rel H ho d
    have same : flat v = true → vrel τ.bare v u := fun hs => flat_rel hs k
    cases v with
    | ptr b o =>
      simp only [frzN] at h
      split at h
      · rename_i c e lo hi hg
        split at h
        · rename_i c' hc'
          cases h
          obtain ⟨p, hp, rfl⟩ := vrel_ptr k
          have hl := St.look_some hg (by simp)
          obtain ⟨cc, fz, h1, h2, h3, h4, _⟩ := H.cells hp hl
          have hfz := ho _ _ _ _ hp hl rfl h1
          obtain ⟨vs, r1, r2⟩ := H.row (s := s) (c := c) hp (by simp [St.cells, hg]) c 0 (fun i a ha => by simpa using ha)
          simp only [vrel]
          refine ⟨p.b, p.sh, vs, cc, e, fz, rfl, hfz, mapO_rel ih hc' r1, fun i u hu => ?_⟩
          have := r2 i u hu
          rw [cell_of_block h1] at this
          simpa using this
        · cases h
      · cases h
    | sl b o len cap esz =>
      simp only [frzN] at h
      split at h
      · rename_i c e lo hi hg
        split at h
        · rename_i r ag n hr hag hs
          split at h
          · rename_i hc
            obtain ⟨rfl, hn, hcond⟩ := hc
            split at h
            · rename_i es hes
              cases h
              obtain ⟨a, k', rfl, hlen, ⟨p, hp, hat, _⟩, _⟩ := vrel_sl k
              have hl := St.look_some hg (by simp)
              obtain ⟨cc, fz, h1, h2, h3, h4, _⟩ := H.cells hp hl
              have hfz := ho _ _ _ _ hp hl rfl h1
              obtain ⟨vs, r1, r2⟩ := H.row (s := s) (c := c) hp (by simp [St.cells, hg]) r o (fun i a ha => grab_get hr ha)
              have hrl := (grab_spec hr).1
              obtain ⟨q1, q2, q3, q4⟩ := chunks_rel hn (fun e => (hcond e).1) len r1 hrl (fun e => (hcond e).2)
              have q5 := mapO_rel ih hes q1
              have hesl : es.length = len := by rw [q5.length, q4]
              simp only [vrel]
              refine ⟨a, k', chunksV ag esz len vs, by rw [hesl], by omega, q5, ?_⟩
              by_cases hl0 : len = 0
              · subst hl0; exact .inl rfl
              · right
                have := hat (by omega); subst this
                refine ⟨rfl, cc, e, fz, esz, hfz, hn, q3, fun i v hv => ?_⟩
                rw [q2] at hv
                have := r2 i v hv
                rw [cell_of_block h1] at this
                exact this
            · cases h
          · cases h
        · cases h
      · cases h
    | map r =>
      simp only [frzN] at h
      split at h
      · rename_i es hg
        split at h
        · rename_i ks vs hk hv
          cases h
          obtain ⟨p, hp, rfl⟩ := vrel_map k
          obtain ⟨ces, clock, g1, g2⟩ := H.map hp hg
          have hfz := ho _ _ _ _ hp (St.look_some hg (by simp)) rfl g1
          have key : ∀ (es : List (AV × AV)) (l : List MapEntry), entriesRel σ es l → vrels σ (es.map (·.1)) (l.map MapEntry.key) ∧ vrels σ (es.map (·.2)) (l.map MapEntry.val) := by
            intro es
            induction es with
            | nil => intro l hl; simp only [entriesRel] at hl; subst hl; simp [vrels]
            | cons a es ihe =>
              intro l hl
              obtain ⟨x, y⟩ := a
              simp only [entriesRel] at hl
              obtain ⟨m, r, rfl, e1, e2, e3⟩ := hl
              obtain ⟨j1, j2⟩ := ihe r e3
              simp only [List.map_cons, vrels]
              exact ⟨⟨_, _, rfl, e1, j1⟩, ⟨_, _, rfl, e2, j2⟩⟩
          obtain ⟨j1, j2⟩ := key _ _ g2
          simp only [vrel]
          exact ⟨p.b, ces, clock, rfl, hfz, mapO_rel ih hk j1, mapO_rel ih hv j2⟩
        · cases h
      · cases h
    | fn f x y =>
      simp only [frzN] at h
      split at h
      · rename_i g
        split at h
        · rename_i x' y' hx hy
          cases h
          simp only [vrel] at k ⊢
          obtain ⟨f', x1, y1, e, h1, h2, h3⟩ := k
          simp only [fnrel] at h1 ⊢
          exact ⟨f', x1, y1, e, h1, mapO_rel ih hx h2, mapO_rel ih hy h3⟩
        · cases h
      · cases h
    | iface t x =>
      simp only [frzN] at h
      split at h
      · rename_i x' hx
        cases h
        simp only [vrel] at k ⊢
        obtain ⟨y, e, r⟩ := k
        exact ⟨y, e, ih _ _ _ hx r⟩
      · cases h
    | agg cs =>
      simp only [frzN] at h
      split at h
      · rename_i x' hx
        cases h
        simp only [vrel] at k ⊢
        obtain ⟨y, e, r⟩ := k
        exact ⟨y, e, mapO_rel ih hx r⟩
      · cases h
    | tup cs =>
      simp only [frzN] at h
      split at h
      · rename_i x' hx
        cases h
        simp only [vrel] at k ⊢
        obtain ⟨y, e, r⟩ := k
        exact ⟨y, e, mapO_rel ih hx r⟩
      · cases h
    | fz _ => simp [frzN] at h
    | fp _ _ => simp [frzN] at h
    | fm _ _ => simp [frzN] at h
    | _ => simp only [frzN] at h; cases h; exact same rfl

end
end Go.Am
set_option linter.unusedSimpArgs false
set_option linter.unusedVariables false
set_option linter.unusedSectionVars false
namespace Go.Am
open Go
section
variable [Stat]
variable {X : Cx} {P : Program}

theorem leaves_marks (hX : CxOk X P) {F : Fence} {n : Nat} {σ0 σ : Sg} {s0 s : St} {w0 : World} {e : Env} {fn : Func} {v : AV} {tmps : Array Value} (E : erel σ e tmps) (hres : resultsA X fn e s = some v) :
    ∀ (rs : List Nat) (w : World), Good σ0 s0 w0 σ s w → rs.Nodup → (∀ r ∈ rs, w0.heap.size ≤ r ∧ w.heap[r]? = some (.deferred (some [])) ∧ (∀ i p, σ i = some p → p.b ≠ r) ∧ σ.fz r = none) →
      LeavesInM F n P fn tmps (fun en w' => ∃ u σ', en = .returned u ∧ vrel σ' v u ∧ Good σ0 s0 w0 σ' s w') (rs.map fun r => ({ target := .collected r, args := #[] } : Deferred)) .returning w
  | [], w, g, _, _ => by
    obtain ⟨u, h1, h2⟩ := results_run (P := P) hX g.hr E hres
    exact ⟨u, h1, u, σ, rfl, h2, g⟩
  | r :: rs, w, g, hn, hm => by
    obtain ⟨h1, h2, h3, h4⟩ := hm r (List.mem_cons_self ..)
    refine ⟨by simp, .inl ⟨r, w.putObj r (.deferred none), rfl, run_takeDeferred h2, ?_⟩⟩
    rw [List.nodup_cons] at hn
    refine leaves_marks hX E hres rs _ (g.unmark h1 h3 h4 _) hn.2 fun r' hr' => ?_
    obtain ⟨g1, g2, g3⟩ := hm r' (List.mem_cons_of_mem _ hr')
    refine ⟨g1, ?_, g3⟩
    show (w.heap.setIfInBounds r _)[r']? = _
    rw [Array.getElem?_setIfInBounds, if_neg (fun h : r = r' => hn.1 (by rw [h]; exact hr'))]
    exact g2

theorem callB_enter (hX : Full X P) {ex : Ex} (hE : ExOk X P ex) {f : FuncId} {args : List AV} {s s' : St} {v : AV} (h : callB X ex f args s = some (v, s')) {σ : Sg} {w : World} {us : Array Value}
    (H : HR σ s w) (F : Fresh σ s) (G : GlobOk X σ) (hv : vrels σ args us.toList) :
    (callFunc f us).run P w = .ok (.enter f us) w ∧ Calls P f us w fun en w' => ∃ u σ', en = .returned u ∧ vrel σ' v u ∧ Good σ s w σ' s' w' := by
  unfold callB at h
  split at h
  · rename_i fn hfn
    split at h
    · rename_i c hb
      have hf := hX.fn f fn hfn
      refine ⟨?_, ?_⟩
      · have hnm : ¬ fn.name = "runtime.NumGoroutine" := by have := hX.nm f fn hfn; simpa using this
        simp [callFunc, Sem.run_bind, Result.andThen, hf, hnm, hb]
      · refine callsIn_wide.1 (callsIn_of_wp_marks (F := FW none) (n := 0) hf hb trivial ?_)
        have I : Inv X σ s w w.heap.size (bindArgs 0 args .nil) { tmps := us ++ Array.replicate (fn.ntmps - us.size) Go.undef, defers := [] } :=
          ⟨H, F, G, enter_rel hv _, DF.nil _ _ _, Nat.le_refl _⟩
        have hok : Cok X none (us ++ Array.replicate (fn.ntmps - us.size) Go.undef).size c := ⟨fn.ntmps, by simp; omega, hX.fok f fn c hfn hb, by simp⟩
        have key : ∀ out e s1, ex c (bindArgs 0 args .nil) s = some (out, e, s1) → out = .norm ∨ out = .ret → resultsA X fn e s1 = some v → s1 = s' →
            c.wpIn (FW none) 0 P (bodyPostM (FW none) 0 P fn fun en w' => ∃ u σ', en = .returned u ∧ vrel σ' v u ∧ Good σ s w σ' s' w') { tmps := us ++ Array.replicate (fn.ntmps - us.size) Go.undef, defers := [] } w := by
          intro out e s1 hex hout hres hs
          subst hs
          refine wpIn_mono (hE c _ _ _ _ _ hex none _ _ w σ hok I).wpIn ?_
          rintro en a' w' ⟨hx, σ', g, i', _⟩
          have hl : LeavesInM (FW none) 0 P fn a'.tmps (fun en w' => ∃ u σ', en = .returned u ∧ vrel σ' v u ∧ Good σ s w σ' s1 w') a'.defers .returning w' := by
            obtain ⟨rs, hrs, hn, hm⟩ := i'.df
            rw [hrs]
            exact leaves_marks hX.toCxOk i'.env hres rs w' g hn hm
          rcases hout with rfl | rfl <;> cases en <;> simp only [exRel] at hx
          · exact hl
          · exact hl
        split at h
        · rename_i e s1 hex
          split at h
          · rename_i u hres; cases h
            exact key _ _ _ hex (.inl rfl) hres rfl
          · cases h
        · rename_i e s1 hex
          split at h
          · rename_i u hres; cases h
            exact key _ _ _ hex (.inr rfl) hres rfl
          · cases h
        · cases h
    · cases h
  · cases h

/-- the package's variables alone -/
def Sg.low (σ : Sg) (n : Nat) (z : Nat → Option Obj) : Sg := { m := fun i => if i < n then σ i else none, fz := z }

theorem low_some {σ : Sg} {n : Nat} {z : Nat → Option Obj} {i : Nat} {p : Pl} (h : (σ.low n z) i = some p) : i < n ∧ σ i = some p := by
  unfold Sg.low at h
  simp only at h
  split at h
  · exact ⟨‹_›, h⟩
  · cases h

theorem own_hr {σ : Sg} {w : World} (G : GlobOk X σ) (hlt : ∀ i p, σ i = some p → p.b < w.heap.size) (hg : ∀ c o, σ.fz c = some o → w.heap[c]? = some o) (z : Nat → Option Obj) (hz : ∀ c o, σ.fz c = some o → z c = some o) (hz' : ∀ c o, z c = some o → w.heap[c]? = some o)
    (hb : ∀ i b, X.gbase i = some b → b ≠ .gone) : HR (σ.low X.glob z) (ownSt X) w ∧ Fresh (σ.low X.glob z) (ownSt X) ∧ GlobOk X (σ.low X.glob z) ∧ ∀ c, ¬ Owns (σ.low X.glob z) (ownSt X) c := by
  have hle : Sg.le σ.bare (σ.low X.glob z).bare := ⟨fun _ _ h => by simp [Sg.bare] at h, hz⟩
  have look : ∀ i b, (ownSt X).look i = some b → X.gbase i = some b := by
    intro i b h
    unfold St.look St.get ownSt at h
    simp only [Tr.get_nil] at h
    split at h
    · cases h
    · exact h
  have hno : ∀ c, ¬ Owns (σ.low X.glob z) (ownSt X) c := by
    rintro c ⟨i, p, b, hp, hl, ho, _⟩
    obtain ⟨hi, _⟩ := low_some hp
    obtain ⟨n, _, hb'⟩ := G i hi
    rw [(hb' b (look i b hl)).1] at ho; cases ho
  refine ⟨⟨fun i p hp => hlt i p (low_some hp).2, fun i p b hp hl => ?_, fun i j p q b c hp hq hl hl' he => ?_, fun c o hc => ⟨hz' c o hc, hno c⟩⟩, fun i hi => ?_, fun g hgl => ?_, hno⟩
  · obtain ⟨hi, hs⟩ := low_some hp
    obtain ⟨n, hn, hb'⟩ := G i hi
    rw [hn] at hs; cases hs
    obtain ⟨_, o, ho, hbr⟩ := hb' b (look i b hl)
    exact ⟨o, hg _ _ ho, (hbr.mono hle).mono (Sg.bare_le _)⟩
  · obtain ⟨hi, hs⟩ := low_some hp
    obtain ⟨hj, ht⟩ := low_some hq
    obtain ⟨n, hn, _⟩ := G i hi
    obtain ⟨m, hm, _⟩ := G j hj
    rw [hn] at hs; cases hs
    rw [hm] at ht; cases ht
    exact he
  · show (if i < X.glob then σ i else none) = none
    rw [if_neg]
    exact Nat.not_lt.2 hi
  · obtain ⟨n, hn, hb'⟩ := G g hgl
    refine ⟨n, ?_, fun b hb1 => ?_⟩
    · show (if g < X.glob then σ g else none) = _
      rw [if_pos hgl]; exact hn
    · obtain ⟨h1, o, h2, h3⟩ := hb' b hb1
      exact ⟨h1, o, hz _ _ h2, h3.mono hle⟩

/-- back from a state of its own -/
theorem own_good {σ σ0 σ1 σ2 : Sg} {s t t' : St} {w w' : World} (H : HR σ s w) (g : Good σ0 t w σ1 t' w') (hno : ∀ c, ¬ Owns σ0 t c) (hm : σ2.m = σ.m) (h1 : ∀ c o, σ.fz c = some o → σ2.fz c = some o)
    (h2 : ∀ c o, σ2.fz c = some o → σ.fz c = some o ∨ (w.heap.size ≤ c ∧ w'.heap[c]? = some o)) : Good σ s w σ2 s w' := by
  have hle : Sg.le σ σ2 := ⟨fun i p hp => by rw [hm]; exact hp, h1⟩
  have keep : ∀ c, c < w.heap.size → w'.heap[c]? = w.heap[c]? := fun c hc => g.ext.keep c hc (hno c)
  have own : ∀ c, Owns σ2 s c → Owns σ s c := fun c ⟨i, p, b, hp, hl, ho, he⟩ => ⟨i, p, b, by rw [hm] at hp; exact hp, hl, ho, he⟩
  refine ⟨⟨fun i p hp => ?_, fun i p b hp hl => ?_, fun i j p q b c hp hq => ?_, fun c o hc => ?_⟩, ⟨hle, fun c o hc => ?_, g.ext.size, fun c hc _ => keep c hc, fun c _ ho => own c ho, g.ext.os, g.ext.tape, g.ext.output⟩, fun i _ => by rw [hm], Nat.le_refl _, fun _ _ h => h, fun i p hp hn => ?_, rfl⟩
  · rw [hm] at hp
    exact Nat.lt_of_lt_of_le (H.lt i p hp) g.ext.size
  · rw [hm] at hp
    obtain ⟨o, ho, hbr⟩ := H.blk i p b hp hl
    exact ⟨o, by rw [keep _ (H.lt i p hp)]; exact ho, hbr.mono hle⟩
  · rw [hm] at hp hq
    exact H.inj i j p q b c hp hq
  · rcases h2 c o hc with hs | ⟨hge, hs⟩
    · obtain ⟨k1, k2⟩ := H.fz c o hs
      have hlt : c < w.heap.size := (Array.getElem?_eq_some_iff.1 k1).1
      exact ⟨by rw [keep c hlt]; exact k1, fun ho => k2 (own c ho)⟩
    · refine ⟨hs, fun ho => ?_⟩
      obtain ⟨i, p, b, hp, _, _, he⟩ := own c ho
      have := H.lt i p hp
      omega
  · rcases h2 c o hc with hs | ⟨hge, _⟩
    · exact .inl hs
    · exact .inr hge
  · rw [hm, hn] at hp; cases hp

theorem callP_enter (hX : Full X P) {ex : Ex} (hE : ExOk X P ex) {f : FuncId} {args : List AV} {s s' : St} {v : AV} (h : callP X ex f args s = some (v, s')) {σ : Sg} {w : World} {us : Array Value}
    (H : HR σ s w) (F : Fresh σ s) (G : GlobOk X σ) (hv : vrels σ args us.toList) :
    (callFunc f us).run P w = .ok (.enter f us) w ∧ Calls P f us w fun en w' => ∃ u σ', en = .returned u ∧ vrel σ' v u ∧ Good σ s w σ' s' w' := by
  have hg : ∀ c o, σ.fz c = some o → w.heap[c]? = some o := fun c o hc => (H.fz c o hc).1
  unfold callP at h
  split at h
  · rename_i args' hargs'
    split at h
    · rename_i v1 hq
      cases h
      unfold callQ at hq
      split at hq
      · rename_i v2 s1 hcall
        unfold frzArgs at hargs'
        split at hargs'
        · rename_i hst
          cases hargs'
          rw [hst] at hq
          simp only [if_true] at hq
          obtain ⟨a1, a2, a3, a4⟩ := own_hr (X := X) G H.lt hg σ.fz (fun _ _ h => h) hg hX.gb
          have hargs : vrels (σ.low X.glob σ.fz) args us.toList := vrels.mono (show Sg.le σ.bare (σ.low X.glob σ.fz) from ⟨fun _ _ h => by simp [Sg.bare] at h, fun _ _ h => h⟩) _ _ (stills_rel hst hv)
          obtain ⟨c1, c2⟩ := callB_enter hX hE hcall a1 a2 a3 hargs
          refine ⟨c1, Calls.mono c2 ?_⟩
          rintro en w' ⟨u, σ1, rfl, hu, g⟩
          have hfzlt : ∀ b o, σ.fz b = some o → b < w.heap.size := fun b o hb => (Array.getElem?_eq_some_iff.1 (hg b o hb)).1
          let z : Nat → Option Obj := fun b => match σ.fz b with | some o => some o | none => if w.heap.size ≤ b then w'.heap[b]? else none
          have hz1 : ∀ b o, σ.fz b = some o → z b = some o := fun b o hb => by simp only [z, hb]
          have hz2 : ∀ b o, w.heap.size ≤ b → w'.heap[b]? = some o → z b = some o := fun b o hb ho => by
            cases hs : σ.fz b with
            | some o' => have := hfzlt b o' hs; omega
            | none => simp only [z, hs]; rw [if_pos hb]; exact ho
          have hz3 : ∀ b o, z b = some o → σ.fz b = some o ∨ (w.heap.size ≤ b ∧ w'.heap[b]? = some o) := fun b o hb => by
            simp only [z] at hb
            cases hs : σ.fz b with
            | some o' => rw [hs] at hb; exact .inl hb
            | none =>
              rw [hs] at hb
              simp only at hb
              split at hb
              · exact .inr ⟨‹_›, hb⟩
              · cases hb
          refine ⟨u, { m := σ.m, fz := z }, rfl, ?_, own_good H g a4 rfl hz1 hz3⟩
          have := frz_rel (X := X) (τ := { m := σ.m, fz := z }) g.hr (fun b o hb => ?_) (fun i p b o hp hl hown ho => ?_) _ _ _ _ hq hu
          · exact vrel.mono (Sg.bare_le _) _ _ this
          · rcases g.ext.nfz b o hb with hb' | hb'
            · exact hz1 b o hb'
            · exact hz2 b o hb' (g.hr.fz b o hb).1
          · refine hz2 _ _ (Nat.le_of_not_lt fun hlt => ?_) ho
            exact a4 _ (g.ext.owns _ hlt ⟨i, p, b, hp, hl, hown, rfl⟩)
        · rename_i hst
          rw [if_neg hst] at hq
          split at hq
          · rename_i hfl
            cases hq
            obtain ⟨a1, a2, a3, a4⟩ := own_hr (X := X) G H.lt hg (fun c => w.heap[c]?) hg (fun _ _ h => h) hX.gb
            have hargs : vrels (σ.low X.glob fun c => w.heap[c]?) args' us.toList := by
              have := mapO_rel (τ := (σ.low X.glob fun c => w.heap[c]?).bare) (frz_rel (X := X) H hg (fun i p b o _ _ _ ho => ho) _) hargs' hv
              exact vrels.mono (Sg.bare_le _) _ _ this
            obtain ⟨c1, c2⟩ := callB_enter hX hE hcall a1 a2 a3 hargs
            refine ⟨c1, Calls.mono c2 ?_⟩
            rintro en w' ⟨u, σ1, rfl, hu, g⟩
            exact ⟨u, σ, rfl, flat_rel hfl hu, own_good H g a4 rfl (fun _ _ h => h) (fun _ _ h => .inl h)⟩
          · obtain ⟨a1, a2, a3, a4⟩ := own_hr (X := X) G H.lt hg (fun c => w.heap[c]?) hg (fun _ _ h => h) hX.gb
            have hargs : vrels (σ.low X.glob fun c => w.heap[c]?) args' us.toList := by
              have := mapO_rel (τ := (σ.low X.glob fun c => w.heap[c]?).bare) (frz_rel (X := X) H hg (fun i p b o _ _ _ ho => ho) _) hargs' hv
              exact vrels.mono (Sg.bare_le _) _ _ this
            obtain ⟨c1, c2⟩ := callB_enter hX hE hcall a1 a2 a3 hargs
            refine ⟨c1, Calls.mono c2 ?_⟩
            rintro en w' ⟨u, σ1, rfl, hu, g⟩
            have hfzlt : ∀ b o, σ.fz b = some o → b < w.heap.size := fun b o hb => (Array.getElem?_eq_some_iff.1 (hg b o hb)).1
            let z : Nat → Option Obj := fun b => match σ.fz b with | some o => some o | none => if w.heap.size ≤ b then w'.heap[b]? else none
            have hz1 : ∀ b o, σ.fz b = some o → z b = some o := fun b o hb => by simp only [z, hb]
            have hz2 : ∀ b o, w.heap.size ≤ b → w'.heap[b]? = some o → z b = some o := fun b o hb ho => by
              cases hs : σ.fz b with
              | some o' => have := hfzlt b o' hs; omega
              | none => simp only [z, hs]; rw [if_pos hb]; exact ho
            have hz3 : ∀ b o, z b = some o → σ.fz b = some o ∨ (w.heap.size ≤ b ∧ w'.heap[b]? = some o) := fun b o hb => by
              simp only [z] at hb
              cases hs : σ.fz b with
              | some o' => rw [hs] at hb; exact .inl hb
              | none =>
                rw [hs] at hb
                simp only at hb
                split at hb
                · exact .inr ⟨‹_›, hb⟩
                · cases hb
            refine ⟨u, { m := σ.m, fz := z }, rfl, ?_, own_good H g a4 rfl hz1 hz3⟩
            have := frzN_rel (X := X) (τ := { m := σ.m, fz := z }) g.hr (fun i p b o hp hl hown ho => ?_) _ _ _ _ hq hu
            · exact vrel.mono (Sg.bare_le _) _ _ this
            · refine hz2 _ _ (Nat.le_of_not_lt fun hlt => ?_) ho
              exact a4 _ (g.ext.owns _ hlt ⟨i, p, b, hp, hl, hown, rfl⟩)
      · cases hq
    · cases h
  · cases h

theorem callF_enter (hX : Full X P) {ex : Ex} (hE : ExOk X P ex) {f : FuncId} (hext : X.ext f = none) {args : List AV} {s s' : St} {v : AV} (h : callF X ex f args s = some (v, s')) {σ : Sg} {w : World} {us : Array Value}
    (H : HR σ s w) (F : Fresh σ s) (G : GlobOk X σ) (hv : vrels σ args us.toList) :
    (callFunc f us).run P w = .ok (.enter f us) w ∧ Calls P f us w fun en w' => ∃ u σ', en = .returned u ∧ vrel σ' v u ∧ Good σ s w σ' s' w' := by
  unfold callF at h
  rw [hext] at h
  simp only at h
  split at h
  · exact callP_enter hX hE h H F G hv
  · exact callB_enter hX hE h H F G hv

theorem callF_ok (hX : Full X P) {ex : Ex} (hE : ExOk X P ex) (f : FuncId) : FnOk X P f (callF X ex f) := by
  intro args s v s' σ w us h H F G hv
  cases hext : X.ext f with
  | none =>
    obtain ⟨h1, h2⟩ := callF_enter hX hE hext h H F G hv
    rw [h1]
    refine Calls.mono h2 ?_
    rintro en w' ⟨u, σ', rfl, h3, h4⟩
    exact ⟨u, rfl, σ', h3, h4⟩
  | some g =>
    unfold callF at h
    rw [hext] at h
    exact hX.ext f g hext args s v s' σ w us h H F G hv

/-- yield's parameters -/
theorem params_rel {σ : Sg} : ∀ (ps : List Tmp) (as : List AV) (us : List Value) (e : Env) (tmps : Array Value), erel σ e tmps → vrels σ as us → (∀ t ∈ ps, t < tmps.size) →
    erel σ ((ps.zip as).foldl (fun e (t, a) => Tr.set e t a) e) ((ps.zip us).foldl (fun tmps (t, a) => tmps.setIfInBounds t a) tmps) ∧ ((ps.zip us).foldl (fun tmps (t, a) => tmps.setIfInBounds t a) tmps).size = tmps.size
  | [], as, us, e, tmps, h, _, _ => ⟨h, rfl⟩
  | p :: ps, [], us, e, tmps, h, hv, _ => by
    simp only [vrels] at hv; subst hv
    exact ⟨h, rfl⟩
  | p :: ps, a :: as, us, e, tmps, h, hv, hp => by
    simp only [vrels] at hv
    obtain ⟨u, us, rfl, h1, h2⟩ := hv
    simp only [List.zip_cons_cons, List.foldl_cons]
    have := params_rel ps as us (Tr.set e p a) (tmps.setIfInBounds p u) (h.put (hp p (List.mem_cons_self ..)) h1) h2 (fun t ht => by simpa using hp t (List.mem_cons_of_mem _ ht))
    exact ⟨this.1, by simpa using this.2⟩

theorem zip_fold (ps : Array Tmp) (us tmps : Array Value) : (ps.zip us).foldl (fun tmps (t, a) => tmps.setIfInBounds t a) tmps = (ps.toList.zip us.toList).foldl (fun tmps (t, a) => tmps.setIfInBounds t a) tmps := by
  rw [← Array.foldl_toList, Array.toList_zip]

/-- a loop's record rewritten on both sides -/
theorem loop_put {σ : Sg} {s : St} {w : World} (H : HR σ s w) {l : Nat} {p : Pl} (hp : σ l = some p) {st : Nat} {pe : Option Code} {env : Env} {ps : List Tmp} {as bo : Code} (hg : s.get l = some (.loop st pe env ps as bo))
    {r : Loop} (hr : w.heap[p.b]? = some (.loop r)) (st' : Nat) (pe' : Option Code) :
    Good σ s w σ (s.put l (.loop st' pe' env ps as bo)) (w.putObj p.b (.loop { r with state := loopState st', pending := pe' })) := by
  have hl : s.look l = some (.loop st pe env ps as bo) := St.look_some hg (by simp)
  obtain ⟨o, ho, hbr⟩ := H.blk l p _ hp hl
  rw [hr] at ho; cases ho
  have hlt := H.lt l p hp
  simp only [BR] at hbr
  obtain ⟨_, _, h3⟩ := hbr
  refine Good.put H hp hl rfl (by simp) (by simp [World.putObj]) (fun c hc => World.putObj_heap_other hc) (World.putObj_heap_same hlt) ?_ rfl rfl rfl
  show BR σ p (.loop st' pe' env ps as bo) _
  unfold BR
  exact ⟨rfl, rfl, h3⟩

theorem loop_rec {σ : Sg} {s : St} {w : World} (H : HR σ s w) {l : Nat} {p : Pl} (hp : σ l = some p) {st : Nat} {pe : Option Code} {env : Env} {ps : List Tmp} {as bo : Code} (hg : s.get l = some (.loop st pe env ps as bo)) :
    ∃ r : Loop, w.heap[p.b]? = some (.loop r) ∧ BR σ p (.loop st pe env ps as bo) (.loop r) := by
  have hl : s.look l = some (.loop st pe env ps as bo) := St.look_some hg (by simp)
  obtain ⟨o, ho, hbr⟩ := H.blk l p _ hp hl
  cases o <;> simp only [BR] at hbr
  exact ⟨_, ho, hbr⟩

theorem endRoundA_some {l : Nat} {o : Out} {e : Env} {q : List Tmp} {a b : Code} {s s' : St} {v : AV} (h : endRoundA l o e q a b s = some (v, s')) :
    ∃ j : Option Code, v = .bool j.isNone ∧ s' = s.put l (.loop (if j.isNone then 0 else 2) j e q a b) ∧ (match o with | .norm => j = none | .exit i => j = some (.exit i) | .ret => j = some .ret) := by
  cases o <;> simp only [endRoundA] at h <;> cases h
  · exact ⟨none, rfl, rfl, rfl⟩
  · exact ⟨some (.exit _), rfl, rfl, rfl⟩
  · exact ⟨some .ret, rfl, rfl, rfl⟩

theorem yield_ok (hX : Full X P) {ex : Ex} (hE : ExOk X P ex) {l : Nat} {args : List AV} {s s' : St} {v : AV} (h : yieldA ex l args s = some (v, s')) {σ : Sg} {w : World} {us : Array Value} {p : Pl} (hp : σ l = some p)
    (H : HR σ s w) (F : Fresh σ s) (G : GlobOk X σ) (hv : vrels σ args us.toList) {ro : Option Nat} :
    ∃ f tmps assign body, (Instr.yield p.b us).run P w = .ok (.round p.b f tmps assign body) w ∧
      RoundIn (FW ro) 0 P p.b f tmps assign body w fun en w' => ∃ u σ', en = .returned u ∧ vrel σ' v u ∧ Good σ s w σ' s' w' := by
  unfold yieldA at h
  split at h
  · rename_i pe env params assign body hg
    obtain ⟨r, hr, hbr⟩ := loop_rec H hp hg
    simp only [BR] at hbr
    obtain ⟨b1, b2, b3, b4, b5, b6, b7, b8, b9⟩ := hbr
    split at h
    · rename_i hlen
      have hsz : us.size = r.params.size := by
        have h1 := hv.length
        have h2 : us.toList.length = us.size := rfl
        have h3 : r.params.toList.length = r.params.size := rfl
        rw [← h2, ← h3, ← h1, hlen, b4]
      refine ⟨_, _, _, _, run_yield hr hsz, ?_⟩
      rw [zip_fold, b4, b5, b6]
      obtain ⟨e1, e2⟩ := params_rel params args us.toList env r.tmps b3 hv b9
      refine roundIn_of_wpIn trivial ?_
      have I : Inv X σ s w w.heap.size ((params.zip args).foldl (fun e (t, a) => Tr.set e t a) env) { tmps := (params.zip us.toList).foldl (fun tmps (t, a) => tmps.setIfInBounds t a) r.tmps, defers := [] } :=
        ⟨H, F, G, e1, DF.nil _ _ _, Nat.le_refl _⟩
      have cok : ∀ c, Stat.ok r.tmps.size c → ∀ m, m = r.tmps.size → Cok X (some p.b) m c := by
        intro c hc m hm
        subst hm
        obtain ⟨n, h1, h2, h3⟩ := (hX.stat _ _).1 hc
        exact ⟨n, h1, h2, fun _ => h3⟩
      simp only at h
      split at h
      · rename_i env1 s1 hex1
        split at h
        · rename_i p1 en1 q1 a1 c1 hg1
          split at h
          · rename_i o2 e2' s2 hex2
            split at h
            · rename_i st3 p3 en3 q3 a3 c3 hg2
              have hr1 := (hE _ _ _ _ _ _ hex1 (some p.b) _ _ w σ (cok assign b7 _ e2) I).wpIn
              refine wpIn_mono hr1 ?_
              rintro en a1' w1 ⟨hx, σ1, g1, i1, hs1⟩
              cases en <;> simp only [exRel] at hx
              have hp1 := g1.ext.le.p _ _ hp
              obtain ⟨r1, hr1', hbr1⟩ := loop_rec g1.hr hp1 hg1
              have hst : r1.state = .ready := by simp only [BR] at hbr1; exact hbr1.1
              have gp := loop_put g1.hr hp1 hg1 hr1' 1 p1
              have hw : ({ r1 with state := loopState 1, pending := p1 } : Loop) = { r1 with state := .busy } := by
                simp only [BR] at hbr1
                rw [← hbr1.2.1]; rfl
              rw [hw] at gp
              refine ⟨_, run_beginRound hr1' hst, ?_⟩
              have g2 := g1.trans gp
              have I2 : Inv X σ1 (s1.put l (.loop 1 p1 en1 q1 a1 c1)) (w1.putObj p.b (.loop { r1 with state := .busy })) w.heap.size env1 a1' :=
                ⟨gp.hr, gp.fresh i1.fresh, i1.glob, i1.env, i1.df.good gp, by simpa [World.putObj] using i1.n0⟩
              have hr2 := (hE _ _ _ _ _ _ hex2 (some p.b) _ _ _ σ1 (cok body b8 _ (hs1.trans e2)) I2).wpIn
              refine wpIn_mono hr2 ?_
              rintro en2 a2' w2 ⟨hx2, σ2, g3, i2, _⟩
              obtain ⟨j, rfl, rfl, hj⟩ := endRoundA_some h
              have hp2 := g3.ext.le.p _ _ hp1
              obtain ⟨r2, hr2', hbr2⟩ := loop_rec g3.hr hp2 hg2
              have fin : ∀ j', j = j' → ∃ v w', (Instr.endRound p.b j').run P w2 = .ok v w' ∧ ∃ u σ', (Ending.returned v) = .returned u ∧ vrel σ' (.bool j.isNone) u ∧ Good σ s w σ' (s2.put l (.loop (if j.isNone then 0 else 2) j en3 q3 a3 c3)) w' := by
                intro j' hj'
                subst hj'
                have gp2 := loop_put g3.hr hp2 hg2 hr2' (if j.isNone then 0 else 2) j
                refine ⟨_, _, run_endRound j hr2', _, σ2, rfl, by simp only [vrel], ?_⟩
                have hst2 : loopState (if j.isNone then 0 else 2) = (if j.isNone then LoopState.ready else .done) := by cases j <;> rfl
                rw [hst2] at gp2
                exact (g2.trans g3).trans gp2
              cases o2 <;> cases en2 <;> simp only [exRel] at hx2
              · exact fin none hj
              · subst hx2; exact fin _ hj
              · exact fin _ hj
            · cases h
          · cases h
        · cases h
      · cases h
    · cases h
  · cases h

end
end Go.Am
set_option linter.unusedSimpArgs false
set_option linter.unusedVariables false
set_option linter.unusedSectionVars false
namespace Go.Am
open Go
section
variable [Stat]
variable {X : Cx} {P : Program}

theorem resolve_value {ρ : Operand → Value} {f : Operand} {args : Array Operand} {ats : Array TypeId} {ty : TypeId} {fn : Fn} {x y : Array Value} {w : World} (h : ρ f = .func fn x y) :
    (resolve ρ { callee := .value f, args, argTypes := ats } ty).run P w = .ok { target := .fn fn y, args := x ++ args.map ρ } w := by
  simp [resolve, h, Deferred.ofValue]

theorem op_step (hX : Full X P) {ex : Ex} (hE : ExOk X P ex) {r : Option Nat} {o : Oper} {e : Env} {s s' : St} {v : AV} {a : Act} {σ : Sg} {w : World} {n0 : Nat} (I : Inv X σ s w n0 e a) (h : opA X ex e o.op s = some (v, s'))
    {nxt : Act → World → Prop} {Q : Exit → Act → World → Prop} (hn : ∀ u w' σ', vrel σ' v u → Good σ s w σ' s' w' → nxt (a.put o.dst u) w') : o.wpIn (FW r) 0 P a w nxt Q := by
  refine ⟨about_wide, ?_⟩
  rw [Oper.semAt_eq _ _ _ (fun c hc => by rw [hc] at h; simp [opA] at h), eval_eq_rho]
  cases hc : isCallV o.op with
  | false =>
    obtain ⟨σ', nx, u, w', h1, h2, h3, h4⟩ := opA_sound (P := P) hX.toCxOk I.glob I.hr (I.fresh _ (Nat.le_refl _)) I.env hc h
    rw [h1]
    rcases h2 with rfl | ⟨rfl, rfl⟩
    · rw [Oper.uponIn_value]; exact hn _ _ _ h3 h4
    · rw [Oper.uponIn_skip]; exact hn _ _ _ h3 h4
  | true =>
    obtain ⟨dst, op, type, pos, after, guard⟩ := o
    simp only at h hc hn ⊢
    cases op <;> simp only [isCallV] at hc <;> try (cases hc; done)
    rename_i c
    obtain ⟨callee, args, ats⟩ := c
    cases callee <;> simp only at hc <;> try (cases hc; done)
    rename_i f
    simp only [opA] at h
    split at h
    · rename_i fv vs hf hvs
      have hfr := eval_rel I.glob I.env hf
      have hvr := evals_rel I.glob I.env hvs
      unfold callV at h
      split at h
      · rename_i g first cap
        simp only [vrel] at hfr
        obtain ⟨f', x', y', hfv, hf', hx, hy⟩ := hfr
        simp only [fnrel] at hf'; subst hf'
        have hrel : vrels σ (first ++ vs ++ cap) ((x' ++ args.map (rho a.tmps)) ++ y').toList := by
          simp only [Array.toList_append]
          exact (hx.append (by simpa using hvr)).append hy
        have := callF_ok hX hE g _ _ _ _ _ w _ h I.hr I.fresh I.glob hrel
        have hrun : (execOp (rho a.tmps) { dst := dst, op := .call { callee := .value f, args := args, argTypes := ats }, type := type, pos := pos, after := after, guard := guard }).run P w = (callFunc g ((x' ++ args.map (rho a.tmps)) ++ y')).run P w := by
          simp only [execOp, Sem.run_bind, resolve_value hfv, Result.andThen_ok, invoke]
        rw [hrun]
        exact upon_of (X := X) this fun u w' ⟨σ', h1, h2⟩ => hn u w' σ' h1 h2
      · rename_i l first cap
        simp only [vrel] at hfr
        obtain ⟨f', x', y', hfv, hf', hx, hy⟩ := hfr
        simp only [fnrel] at hf'
        obtain ⟨p, hp, rfl⟩ := hf'
        have hrel : vrels σ (first ++ vs) (x' ++ args.map (rho a.tmps)).toList := by
          simp only [Array.toList_append]
          exact hx.append (by simpa using hvr)
        obtain ⟨fn, tmps, assign, body, h1, h2⟩ := yield_ok hX hE h hp I.hr I.fresh I.glob hrel (ro := r)
        have hrun : (execOp (rho a.tmps) { dst := dst, op := .call { callee := .value f, args := args, argTypes := ats }, type := type, pos := pos, after := after, guard := guard }).run P w = .ok (.round p.b fn tmps assign body) w := by
          simp only [execOp, Sem.run_bind, resolve_value hfv, Result.andThen_ok, invoke]
          exact h1
        rw [hrun, Oper.uponIn_round]
        refine ⟨fun hd => (by cases hd), RoundIn.mono h2 ?_⟩
        rintro en w' ⟨u, σ', rfl, h3, h4⟩
        exact hn u w' σ' h3 h4
      · cases h
    · cases h

/-- a region in its written order -/
theorem opsA_sound (hX : Full X P) {ex : Ex} (hE : ExOk X P ex) {r : Option Nat} {ops : Array Oper} {Q : Exit → Act → World → Prop} {out : Env × St} {n0 : Nat} :
    ∀ (k i : Nat) (e : Env) (s : St) (a : Act) (w : World) (σ : Sg), i + k = ops.size → opsA X ex ops (ops.toList.drop i) e s = some out → (∀ o ∈ ops.toList, dstOk a.tmps.size o.dst) → Inv X σ s w n0 e a →
      (∀ a' w', After X σ s w n0 a out.1 out.2 a' w' → Q .normal a' w') → wpOpsIn (FW r) 0 P ops Q (List.range' i k) a w
  | 0, i, e, s, a, w, σ, hk, h, hd, I, hq => by
    rw [List.drop_of_length_le (by simp; omega)] at h
    simp only [opsA] at h
    cases h
    exact hq _ _ (After.refl I)
  | k + 1, i, e, s, a, w, σ, hk, h, hd, I, hq => by
    have hi : i < ops.size := by omega
    have hl : ops.toList.drop i = ops[i] :: ops.toList.drop (i + 1) := by
      rw [List.drop_eq_getElem_cons (by simpa using hi)]; simp
    rw [hl] at h
    rw [List.range'_succ]
    simp only [wpOpsIn, Array.getElem?_eq_getElem hi]
    have hdi := hd ops[i] (by simp)
    simp only [opsA] at h
    rw [wanted_eq I.env]
    split at h
    · rename_i hw
      rw [if_pos hw]
      split at h
      · rename_i v s1 hop
        refine op_step hX hE I hop fun u w' σ' hv g => ?_
        have hA := I.put g hdi hv
        obtain ⟨τ, gτ, Iτ, hsz⟩ := hA
        exact opsA_sound hX hE k (i + 1) _ _ _ _ τ (by omega) h (fun o ho => by rw [hsz]; exact hd o ho) Iτ fun a' w'' hA' => hq _ _ (hA'.trans gτ hsz)
      · cases h
    · rename_i hw
      rw [if_neg hw]
      refine ⟨about_wide, ?_⟩
      obtain ⟨τ, gτ, Iτ, hsz⟩ := I.put (Good.refl I.hr) hdi (undef_rel (σ := σ))
      exact opsA_sound hX hE k (i + 1) _ _ _ _ τ (by omega) h (fun o ho => by rw [hsz]; exact hd o ho) Iτ fun a' w'' hA' => hq _ _ (hA'.trans gτ hsz)

/-- what is to be shown of a region whose order is drawn -/
def DrawOk (X : Cx) (P : Program) : Prop :=
  ∀ ex, ExOk X P ex → ∀ (r : Option Nat) (ops : Array Oper) (e e' : Env) (s s' : St) (a : Act) (w : World) (σ : Sg) (n0 t : Nat) (Q : Exit → Act → World → Prop),
    drawA X ex ops e s = some (e', s') → okD X ops = true → (∀ o ∈ ops.toList, dstOk a.tmps.size o.dst) → Inv X σ s w n0 e a → (∀ a' w', After X σ s w n0 a e' s' a' w' → Q .normal a' w') →
    wpOpsIn (FW r) 0 P ops Q (Region.linearise .any ops t) a w

theorem loop_new {X : Cx} {σ : Sg} {s : St} {w : World} {e : Env} {a : Act} {n0 : Nat} (I : Inv X σ s w n0 e a) (fn : FuncId) (ps : Array Tmp) (assign body : Code) (ha : Stat.ok a.tmps.size assign) (hb : Stat.ok a.tmps.size body) (hp : ∀ t ∈ ps.toList, t < a.tmps.size) :
    Good σ s w (σ.add s.next ⟨w.heap.size + 1, 0, 0⟩) (s.new (.loop 0 none e ps.toList assign body)) ((w.alloc (.deferred (some []))).alloc (.loop { state := .ready, pending := none, fn, tmps := a.tmps, params := ps, assign, body, defers := w.heap.size })) := by
  have g0 := Good.alloc0 I.hr (.deferred (some []))
  have hf := I.fresh s.next (Nat.le_refl _)
  have g1 := Good.new g0.hr hf (.loop 0 none e ps.toList assign body) (by simp) (.loop { state := .ready, pending := none, fn, tmps := a.tmps, params := ps, assign, body, defers := w.heap.size }) 0 (by
    unfold BR
    exact ⟨rfl, rfl, I.env.mono (Sg.le_add hf), rfl, rfl, rfl, ha, hb, hp⟩)
  have : (w.alloc (.deferred (some []))).heap.size = w.heap.size + 1 := by simp
  rw [this] at g1
  exact g0.trans g1

theorem endLoopA_some {p : Option Code} {e e' : Env} {s s' : St} {out : Out} (h : endLoopA p e s = some (out, e', s')) : e' = e ∧ s' = s ∧ ((p = none ∧ out = .norm) ∨ (∃ i, p = some (.exit i) ∧ out = .exit i) ∨ (p = some .ret ∧ out = .ret)) := by
  unfold endLoopA at h
  split at h <;> cases h
  · exact ⟨rfl, rfl, .inl ⟨rfl, rfl⟩⟩
  · exact ⟨rfl, rfl, .inr (.inl ⟨_, rfl, rfl⟩)⟩
  · exact ⟨rfl, rfl, .inr (.inr ⟨rfl, rfl⟩)⟩

theorem rangeFunc_sound (hX : Full X P) {ex : Ex} (hE : ExOk X P ex) {gop : Operand} {ps : Array Tmp} {assign body : Code} {e e' : Env} {s s' : St} {out : Out} (h : stepA X ex (.rangeFunc gop ps assign body) e s = some (out, e', s'))
    {a : Act} {σ : Sg} {w : World} {n0 : Nat} (I : Inv X σ s w n0 e a) (hok : Cok X none a.tmps.size (.rangeFunc gop ps assign body)) :
    (Code.rangeFunc gop ps assign body).wpIn (FW none) 0 P (Post X σ s w n0 a out e' s') a w := by
  obtain ⟨n, hn, hok, _⟩ := hok
  simp only [okC, Bool.and_eq_true, List.all_eq_true, decide_eq_true_eq] at hok
  obtain ⟨⟨⟨⟨k1, k2⟩, k3⟩, k4⟩, k5⟩ := hok
  have ha : Stat.ok a.tmps.size assign := (hX.stat _ _).2 ⟨n, hn, k2, k4⟩
  have hb : Stat.ok a.tmps.size body := (hX.stat _ _).2 ⟨n, hn, k3, k5⟩
  simp only [stepA] at h
  split at h
  · rename_i g first cap hf
    split at h
    · rename_i hext
      rw [Option.isNone_iff_eq_none] at hext
      split at h
      · rename_i rv s1 hcall
        split at h
        · rename_i st p e1 q1 a1 b1 hg1
          split at h
          · cases h
          · rename_i hst
            obtain ⟨rfl, rfl, hout⟩ := endLoopA_some h
            have hfr := eval_rel I.glob I.env hf
            simp only [vrel] at hfr
            obtain ⟨f', x', y', hfv, hf', hx, hy⟩ := hfr
            simp only [fnrel] at hf'; subst hf'
            refine wpIn_rangeFunc fun fn _ => ?_
            have gl := loop_new I fn ps assign body ha hb (fun t ht => Nat.lt_of_lt_of_le (k1 t ht) hn)
            have hfv' : a.eval gop = .func (.func g) x' y' := by rw [eval_eq_rho]; exact hfv
            have hle := gl.ext.le
            have hyield : vrel (σ.add s.next ⟨w.heap.size + 1, 0, 0⟩) (.fn (.yield s.next) [] []) (.func (.yield (w.heap.size + 1)) #[] #[]) := by
              simp only [vrel]
              exact ⟨_, _, _, rfl, by simp only [fnrel]; exact ⟨_, Sg.add_self _ _ _, rfl⟩, by simp [vrels], by simp [vrels]⟩
            have hrel : vrels (σ.add s.next ⟨w.heap.size + 1, 0, 0⟩) (first ++ [.fn (.yield s.next) [] []] ++ cap) ((x' ++ #[Value.func (.yield (w.heap.size + 1)) #[] #[]]) ++ y').toList := by
              simp only [Array.toList_append]
              exact ((vrels.mono hle _ _ hx).append (vrels_one hyield)).append (vrels.mono hle _ _ hy)
            obtain ⟨c1, c2⟩ := callF_enter hX hE hext hcall gl.hr (gl.fresh I.fresh) (I.glob.mono hle) hrel
            refine ⟨w.heap.size + 1, [{ target := .collected w.heap.size, args := #[] }], _, _, _, g, (x' ++ #[Value.func (.yield (w.heap.size + 1)) #[] #[]]) ++ y', (w.alloc (.deferred (some []))).alloc (.loop { state := .ready, pending := none, fn, tmps := a.tmps, params := ps, assign, body, defers := w.heap.size }), run_enterLoop_outer fn a.tmps ps assign body, resolve_value hfv', fun _ _ => trivial, ?_, fun hd => (by cases hd), ?_⟩
            · have hm : Array.map a.eval #[Operand.const (Value.func (.yield (w.heap.size + 1)) #[] #[])] = #[Value.func (.yield (w.heap.size + 1)) #[] #[]] := by simp [Act.eval]
              simp only [invoke]
              rw [hm]
              exact c1
            · refine callsIn_mono (callsIn_of c2) ?_
              rintro en w' ⟨u, σ', rfl, _, g2⟩
              have hp1 := g2.ext.le.p _ _ (Sg.add_self σ s.next ⟨w.heap.size + 1, 0, 0⟩)
              obtain ⟨r1, hr1, hbr1⟩ := loop_rec g2.hr hp1 hg1
              have hbr1' := hbr1
              simp only [BR] at hbr1'
              obtain ⟨hs1, hp1', _⟩ := hbr1'
              have hnb : r1.state ≠ .busy := by
                rw [hs1]
                unfold loopState
                split <;> simp_all
              have gp := loop_put g2.hr hp1 hg1 hr1 3 p
              have hw : ({ r1 with state := loopState 3, pending := p } : Loop) = { r1 with state := .exhausted } := by
                rw [← hp1']; rfl
              rw [hw] at gp
              have gd := Good.drop gp.hr (b := s.next) (b0 := .loop 3 p e1 q1 a1 b1) (by rw [St.look_put, if_pos rfl])
              have g3 := (gl.trans (g2.trans gp)).trans gd
              have g4 : Good σ s w σ' (s1.put s.next .gone) _ := g3.congr (putput_look _ _ _) rfl rfl
              have hD0 : DF n0 (σ.add s.next ⟨w.heap.size + 1, 0, 0⟩) ((w.alloc (.deferred (some []))).alloc (.loop { state := .ready, pending := none, fn, tmps := a.tmps, params := ps, assign, body, defers := w.heap.size })) ([{ target := .collected w.heap.size, args := #[] }] ++ a.defers) := by
                obtain ⟨rs, hrs, hnd, hm⟩ := I.df.good gl
                obtain ⟨rs0, hrs0, hnd0, hm0⟩ := I.df
                refine ⟨w.heap.size :: rs0, by simp [hrs0], List.nodup_cons.2 ⟨fun hin => ?_, hnd0⟩, fun r' hr' => ?_⟩
                · have := (Array.getElem?_eq_some_iff.1 (hm0 _ hin).2.1).1
                  omega
                · rcases List.mem_cons.1 hr' with rfl | hr'
                  · refine ⟨I.n0, ?_, fun i q hq => ?_, ?_⟩
                    · simp only [World.alloc]
                      rw [Array.getElem?_push, if_neg (by simp)]
                      simp
                    · by_cases hi : i = s.next
                      · subst hi; rw [Sg.add_self] at hq; cases hq; simp
                      · rw [Sg.add_ne _ _ hi] at hq
                        have := I.hr.lt i q hq
                        omega
                    · show σ.fz w.heap.size = none
                      cases hz : σ.fz w.heap.size with
                      | none => rfl
                      | some o =>
                        have := (Array.getElem?_eq_some_iff.1 (I.hr.fz _ o hz).1).1
                        omega
                  · have heq : rs = rs0 := by
                      have := hrs.symm.trans hrs0
                      exact List.map_inj_right (by intro x y hxy; simpa using hxy) |>.1 this
                    subst heq
                    exact hm r' hr'
              have I' : Inv X σ' (s1.put s.next .gone) (w'.putObj (w.heap.size + 1) (.loop { r1 with state := .exhausted })) n0 e' { a with defers := [{ target := .collected w.heap.size, args := #[] }] ++ a.defers } :=
                ⟨g4.hr, g4.fresh I.fresh, I.glob.mono g4.ext.le, I.env.mono g4.ext.le, ((hD0.good g2).good gp).good gd, Nat.le_trans I.n0 g4.ext.size⟩
              have hA : After X σ s w n0 a e' (s1.put s.next .gone) { a with defers := [{ target := .collected w.heap.size, args := #[] }] ++ a.defers } (w'.putObj (w.heap.size + 1) (.loop { r1 with state := .exhausted })) := ⟨σ', g4, I', rfl⟩
              refine ⟨p, w'.putObj (w.heap.size + 1) (.loop { r1 with state := .exhausted }), (run_endLoop hr1 hnb).trans (congrArg (fun x => Result.ok x _) hp1'), ?_⟩
              rcases hout with ⟨rfl, rfl⟩ | ⟨i, rfl, rfl⟩ | ⟨rfl, rfl⟩
              · exact ⟨trivial, hA⟩
              · exact wpIn_exit ⟨rfl, hA⟩
              · exact wpIn_ret ⟨trivial, hA⟩
        · cases h
      · cases h
    · cases h
  · cases h

end
end Go.Am
set_option linter.unusedSimpArgs false
set_option linter.unusedVariables false
set_option linter.unusedSectionVars false
namespace Go.Am
open Go
section
variable [Stat]
variable {X : Cx} {P : Program}

theorem stepA_sound (hX : Full X P) (hD : DrawOk X P) {ex : Ex} (hE : ExOk X P ex) : ExOk X P (stepA X ex) := by
  intro c e s out e' s' h r n0 a w σ hok I
  cases c with
  | loop b =>
    simp only [stepA] at h
    have hokb : ∀ a' : Act, a'.tmps.size = a.tmps.size → Cok X r a'.tmps.size b := fun a' ha' => by
      obtain ⟨n, h1, h2, h3⟩ := hok
      exact ⟨n, by rw [ha']; exact h1, by simpa [okC] using h2, fun h => by simpa [noRF] using h3 h⟩
    have hokl : ∀ a' : Act, a'.tmps.size = a.tmps.size → Cok X r a'.tmps.size (.loop b) := fun a' ha' => by rw [ha']; exact hok
    show LoopRuns (FW r) 0 P b _ a w
    refine loopRuns_of ?_
    split at h
    · rename_i e1 s1 h1
      refine wpIn_mono (hE _ _ _ _ _ _ h1 r n0 a w σ (hokb a rfl) I).wpIn ?_
      rintro en a1 w1 ⟨hx, σ1, g1, i1, hs1⟩
      cases en <;> simp only [exRel] at hx
      have := hE _ _ _ _ _ _ h r n0 a1 w1 σ1 (hokl a1 hs1) i1
      have h2 : LoopRuns (FW r) 0 P b (Post X σ1 s1 w1 n0 a1 out e' s') a1 w1 := this
      show LoopRuns (FW r) 0 P b _ a1 w1
      intro b' k cs hro hb hr
      obtain ⟨e2, a2, w2, ⟨hq1, hq2⟩, harr⟩ := h2 b' k cs hro hb hr
      exact ⟨e2, a2, w2, ⟨hq1, hq2.trans g1 hs1⟩, harr⟩
    · rename_i hne
      refine wpIn_mono (hE _ _ _ _ _ _ h r n0 a w σ (hokb a rfl) I).wpIn ?_
      rintro en a1 w1 ⟨hx, hA⟩
      cases out with
      | norm => exact absurd h (hne _ _)
      | exit i => cases en <;> simp only [exRel] at hx; exact ⟨hx, hA⟩
      | ret => cases en <;> simp only [exRel] at hx; exact ⟨hx, hA⟩
  | skip =>
    simp only [stepA] at h; cases h
    exact wpIn_skip ⟨trivial, After.refl I⟩
  | label l =>
    simp only [stepA] at h; cases h
    exact wpIn_label ⟨trivial, After.refl I⟩
  | exit i =>
    simp only [stepA] at h; cases h
    exact wpIn_exit ⟨rfl, After.refl I⟩
  | ret =>
    simp only [stepA] at h; cases h
    exact wpIn_ret ⟨trivial, After.refl I⟩
  | region id ops d =>
    have hdst : ∀ o ∈ ops.toList, dstOk a.tmps.size o.dst := by
      obtain ⟨n, h1, h2, _⟩ := hok
      simp only [okC, Bool.and_eq_true, List.all_eq_true] at h2
      intro o ho t ht
      have := h2.1 o ho
      rw [ht] at this
      simp only [decide_eq_true_eq] at this
      exact Nat.lt_of_lt_of_le this h1
    simp only [stepA] at h
    cases d with
    | false =>
      simp only [Bool.false_eq_true, if_false] at h
      split at h
      · rename_i e1 s1 h1
        cases h
        show Code.wpIn _ _ _ _ _ _ _
        refine wpIn_region ?_
        rw [List.range_eq_range']
        exact opsA_sound hX hE ops.size 0 e s a w σ (by omega) (by simpa using h1) hdst I fun a' w' hA => ⟨trivial, hA⟩
      · cases h
    | true =>
      simp only [if_true] at h
      split at h
      · rename_i e1 s1 h1
        cases h
        show Code.wpIn _ _ _ _ _ _ _
        refine wpIn_region_draw fun t => ?_
        obtain ⟨n, _, h2, _⟩ := hok
        simp only [okC, Bool.and_eq_true, Bool.not_true, Bool.false_or] at h2
        have I' : Inv X σ s { w with drawn := w.drawn + 1 } n0 e a := ⟨I.hr.of_heap rfl, I.fresh, I.glob, I.env, I.df, I.n0⟩
        have hsch : Region.schedule (P.follows .mixedOrders) ops t = Region.linearise .any ops t := by
          unfold Region.schedule; rw [hX.mixed]; simp
        rw [hsch]
        refine hD ex hE r ops e _ s _ a _ σ n0 t _ h1 h2.2 hdst I' ?_
        rintro a' w' ⟨σ', g, i', hs⟩
        refine ⟨trivial, σ', ?_, i', hs⟩
        exact Good.drew0 (w := w) g
      · cases h
  | seq x y =>
    have hokx : Cok X r a.tmps.size x := by
      obtain ⟨n, h1, h2, h3⟩ := hok
      simp only [okC, Bool.and_eq_true] at h2
      exact ⟨n, h1, h2.1, fun h => by have := h3 h; simp only [noRF, Bool.and_eq_true] at this; exact this.1⟩
    have hoky : ∀ m, m = a.tmps.size → Cok X r m y := by
      rintro m rfl
      obtain ⟨n, h1, h2, h3⟩ := hok
      simp only [okC, Bool.and_eq_true] at h2
      exact ⟨n, h1, h2.2, fun h => by have := h3 h; simp only [noRF, Bool.and_eq_true] at this; exact this.2⟩
    simp only [stepA] at h
    show Code.wpIn _ _ _ _ _ _ _
    refine wpIn_seq ?_
    split at h
    · rename_i e1 s1 h1
      refine wpIn_mono (hE _ _ _ _ _ _ h1 r n0 a w σ hokx I).wpIn ?_
      rintro en a1 w1 ⟨hx, σ1, g1, i1, hs1⟩
      cases en <;> simp only [exRel] at hx
      refine wpIn_mono (hE _ _ _ _ _ _ h r n0 a1 w1 σ1 (hoky _ hs1) i1).wpIn ?_
      rintro en2 a2 w2 ⟨hq1, hq2⟩
      exact ⟨hq1, hq2.trans g1 hs1⟩
    · rename_i hne
      refine wpIn_mono (hE _ _ _ _ _ _ h r n0 a w σ hokx I).wpIn ?_
      rintro en a1 w1 ⟨hx, hA⟩
      cases out with
      | norm => exact absurd h (hne _ _)
      | exit i => cases en <;> simp only [exRel] at hx; exact ⟨hx, hA⟩
      | ret => cases en <;> simp only [exRel] at hx; exact ⟨hx, hA⟩
  | cond c x y =>
    have hok2 : Cok X r a.tmps.size x ∧ Cok X r a.tmps.size y := by
      obtain ⟨n, h1, h2, h3⟩ := hok
      simp only [okC, Bool.and_eq_true] at h2
      exact ⟨⟨n, h1, h2.1, fun h => by have := h3 h; simp only [noRF, Bool.and_eq_true] at this; exact this.1⟩,
        ⟨n, h1, h2.2, fun h => by have := h3 h; simp only [noRF, Bool.and_eq_true] at this; exact this.2⟩⟩
    simp only [stepA] at h
    show Code.wpIn _ _ _ _ _ _ _
    split at h
    · rename_i hc
      have := vrel_bool (eval_rel I.glob I.env hc)
      exact wpIn_cond_true (by rw [eval_eq_rho]; exact this) (hE _ _ _ _ _ _ h r n0 a w σ hok2.1 I).wpIn
    · rename_i hc
      have := vrel_bool (eval_rel I.glob I.env hc)
      exact wpIn_cond_false (by rw [eval_eq_rho]; exact this) (hE _ _ _ _ _ _ h r n0 a w σ hok2.2 I).wpIn
    · cases h
  | block id b =>
    have hokb : Cok X r a.tmps.size b := by
      obtain ⟨n, h1, h2, h3⟩ := hok
      exact ⟨n, h1, by simpa [okC] using h2, fun h => by simpa [noRF] using h3 h⟩
    simp only [stepA] at h
    show Code.wpIn _ _ _ _ _ _ _
    refine wpIn_block ?_
    split at h
    · rename_i i e1 s1 h1
      refine wpIn_mono (hE _ _ _ _ _ _ h1 r n0 a w σ hokb I).wpIn ?_
      rintro en a1 w1 ⟨hx, hA⟩
      cases en <;> simp only [exRel] at hx
      subst hx
      split at h
      · rename_i hid
        cases h
        simp only [Exit.inBlock, hid, if_true]
        exact ⟨trivial, hA⟩
      · rename_i hid
        cases h
        simp only [Exit.inBlock, hid, if_false]
        exact ⟨rfl, hA⟩
    · rename_i hne
      refine wpIn_mono (hE _ _ _ _ _ _ h r n0 a w σ hokb I).wpIn ?_
      rintro en a1 w1 ⟨hx, hA⟩
      cases out with
      | norm => cases en <;> simp only [exRel] at hx; exact ⟨trivial, hA⟩
      | exit i => exact absurd h (hne _ _ _)
      | ret => cases en <;> simp only [exRel] at hx; exact ⟨trivial, hA⟩
  | scope b =>
    have hokb : Cok X r a.tmps.size b := by
      obtain ⟨n, h1, h2, h3⟩ := hok
      exact ⟨n, h1, by simpa [okC] using h2, fun h => by simpa [noRF] using h3 h⟩
    simp only [stepA] at h
    show Code.wpIn _ _ _ _ _ _ _
    refine wpIn_scope (wpIn_mono (hE _ _ _ _ _ _ h r n0 a w σ hokb I).wpIn ?_)
    rintro en a1 w1 ⟨hx, hA⟩
    cases en with
    | goto l => cases out <;> simp only [exRel] at hx
    | _ => exact ⟨hx, hA⟩
  | rangeFunc g ps assign body =>
    show Code.wpIn _ _ _ _ _ _ _
    cases r with
    | none => exact rangeFunc_sound hX hE h I hok
    | some l =>
      obtain ⟨n, _, _, h3⟩ := hok
      have := h3 rfl
      simp [noRF] at this
  | _ => simp only [stepA] at h; cases h

theorem exec_sound (hX : Full X P) (hD : DrawOk X P) : ∀ n, ExOk X P (exec X n)
  | 0 => by intro c e s out e' s' h; simp [exec] at h
  | n + 1 => stepA_sound hX hD (exec_sound hX hD n)

/-- a run of the abstract machine is a call of the program -/
theorem run_sound (hX : Full X P) (hD : DrawOk X P) {n : Nat} {f : FuncId} (hext : X.ext f = none) {args : List AV} {s s' : St} {v : AV} (h : run X n f args s = some (v, s')) {σ : Sg} {w : World} {us : Array Value}
    (H : HR σ s w) (F : Fresh σ s) (G : GlobOk X σ) (hv : vrels σ args us.toList) : Calls P f us w fun en w' => ∃ u σ', en = .returned u ∧ vrel σ' v u ∧ Good σ s w σ' s' w' :=
  (callF_enter hX (exec_sound hX hD n) hext h H F G hv).2

end
end Go.Am
set_option linter.unusedSimpArgs false
set_option linter.unusedVariables false
set_option linter.unusedSectionVars false
namespace Go.Am
open Go
section
variable [Stat]
variable {X : Cx}

theorem pureO_of {v : Option AV} {r : AV} (h : v = some r) (t : St) : pureO v t = some (r, t) := by subst h; rfl

/-- class p: the value hangs on temporaries alone -/
def StateFree (X : Cx) (ex : Ex) (e : Env) (o : Op) : Prop := ∀ s v s', opA X ex e o s = some (v, s') → s' = s ∧ ∀ t, opA X ex e o t = some (v, t)

theorem cls_value (f : Operand) (args : Array Operand) (ats : Array TypeId) (k : Cls) (h1 : k ≠ .q) (h2 : k ≠ .w) : cls X (.call { callee := .value f, args := args, argTypes := ats }) ≠ k := by
  intro h
  cases f <;> simp only [cls] at h <;> first
    | exact h2 h.symm
    | (split at h <;> first | exact h1 h.symm | exact h2 h.symm)

theorem free_pure {ex : Ex} {e : Env} {o : Op} (f : Option AV) (h : ∀ s, opA X ex e o s = pureO f s) : StateFree X ex e o := by
  intro s v s' hs
  rw [h] at hs
  obtain ⟨h1, rfl⟩ := pureO_some hs
  exact ⟨rfl, fun t => by rw [h]; exact pureO_of h1 t⟩

theorem cls_p {ex : Ex} {e : Env} {o : Op} (hc : cls X o = .p) : StateFree X ex e o := by
  cases o <;> simp only [cls] at hc <;> try (cases hc; done)
  case move x => exact free_pure _ fun s => rfl
  case assign x => exact free_pure _ fun s => rfl
  case pick c a b =>
    intro s v s' h
    simp only [opA] at h ⊢
    split at h
    · obtain ⟨h1, rfl⟩ := pureO_some h
      exact ⟨rfl, fun t => pureO_of h1 t⟩
    · obtain ⟨h1, rfl⟩ := pureO_some h
      exact ⟨rfl, fun t => pureO_of h1 t⟩
    · cases h
  case build t ps =>
    intro s v s' h
    simp only [opA] at h ⊢
    split at h
    · obtain ⟨h1, rfl⟩ := pureO_some h
      exact ⟨rfl, fun t => pureO_of h1 t⟩
    · cases h
  case nilCheck x =>
    intro s v s' h
    simp only [opA] at h ⊢
    split at h <;> first | (cases h; exact ⟨rfl, fun _ => rfl⟩) | cases h
  case binOp op t x y yt =>
    intro s v s' h
    simp only [opA] at h ⊢
    split at h
    · obtain ⟨h1, rfl⟩ := pureO_some h
      exact ⟨rfl, fun t => pureO_of h1 t⟩
    · cases h
  case unOp op t x =>
    intro s v s' h
    simp only [opA] at h ⊢
    split at h
    · obtain ⟨h1, rfl⟩ := pureO_some h
      exact ⟨rfl, fun t => pureO_of h1 t⟩
    · cases h
  case convert src dst x =>
    intro s v s' h
    simp only [opA] at h ⊢
    split at h
    · rename_i a ha
      unfold convA at h ⊢
      split at h
      · cases h; exact ⟨rfl, fun _ => rfl⟩
      · cases h; exact ⟨rfl, fun _ => rfl⟩
      · unfold fltO at h ⊢
        split at h
        · cases h; exact ⟨rfl, fun _ => rfl⟩
        · cases h
      · cases h; exact ⟨rfl, fun _ => rfl⟩
      · cases h; exact ⟨rfl, fun _ => rfl⟩
      · rename_i d1 e' b _ h1 h2
        rw [h1, h2] at hc
        cases e' <;> cases hc
      · rename_i e' h1 h2 _ _
        rw [h1, h2] at hc
        cases hc
      · cases h
    · cases h
  case makeInterface t x =>
    intro s v s' h
    simp only [opA] at h ⊢
    split at h
    · split at h
      · cases h
      · cases h; exact ⟨rfl, fun _ => rfl⟩
      · cases h
    · cases h
  case makeFunc f a b =>
    intro s v s' h
    simp only [opA] at h ⊢
    split at h
    · split at h
      · cases h; exact ⟨rfl, fun _ => rfl⟩
      · cases h
    · cases h
  case slice t x lo hi mx =>
    intro s v s' h
    simp only [opA] at h ⊢
    split at h
    · obtain ⟨h1, rfl⟩ := pureO_some h
      exact ⟨rfl, fun t => pureO_of h1 t⟩
    · cases h
  case fieldAddr t x f =>
    intro s v s' h
    simp only [opA] at h ⊢
    split at h
    · obtain ⟨h1, rfl⟩ := pureO_some h
      exact ⟨rfl, fun t => pureO_of h1 t⟩
    · cases h
  case field t x f =>
    intro s v s' h
    simp only [opA] at h ⊢
    split at h
    · split at h
      · obtain ⟨h1, rfl⟩ := pureO_some h
        exact ⟨rfl, fun t => pureO_of h1 t⟩
      · cases h
    · cases h
  case indexAddr t x i =>
    intro s v s' h
    simp only [opA] at h ⊢
    split at h
    · obtain ⟨h1, rfl⟩ := pureO_some h
      exact ⟨rfl, fun t => pureO_of h1 t⟩
    · cases h
  case index t x i =>
    intro s v s' h
    simp only [opA] at h ⊢
    split at h
    · obtain ⟨h1, rfl⟩ := pureO_some h
      exact ⟨rfl, fun t => pureO_of h1 t⟩
    · cases h
  case extract t i =>
    intro s v s' h
    simp only [opA] at h ⊢
    split at h
    · obtain ⟨h1, rfl⟩ := pureO_some h
      exact ⟨rfl, fun t => pureO_of h1 t⟩
    · cases h
  case call c =>
    obtain ⟨callee, args, ats⟩ := c
    cases callee with
    | value f => exact absurd hc (cls_value (X := X) f args ats .p (by simp) (by simp))
    | invoke _ _ => cases hc
    | builtin b =>
    simp only at hc
    intro s v s' h
    simp only [opA] at h ⊢
    split at h
    · rename_i vs hvs
      cases b <;> simp only at hc <;> try (cases hc; done)
      all_goals
        unfold builtinA at h ⊢
        split at h <;> first
          | (cases h; done)
          | (rename_i heq; cases heq; done)
          | skip
      all_goals
        split at h <;> first
          | (cases h; exact ⟨rfl, fun _ => rfl⟩)
          | (cases h; done)
          | skip
    · cases h

/-- class r: the memory is as it was -/
theorem cls_r {ex : Ex} {e : Env} {o : Op} (hc : cls X o = .r) {s s' : St} {v : AV} (h : opA X ex e o s = some (v, s')) : s' = s := by
  cases o <;> simp only [cls] at hc <;> try (cases hc; done)
  case convert src dst x =>
    simp only [opA] at h
    split at h
    · rename_i a ha
      cases h1 : X.und src with
      | none => unfold convA at h; rw [h1] at h; simp at h
      | some d1 =>
        cases h2 : X.und dst with
        | none => rw [h1, h2] at hc; cases d1 <;> simp at hc
        | some d2 =>
          rw [h1, h2] at hc
          unfold convA at h
          rw [h1, h2] at h
          cases d1 <;> cases d2 <;> simp at hc
          cases a <;> (try simp only at h) <;> first
            | (cases h; rfl)
            | (split at h <;> first
                | (cases h; done)
                | (cases h; rfl)
                | (split at h <;> first
                    | (cases h; done)
                    | (cases h; rfl)
                    | (split at h <;> first
                        | (cases h; done)
                        | (split at h <;> first
                            | (cases h; done)
                            | (cases h; rfl)))))
    · cases h
  case load t a =>
    simp only [opA] at h
    split at h
    · exact (pureO_some h).2
    · cases h
  case lookup t m k ok =>
    simp only [opA] at h
    split at h
    · exact (pureO_some h).2
    · cases h
  case call c =>
    obtain ⟨callee, args, ats⟩ := c
    cases callee with
    | value f => exact absurd hc (cls_value (X := X) f args ats .r (by simp) (by simp))
    | invoke _ _ => cases hc
    | builtin b =>
    simp only at hc
    simp only [opA] at h
    split at h
    · rename_i vs hvs
      cases b <;> simp only at hc <;> try (cases hc; done)
      unfold builtinA at h
      split at h <;> first
        | (rename_i heq; cases heq; done)
        | skip
      · split at h
        · split at h <;> first
            | (cases h; rfl)
            | (split at h <;> first | (cases h; rfl) | (cases h; done))
            | (cases h; done)
        · cases h
      · cases h
    · cases h

/-- class a: one block at the counter, and its contents hang on temporaries alone -/
theorem cls_a {ex : Ex} {e : Env} {o : Op} (hc : cls X o = .a) {s s' : St} {v : AV} (h : opA X ex e o s = some (v, s')) :
    ∃ b, b ≠ .gone ∧ s' = s.new b ∧ ∀ t : St, t.next = s.next → opA X ex e o t = some (v, t.new b) := by
  cases o <;> simp only [cls] at hc <;> try (cases hc; done)
  case convert src dst x =>
    simp only [opA] at h ⊢
    split at h
    · rename_i a ha
      cases h1 : X.und src with
      | none => unfold convA at h; rw [h1] at h; simp at h
      | some d1 =>
        cases h2 : X.und dst with
        | none => rw [h1, h2] at hc; cases d1 <;> simp at hc
        | some d2 =>
          rw [h1, h2] at hc
          unfold convA at h ⊢
          rw [h1, h2] at h ⊢
          cases d2 <;> first | (cases d1 <;> simp at hc <;> done) | skip
          rename_i el
          cases a <;> first | (cases d1 <;> cases h <;> done) | skip
          rename_i b
          simp only at h ⊢
          split at h
          · cases h
            exact ⟨_, by simp, rfl, fun t ht => by rw [ht]⟩
          · cases h
    · cases h
  case alloc t =>
    simp only [opA] at h ⊢
    split at h
    · cases h
      exact ⟨_, by simp, rfl, fun t ht => by simp only [newCells, ht]⟩
    · cases h
  case box t x =>
    simp only [opA] at h ⊢
    split at h
    · cases h
      exact ⟨_, by simp, rfl, fun t ht => by simp only [newCells, ht]⟩
    · cases h
  case buildSlice t n ps =>
    simp only [opA] at h ⊢
    split at h
    · unfold buildSliceA at h ⊢
      split at h
      · split at h
        · split at h
          · rename_i hcnd
            split at h
            · cases h
              exact ⟨_, by simp, rfl, fun t ht => by simp only [if_pos hcnd, ht]⟩
            · cases h
          · cases h
        · cases h
      · cases h
    · cases h
  case makeMap t r =>
    simp only [opA] at h ⊢
    split at h
    · cases h
      exact ⟨_, by simp, rfl, fun t ht => by simp only [ht]⟩
    · split at h
      · cases h
        exact ⟨_, by simp, rfl, fun t ht => by simp only [ht]⟩
      · cases h
  case makeSlice t l c =>
    simp only [opA] at h ⊢
    split at h
    · split at h
      · split at h
        · rename_i hcnd
          cases h
          exact ⟨_, by simp, rfl, fun t ht => by simp only [if_pos hcnd, ht]⟩
        · cases h
      · cases h
    · cases h
  case call c =>
    obtain ⟨callee, args, ats⟩ := c
    cases callee with
    | value f => exact absurd hc (cls_value (X := X) f args ats .a (by simp) (by simp))
    | invoke _ _ => cases hc
    | builtin b =>
    simp only at hc
    cases b <;> simp only at hc <;> cases hc

/-- class c: a call in a state of its own -/
theorem cls_c {ex : Ex} {e : Env} {o : Op} (hc : cls X o = .q) {s s' : St} {v : AV} (h : opA X ex e o s = some (v, s')) :
    s' = s ∧ ∃ c vs us, o = .call c ∧ evals X e c.args.toList = some vs ∧ frzArgs X s vs = some us ∧ ∀ t, frzArgs X t vs = some us → opA X ex e o t = some (v, t) := by
  cases o <;> try (simp only [cls] at hc; done)
  case call c =>
    obtain ⟨callee, args, ats⟩ := c
    cases callee with
    | invoke _ _ => simp only [cls] at hc; cases hc
    | builtin b => cases b <;> simp only [cls] at hc <;> cases hc
    | value f =>
      cases f <;> try (simp only [cls] at hc; cases hc; done)
      rename_i g
      simp only [cls] at hc
      split at hc
      · rename_i hg
        simp only [Bool.and_eq_true, Option.isNone_iff_eq_none] at hg
        simp only [opA, eval] at h ⊢
        split at h
        · rename_i f vs hf hvs
          cases hf
          simp only [callV, List.nil_append, List.append_nil, callF, hg.2, hg.1, if_true] at h ⊢
          unfold callP at h
          split at h
          · rename_i us hus
            split at h
            · rename_i v1 hq
              cases h
              refine ⟨rfl, _, vs, us, rfl, hvs, hus, fun t ht => ?_⟩
              simp only [callP, ht, hq]
            · cases h
          · cases h
        · cases h
      · cases hc
  all_goals
    exfalso
    simp only [cls] at hc
    first
      | (cases hc; done)
      | (split at hc <;> cases hc)

/-! ### Two environments that agree where the operation looks -/

theorem eval_congr {e e' : Env} {x : Operand} (h : ∀ t, x = .tmp t → Env.get e t = Env.get e' t) : eval X e x = eval X e' x := by
  cases x <;> simp only [eval]
  rw [h _ rfl]

theorem evals_congr {e e' : Env} : ∀ {l : List Operand}, (∀ t, Operand.tmp t ∈ l → Env.get e t = Env.get e' t) → evals X e l = evals X e' l
  | [], _ => rfl
  | x :: l, h => by
    simp only [evals]
    rw [eval_congr (fun t ht => h t (by rw [ht]; exact List.mem_cons_self ..)), evals_congr (fun t ht => h t (List.mem_cons_of_mem _ ht))]

theorem evalParts_congr {e e' : Env} : ∀ {l : List (Nat × Operand)}, (∀ t, Operand.tmp t ∈ l.map (·.2) → Env.get e t = Env.get e' t) → evalParts X e l = evalParts X e' l
  | [], _ => rfl
  | (i, x) :: l, h => by
    simp only [evalParts]
    rw [eval_congr (fun t ht => h t (by rw [ht]; exact List.mem_cons_self ..)), evalParts_congr (fun t ht => h t (List.mem_cons_of_mem _ ht))]

theorem evalO_congr {e e' : Env} {x : Option Operand} (h : ∀ t, x = some (.tmp t) → Env.get e t = Env.get e' t) : evalO X e x = evalO X e' x := by
  cases x with
  | none => rfl
  | some x => simp only [evalO]; rw [eval_congr (fun t ht => h t (by rw [ht]))]

theorem opA_congr {ex : Ex} {e e' : Env} {o : Op} {s : St} (h : ∀ t, Operand.tmp t ∈ o.operands.toList → Env.get e t = Env.get e' t) : opA X ex e o s = opA X ex e' o s := by
  cases o <;> simp only [opA] <;> simp only [Op.operands] at h
  case pick c a b =>
    have h1 := eval_congr (X := X) (e := e) (e' := e') (x := c) (fun t ht => h t (by simp [ht]))
    have h2 := eval_congr (X := X) (e := e) (e' := e') (x := a) (fun t ht => h t (by simp [ht]))
    have h3 := eval_congr (X := X) (e := e) (e' := e') (x := b) (fun t ht => h t (by simp [ht]))
    rw [h1, h2, h3]
  case sliceToArrayPointer t x =>
    have h1 := eval_congr (X := X) (e := e) (e' := e') (x := x) (fun t ht => h t (by simp [ht]))
    rw [h1]
  case build t ps =>
    have h1 := evalParts_congr (X := X) (e := e) (e' := e') (l := ps.toList) (fun t ht => h t (by simpa using ht))
    rw [h1]
  case buildSlice t n ps =>
    have h1 := evalParts_congr (X := X) (e := e) (e' := e') (l := ps.toList) (fun t ht => h t (by simpa using ht))
    rw [h1]
  case makeFunc f a b =>
    have h1 := evals_congr (X := X) (e := e) (e' := e') (l := a.toList) (fun t ht => h t (by simp; exact .inl (by simpa using ht)))
    have h2 := evals_congr (X := X) (e := e) (e' := e') (l := b.toList) (fun t ht => h t (by simp; exact .inr (by simpa using ht)))
    rw [h1, h2]
  case makeMap t r =>
    cases r with
    | none => rfl
    | some x =>
      have h1 := eval_congr (X := X) (e := e) (e' := e') (x := x) (fun t ht => h t (by simp [ht]))
      simp only [h1]
  case slice t x lo hi mx =>
    have h1 := eval_congr (X := X) (e := e) (e' := e') (x := x) (fun t ht => h t (by simp [ht]))
    have h2 := evalO_congr (X := X) (e := e) (e' := e') (x := lo) (fun t ht => h t (by simp [ht]))
    have h3 := evalO_congr (X := X) (e := e) (e' := e') (x := hi) (fun t ht => h t (by simp [ht]))
    have h4 := evalO_congr (X := X) (e := e) (e' := e') (x := mx) (fun t ht => h t (by simp [ht]))
    rw [h1, h2, h3, h4]
  case call c =>
    obtain ⟨callee, args, ats⟩ := c
    simp only [Call.operands] at h
    cases callee with
    | builtin b =>
      have h1 := evals_congr (X := X) (e := e) (e' := e') (l := args.toList) (fun t ht => h t (by simpa using ht))
      simp only [h1]
    | value f =>
      have h1 := evals_congr (X := X) (e := e) (e' := e') (l := args.toList) (fun t ht => h t (by simp; exact .inr (by simpa using ht)))
      have h2 := eval_congr (X := X) (e := e) (e' := e') (x := f) (fun t ht => h t (by simp [ht]))
      simp only [h1, h2]
    | invoke r m => rfl
  case next it str =>
    cases str with
    | false => rfl
    | true =>
      have h1 := eval_congr (X := X) (e := e) (e' := e') (x := it) (fun t ht => h t (by simp [ht]))
      simp only [opA, h1]
  case move x =>
    have h0 := eval_congr (X := X) (e := e) (e' := e') (x := x) (fun t ht => h t (by simp [ht]))
    rw [h0]
  case assign x =>
    have h0 := eval_congr (X := X) (e := e) (e' := e') (x := x) (fun t ht => h t (by simp [ht]))
    rw [h0]
  case box t x =>
    have h0 := eval_congr (X := X) (e := e) (e' := e') (x := x) (fun t ht => h t (by simp [ht]))
    rw [h0]
  case load t x =>
    have h0 := eval_congr (X := X) (e := e) (e' := e') (x := x) (fun t ht => h t (by simp [ht]))
    rw [h0]
  case nilCheck x =>
    have h0 := eval_congr (X := X) (e := e) (e' := e') (x := x) (fun t ht => h t (by simp [ht]))
    rw [h0]
  case unOp op t x =>
    have h0 := eval_congr (X := X) (e := e) (e' := e') (x := x) (fun t ht => h t (by simp [ht]))
    rw [h0]
  case convert a b x =>
    have h0 := eval_congr (X := X) (e := e) (e' := e') (x := x) (fun t ht => h t (by simp [ht]))
    rw [h0]
  case makeInterface t x =>
    have h0 := eval_congr (X := X) (e := e) (e' := e') (x := x) (fun t ht => h t (by simp [ht]))
    rw [h0]
  case fieldAddr t x f =>
    have h0 := eval_congr (X := X) (e := e) (e' := e') (x := x) (fun t ht => h t (by simp [ht]))
    rw [h0]
  case field t x f =>
    have h0 := eval_congr (X := X) (e := e) (e' := e') (x := x) (fun t ht => h t (by simp [ht]))
    rw [h0]
  case range t x =>
    have h0 := eval_congr (X := X) (e := e) (e' := e') (x := x) (fun t ht => h t (by simp [ht]))
    rw [h0]
  case extract x i =>
    have h0 := eval_congr (X := X) (e := e) (e' := e') (x := x) (fun t ht => h t (by simp [ht]))
    rw [h0]
  case store t a x =>
    have h0 := eval_congr (X := X) (e := e) (e' := e') (x := a) (fun t ht => h t (by simp [ht]))
    have h1 := eval_congr (X := X) (e := e) (e' := e') (x := x) (fun t ht => h t (by simp [ht]))
    rw [h0, h1]
  case binOp op t x y yt =>
    have h0 := eval_congr (X := X) (e := e) (e' := e') (x := x) (fun t ht => h t (by simp [ht]))
    have h1 := eval_congr (X := X) (e := e) (e' := e') (x := y) (fun t ht => h t (by simp [ht]))
    rw [h0, h1]
  case makeSlice t l c =>
    have h0 := eval_congr (X := X) (e := e) (e' := e') (x := l) (fun t ht => h t (by simp [ht]))
    have h1 := eval_congr (X := X) (e := e) (e' := e') (x := c) (fun t ht => h t (by simp [ht]))
    rw [h0, h1]
  case indexAddr t x i =>
    have h0 := eval_congr (X := X) (e := e) (e' := e') (x := x) (fun t ht => h t (by simp [ht]))
    have h1 := eval_congr (X := X) (e := e) (e' := e') (x := i) (fun t ht => h t (by simp [ht]))
    rw [h0, h1]
  case index t x i =>
    have h0 := eval_congr (X := X) (e := e) (e' := e') (x := x) (fun t ht => h t (by simp [ht]))
    have h1 := eval_congr (X := X) (e := e) (e' := e') (x := i) (fun t ht => h t (by simp [ht]))
    rw [h0, h1]
  case lookup t m k ok =>
    have h0 := eval_congr (X := X) (e := e) (e' := e') (x := m) (fun t ht => h t (by simp [ht]))
    have h1 := eval_congr (X := X) (e := e) (e' := e') (x := k) (fun t ht => h t (by simp [ht]))
    rw [h0, h1]
  case mapUpdate t m k v =>
    have h0 := eval_congr (X := X) (e := e) (e' := e') (x := m) (fun t ht => h t (by simp [ht]))
    have h1 := eval_congr (X := X) (e := e) (e' := e') (x := k) (fun t ht => h t (by simp [ht]))
    have h2 := eval_congr (X := X) (e := e) (e' := e') (x := v) (fun t ht => h t (by simp [ht]))
    rw [h0, h1, h2]
  case insert t m k v =>
    have h0 := eval_congr (X := X) (e := e) (e' := e') (x := m) (fun t ht => h t (by simp [ht]))
    have h1 := eval_congr (X := X) (e := e) (e' := e') (x := k) (fun t ht => h t (by simp [ht]))
    have h2 := eval_congr (X := X) (e := e) (e' := e') (x := v) (fun t ht => h t (by simp [ht]))
    rw [h0, h1, h2]

end
end Go.Am
set_option linter.unusedSimpArgs false
set_option linter.unusedVariables false
set_option linter.unusedSectionVars false
namespace Go.Am
open Go
section
variable [Stat]

theorem look_ne_gone (s : St) (i : Nat) (b : Blk) (h : s.look i = some b) : b ≠ .gone := by
  unfold St.look at h
  split at h
  · cases h
  · rename_i hne
    intro e; subst e
    exact hne h

/-- a state of given contents -/
def ofLook (f : Nat → Option Blk) (n : Nat) : St := { t := .nil, base := f, next := n }

theorem ofLook_look {f : Nat → Option Blk} {n i : Nat} (h : ∀ b, f i = some b → b ≠ .gone) : (ofLook f n).look i = f i := by
  unfold St.look St.get ofLook
  simp only [Tr.get_nil]
  cases hf : f i with
  | none => rfl
  | some b =>
    have := h b hf
    cases b <;> first | rfl | exact absurd rfl this

theorem HR.sub {σ : Sg} {T R : St} {w : World} (H : HR σ T w) (h : ∀ i p b, σ i = some p → R.look i = some b → T.look i = some b) : HR σ R w :=
  ⟨H.lt, fun i p b hp hb => H.blk i p b hp (h i p b hp hb), fun i j p q b c hp hq hb hc he => H.inj i j p q b c hp hq (h i p b hp hb) (h j q c hq hc) he, fun c o hc => ⟨(H.fz c o hc).1, fun ⟨i, p, b, h1, h2, h3, h4⟩ => (H.fz c o hc).2 ⟨i, p, b, h1, h i p b h1 h2, h3, h4⟩⟩⟩

/-- What has become of the start (σ0 s0 w0) while a region runs in its drawn order. -/
structure GD (σ0 : Sg) (s0 : St) (w0 : World) (σ : Sg) (T : St) (w : World) : Prop where
  hr : HR σ T w
  ext : Ext σ0 s0 w0 σ T w
  dom : ∀ i, i < s0.next → σ i = σ0 i
  next : s0.next ≤ T.next
  fresh : Fresh σ T
  dead : ∀ i, i < s0.next → s0.look i = none → T.look i = none
  news : ∀ i p, σ i = some p → σ0 i = none → w0.heap.size ≤ p.b ∨ Owns σ0 s0 p.b

open Classical in
/-- the state behind an operation that was run on R, a part of T -/
noncomputable def mix (σ : Sg) (T R R' : St) : St :=
  ofLook (fun i => if i < R.next ∧ (σ i = none ∨ R.look i = none) then T.look i else R'.look i) R'.next

theorem mix_next (σ : Sg) (T R R' : St) : (mix σ T R R').next = R'.next := rfl

open Classical in
theorem mix_look (σ : Sg) (T R R' : St) (i : Nat) : (mix σ T R R').look i = if i < R.next ∧ (σ i = none ∨ R.look i = none) then T.look i else R'.look i := by
  unfold mix
  rw [ofLook_look]
  intro b hb
  split at hb <;> exact look_ne_gone _ _ _ hb

theorem frame {σ0 σ σ' : Sg} {s0 T R R' : St} {w0 w w' : World} (g : GD σ0 s0 w0 σ T w) (hsub : ∀ i p b, σ i = some p → R.look i = some b → T.look i = some b) (hn : R.next = T.next) (k : Good σ R w σ' R' w') :
    GD σ0 s0 w0 σ' (mix σ T R R') w' := by
  have hout : ∀ i p b, σ i = some p → T.look i = some b → R.look i = none → ¬ Owns σ R p.b := by
    rintro i p b hp hb hr ⟨j, q, c, hq, hc, _, he⟩
    have := g.hr.inj j i q p c b hq hp (hsub j q c hq hc) hb he
    subst this
    rw [hr] at hc; cases hc
  have hown : ∀ c, Owns σ R c → Owns σ T c := fun c ⟨j, q, b, hq, hb, ho, he⟩ => ⟨j, q, b, hq, hsub j q b hq hb, ho, he⟩
  have hfr : ∀ i, σ i = none ∨ i < R.next := fun i => by
    by_cases h : i < R.next
    · exact .inr h
    · exact .inl (g.fresh i (by omega))
  -- the blocks of the mixed state
  have cases' : ∀ i p b, σ' i = some p → (mix σ T R R').look i = some b → (σ i = some p ∧ T.look i = some b ∧ R.look i = none) ∨ (R'.look i = some b ∧ (σ i = none ∨ ∃ c, R.look i = some c)) := by
    intro i p b hp hb
    rw [mix_look] at hb
    split at hb
    · rename_i hc
      rcases hc.2 with h | h
      · have := k.dom i (.inl hc.1)
        rw [h] at this; rw [this] at hp; cases hp
      · have := k.dom i (.inl hc.1)
        rw [this] at hp
        exact .inl ⟨hp, hb, h⟩
    · rename_i hc
      refine .inr ⟨hb, ?_⟩
      rcases hfr i with h | h
      · exact .inl h
      · cases hr : R.look i with
        | none => exact absurd ⟨h, .inr hr⟩ hc
        | some c => exact .inr ⟨c, rfl⟩
  have le : ∀ i p, σ i = some p → σ' i = some p := k.ext.le.p
  have old : ∀ i p q, σ i = some p → σ' i = some q → p = q := fun i p q h1 h2 => by rw [le i p h1] at h2; exact Option.some.inj h2
  refine ⟨⟨k.hr.lt, ?_, ?_, ?_⟩, ?_, ?_, ?_, ?_, ?_, ?_⟩
  · -- blk
    intro i p b hp hb
    rcases cases' i p b hp hb with ⟨h1, h2, h3⟩ | ⟨h1, _⟩
    · obtain ⟨o, ho, hbr⟩ := g.hr.blk i p b h1 h2
      refine ⟨o, ?_, hbr.mono k.ext.le⟩
      rw [k.ext.keep p.b (g.hr.lt i p h1) (hout i p b h1 h2 h3)]
      exact ho
    · exact k.hr.blk i p b hp h1
  · -- inj
    intro i j p q b c hp hq hb hc he
    have key : ∀ i j p q b c, σ i = some p → T.look i = some b → R.look i = none → σ' j = some q → (σ j = none ∨ ∃ c, R.look j = some c) → R'.look j = some c → p.b = q.b → False := by
      intro i j p q b c h1 h2 h3 h4 h5 h6 he
      cases hj : σ j with
      | some q' =>
        have := old j q' q hj h4; subst this
        rcases h5 with h5 | ⟨c0, h5⟩
        · rw [h5] at hj; cases hj
        · have := g.hr.inj i j p q' b c0 h1 hj h2 (hsub j q' c0 hj h5) he
          subst this
          rw [h3] at h5; cases h5
      | none =>
        rcases k.news j q h4 hj with h7 | h7
        · have := g.hr.lt i p h1; omega
        · rw [← he] at h7
          exact hout i p b h1 h2 h3 h7
    rcases cases' i p b hp hb with ⟨h1, h2, h3⟩ | ⟨h1, h2⟩ <;> rcases cases' j q c hq hc with ⟨k1, k2, k3⟩ | ⟨k1, k2⟩
    · exact g.hr.inj i j p q b c h1 k1 h2 k2 he
    · exact (key i j p q b c h1 h2 h3 hq k2 k1 he).elim
    · exact (key j i q p c b k1 k2 k3 hp h2 h1 he.symm).elim
    · exact k.hr.inj i j p q b c hp hq h1 k1 he
  · -- what nobody writes
    intro c o hc
    refine ⟨(k.hr.fz c o hc).1, ?_⟩
    rintro ⟨i, p, b, hp, hb, ho, rfl⟩
    rcases cases' i p b hp hb with ⟨h1, h2, _⟩ | ⟨h1, _⟩
    · rcases k.ext.nfz _ o hc with h3 | h3
      · exact (g.hr.fz _ o h3).2 ⟨i, p, b, h1, h2, ho, rfl⟩
      · have := g.hr.lt i p h1; omega
    · exact (k.hr.fz _ o hc).2 ⟨i, p, b, hp, h1, ho, rfl⟩
  · -- ext
    refine g.ext.trans ⟨k.ext.le, k.ext.nfz, k.ext.size, fun c hc hno => k.ext.keep c hc (fun h => hno (hown c h)), ?_, k.ext.os, k.ext.tape, k.ext.output⟩
    rintro c hc ⟨i, p, b, hp, hb, ho, he⟩
    rcases cases' i p b hp hb with ⟨h1, h2, _⟩ | ⟨h1, _⟩
    · exact ⟨i, p, b, h1, h2, ho, he⟩
    · exact hown c (k.ext.owns c hc ⟨i, p, b, hp, h1, ho, he⟩)
  · intro i hi
    rw [k.dom i (.inl (by have := g.next; omega)), g.dom i hi]
  · rw [mix_next]; have := g.next; have := k.next; omega
  · intro i hi
    rw [mix_next] at hi
    have h1 := k.next
    rw [k.dom i (.inr hi)]
    exact g.fresh i (by omega)
  · intro i hi hl
    have hT := g.dead i hi hl
    rw [mix_look]
    split
    · exact hT
    · rename_i hc
      have hlt : i < R.next := by have := g.next; omega
      cases hs : σ i with
      | none => exact absurd ⟨hlt, .inl hs⟩ hc
      | some p =>
        cases hr : R.look i with
        | none => exact absurd ⟨hlt, .inr hr⟩ hc
        | some b => rw [hsub i p b hs hr] at hT; cases hT
  · intro i p hp hn0
    cases hs : σ i with
    | none =>
      rcases k.news i p hp hs with h | h
      · exact .inl (Nat.le_trans g.ext.size h)
      · by_cases hb : p.b < w0.heap.size
        · exact .inr (g.ext.owns _ hb (hown _ h))
        · exact .inl (by omega)
    | some q =>
      have := old i q p hs hp; subst this
      exact g.news i q hs hn0

/-- a block at an id that was kept -/
theorem GD.addA {σ0 σ σ' : Sg} {s0 T : St} {w0 w w' : World} (g : GD σ0 s0 w0 σ T w) {id : Nat} {b : Blk} (hb : b ≠ .gone) (h1 : s0.next ≤ id) (h2 : id < T.next) (k : Good σ { T with next := id } w σ' (St.new { T with next := id } b) w') :
    GD σ0 s0 w0 σ' (ofLook (fun i => if i = id then some b else T.look i) T.next) w' := by
  have hl : ∀ i, (St.new { T with next := id } b).look i = (ofLook (fun i => if i = id then some b else T.look i) T.next).look i := by
    intro i
    rw [St.look_new _ _ _ hb, ofLook_look]
    · by_cases h : i = id
      · subst h; simp
      · rw [if_neg h, if_neg (fun e => h e.symm)]; rfl
    · intro c hc
      split at hc
      · cases hc; exact hb
      · exact look_ne_gone _ _ _ hc
  have hT : ∀ i, St.look { T with next := id } i = T.look i := fun i => rfl
  have hO : ∀ c, Owns σ { T with next := id } c ↔ Owns σ T c := fun c => Iff.rfl
  have hk := k.hr.congr hl
  have hoe : ∀ c, Owns σ' (ofLook (fun i => if i = id then some b else T.look i) T.next) c → Owns σ' (St.new { T with next := id } b) c := fun c ⟨i, p, d, e1, e2, e3, e4⟩ => ⟨i, p, d, e1, by rw [hl]; exact e2, e3, e4⟩
  have kn : (St.new { T with next := id } b).next = id + 1 := rfl
  refine ⟨hk, g.ext.trans ⟨k.ext.le, k.ext.nfz, k.ext.size, fun c hc hno => k.ext.keep c hc hno, fun c hc ho => k.ext.owns c hc (hoe c ho), k.ext.os, k.ext.tape, k.ext.output⟩, ?_, g.next, ?_, ?_, ?_⟩
  · intro i hi
    rw [k.dom i (.inl (show i < id by omega)), g.dom i hi]
  · intro i hi
    have hi : T.next ≤ i := hi
    rw [k.dom i (.inr (by rw [kn]; omega))]
    exact g.fresh i hi
  · intro i hi hl0
    rw [← hl, St.look_new _ _ _ hb, if_neg (by show ¬ id = i; omega)]
    exact g.dead i hi hl0
  · intro i p hp hn0
    cases hs : σ i with
    | none =>
      rcases k.news i p hp hs with h | h
      · exact .inl (Nat.le_trans g.ext.size h)
      · by_cases hb : p.b < w0.heap.size
        · exact .inr (g.ext.owns _ hb h)
        · exact .inl (by omega)
    | some q =>
      have := k.ext.le.p i q hs
      rw [hp] at this; cases this
      exact g.news i _ hs hn0

theorem GD.good {σ0 σ : Sg} {s0 T S : St} {w0 w : World} (g : GD σ0 s0 w0 σ T w) (h : ∀ i p, σ i = some p → T.look i = S.look i) (hd : ∀ i, i < s0.next → s0.look i = none → S.look i = none) (hn : S.next = T.next) (hb : S.base = s0.base) (hf : Fresh σ0 s0) : Good σ0 s0 w0 σ S w where
  hr := g.hr.sub fun i p b hp hb => by rw [h i p hp]; exact hb
  ext := ⟨g.ext.le, g.ext.nfz, g.ext.size, g.ext.keep, fun c hc ⟨i, p, b, h1, h2, h3, h4⟩ => g.ext.owns c hc ⟨i, p, b, h1, by rw [h i p h1]; exact h2, h3, h4⟩, g.ext.os, g.ext.tape, g.ext.output⟩
  dom := fun i hi => by
    rcases hi with hi | hi
    · exact g.dom i hi
    · rw [g.fresh i (by omega), hf i (by have := g.next; omega)]
  next := by rw [hn]; exact g.next
  dead := hd
  news := g.news
  glob := hb

end
end Go.Am
set_option linter.unusedSimpArgs false
set_option linter.unusedVariables false
set_option linter.unusedSectionVars false
namespace Go.Am
open Go
/-! ### What comes ahead of what -/

def edgeFold (c : Nat → Nat) (es : List Edge) (s0 : Nat) : Nat := es.foldl (fun s e => if Region.binds .any e then s ||| 2 ^ e.on ||| c e.on else s) s0

theorem edgeFold_bit (c : Nat → Nat) : ∀ (es : List Edge) (s0 i : Nat), (edgeFold c es s0).testBit i = true → s0.testBit i = true ∨ ∃ e ∈ es, Region.binds .any e = true ∧ (i = e.on ∨ (c e.on).testBit i = true)
  | [], s0, i, h => .inl h
  | e :: es, s0, i, h => by
    unfold edgeFold at h
    rw [List.foldl_cons] at h
    rcases edgeFold_bit c es _ i h with h1 | ⟨e', hm, hb, hr⟩
    · by_cases hb : Region.binds .any e = true
      · rw [if_pos hb] at h1
        simp only [Nat.testBit_or, Bool.or_eq_true] at h1
        rcases h1 with (h1 | h1) | h1
        · exact .inl h1
        · rw [Nat.testBit_two_pow] at h1
          exact .inr ⟨e, List.mem_cons_self .., hb, .inl (by simpa using h1 : e.on = i).symm⟩
        · exact .inr ⟨e, List.mem_cons_self .., hb, .inr h1⟩
      · rw [if_neg hb] at h1
        exact .inl h1
    · exact .inr ⟨e', List.mem_cons_of_mem _ hm, hb, hr⟩

def befStep (acc : Array Nat) (o : Oper) : Array Nat := acc.push (edgeFold (fun k => acc.getD k 0) o.after.toList 0)
def befL (l : List Oper) : Array Nat := l.foldl befStep #[]

theorem before_eq (ops : Array Oper) : Region.before ops = befL ops.toList := by
  unfold Region.before befL
  rw [← Array.foldl_toList]
  congr 1
  funext acc o
  unfold befStep edgeFold
  rw [← Array.foldl_toList]

theorem befL_snoc (l : List Oper) (o : Oper) : befL (l ++ [o]) = befStep (befL l) o := by
  unfold befL; rw [List.foldl_append]; rfl

/-- lists from the back -/
theorem revInd {α : Type} {p : List α → Prop} (h0 : p []) (h1 : ∀ l x, p l → p (l ++ [x])) (l : List α) : p l := by
  have : ∀ r : List α, p r.reverse := by
    intro r
    induction r with
    | nil => exact h0
    | cons x r ih => rw [List.reverse_cons]; exact h1 _ _ ih
  have := this l.reverse
  rwa [List.reverse_reverse] at this

theorem befL_size (l : List Oper) : (befL l).size = l.length := by
  induction l using revInd with
  | h0 => rfl
  | h1 l x ih => rw [befL_snoc]; simp [befStep, ih]

theorem befL_bit (l : List Oper) : ∀ (j i : Nat), ((befL l).getD j 0).testBit i = true → ∃ o, l[j]? = some o ∧ ∃ e ∈ o.after.toList, Region.binds .any e = true ∧ (i = e.on ∨ (e.on < j ∧ ((befL l).getD e.on 0).testBit i = true)) := by
  induction l using revInd with
  | h0 => intro j i h; simp [befL] at h
  | h1 l x ih =>
    intro j i h
    have hsz := befL_size l
    have hget : ∀ k, k < l.length → (befL (l ++ [x])).getD k 0 = (befL l).getD k 0 := by
      intro k hk
      rw [befL_snoc]
      unfold befStep
      simp only [Array.getD_eq_getD_getElem?]
      rw [Array.getElem?_push, if_neg (by omega)]
    rcases Nat.lt_trichotomy j l.length with hj | hj | hj
    · rw [hget j hj] at h
      obtain ⟨o, h1, e, h2, h3, h4⟩ := ih j i h
      refine ⟨o, by rw [List.getElem?_append_left hj]; exact h1, e, h2, h3, ?_⟩
      rcases h4 with h4 | ⟨h4, h5⟩
      · exact .inl h4
      · exact .inr ⟨h4, by rw [hget _ (by omega)]; exact h5⟩
    · subst hj
      have hv : (befL (l ++ [x])).getD l.length 0 = edgeFold (fun k => (befL l).getD k 0) x.after.toList 0 := by
        rw [befL_snoc]
        unfold befStep
        simp only [Array.getD_eq_getD_getElem?]
        rw [Array.getElem?_push, if_pos hsz.symm]
        rfl
      rw [hv] at h
      rcases edgeFold_bit _ _ _ _ h with h1 | ⟨e, h1, h2, h3⟩
      · simp at h1
      · refine ⟨x, by simp, e, h1, h2, ?_⟩
        rcases h3 with h3 | h3
        · exact .inl h3
        · have hlt : e.on < l.length := by
            rw [← hsz]
            refine Nat.lt_of_not_le fun hge => ?_
            simp only [Array.getD_eq_getD_getElem?] at h3
            rw [Array.getElem?_eq_none hge] at h3
            simp at h3
          exact .inr ⟨hlt, by rw [hget _ hlt]; exact h3⟩
    · have : (befL (l ++ [x])).getD j 0 = 0 := by
        simp only [Array.getD_eq_getD_getElem?]
        rw [Array.getElem?_eq_none (by rw [befL_size]; simp; omega)]
        rfl
      rw [this] at h; simp at h

theorem bef_spec {ops : Array Oper} {i j : Nat} (h : bef ops i j = true) : ∃ o, ops[j]? = some o ∧ ∃ e ∈ o.after.toList, Region.binds .any e = true ∧ (i = e.on ∨ (e.on < j ∧ bef ops i e.on = true)) := by
  unfold bef at h ⊢
  rw [before_eq] at h ⊢
  obtain ⟨o, h1, h2⟩ := befL_bit _ _ _ h
  exact ⟨o, by simpa using h1, h2⟩

/-- what is listed is closed -/
def Closed (ops : Array Oper) (D : Nat → Bool) : Prop := ∀ j o, D j = true → ops[j]? = some o → ∀ e ∈ o.after.toList, Region.binds .any e = true → D e.on = true

theorem bef_closed {ops : Array Oper} {D : Nat → Bool} (hD : Closed ops D) : ∀ (j i : Nat), (D j = true ∨ ∀ o, ops[j]? = some o → ∀ e ∈ o.after.toList, Region.binds .any e = true → D e.on = true) → bef ops i j = true → D i = true := by
  intro j
  induction j using Nat.strongRecOn with
  | _ j ih =>
    intro i hj h
    obtain ⟨o, ho, e, he, hb, hr⟩ := bef_spec h
    have hde : D e.on = true := by
      rcases hj with hj | hj
      · exact hD j o hj ho e he hb
      · exact hj o ho e he hb
    rcases hr with rfl | ⟨h1, h2⟩
    · exact hde
    · exact ih _ h1 i (.inl hde) h2

/-! ### How many are left -/

def left (D : Nat → Bool) : Nat → Nat
  | 0 => 0
  | n + 1 => left D n + (if D n then 0 else 1)

theorem left_zero {D : Nat → Bool} : ∀ {n : Nat}, left D n = 0 → ∀ i, i < n → D i = true
  | 0, _, i, hi => by omega
  | n + 1, h, i, hi => by
    simp only [left] at h
    by_cases e : i = n
    · subst e
      by_cases hd : D i = true
      · exact hd
      · rw [if_neg hd] at h; omega
    · exact left_zero (n := n) (by omega) i (by omega)

theorem left_same {D D' : Nat → Bool} : ∀ {n : Nat}, (∀ i, i < n → D' i = D i) → left D' n = left D n
  | 0, _ => rfl
  | n + 1, h => by simp only [left]; rw [left_same fun i hi => h i (by omega), h n (by omega)]

theorem left_set {D D' : Nat → Bool} {j : Nat} (hj : D j = false) (hj' : D' j = true) (h : ∀ i, i ≠ j → D' i = D i) : ∀ {n : Nat}, j < n → left D' n + 1 = left D n
  | 0, hn => by omega
  | n + 1, hn => by
    simp only [left]
    by_cases e : j = n
    · subst e
      rw [left_same fun i hi => h i (by omega), hj, hj']
      simp
    · have := left_set hj hj' h (n := n) (by omega)
      rw [h n (fun e' => e e'.symm)]
      omega

mutual
theorem same_val : ∀ {a b : AV}, same a b = true → a = b
  | a, b, h => by
    cases a <;> cases b <;> simp only [same, Bool.and_eq_true, beq_iff_eq, decide_eq_true_eq, Bool.false_eq_true] at h <;> try (cases h; done)
    all_goals first
      | rfl
      | (subst h; rfl)
      | (obtain ⟨rfl, rfl⟩ := h; rfl)
      | (obtain ⟨⟨⟨⟨rfl, rfl⟩, rfl⟩, rfl⟩, rfl⟩ := h; rfl)
      | (obtain ⟨⟨rfl, h1⟩, h2⟩ := h; rw [sames_val h1, sames_val h2])
      | (obtain ⟨rfl, h1⟩ := h; rw [same_val h1])
      | (obtain ⟨rfl, h1⟩ := h; rw [sames_val h1])
      | (obtain ⟨h1, h2⟩ := h; rw [sames_val h1, sames_val h2])
      | rw [sames_val h]
theorem sames_val : ∀ {a b : List AV}, sames a b = true → a = b
  | [], [], _ => rfl
  | [], _ :: _, h => by simp [sames] at h
  | _ :: _, [], h => by simp [sames] at h
  | a :: x, b :: y, h => by
    simp only [sames, Bool.and_eq_true] at h
    rw [same_val h.1, sames_val h.2]
end

end Go.Am
set_option linter.unusedSimpArgs false
set_option linter.unusedVariables false
set_option linter.unusedSectionVars false
namespace Go.Am
open Go
section
variable [Stat]
variable {X : Cx} {ex : Ex} {ops : Array Oper} {base : Nat}

theorem stepD_cases {i : Nat} {o : Oper} {e e' : Env} {s s' : St} (h : stepD X ex ops base i o e s = some (e', s')) :
    (wantedA ops e o = false ∧ e' = setDst e o.dst undef ∧ s' = s) ∨
    (wantedA ops e o = true ∧ ∃ v, e' = setDst e o.dst v ∧ (((cls X o.op).isA = true ∧ ∃ s1, opA X ex e o.op { s with next := base + i } = some (v, s1) ∧ s' = { s1 with next := s.next }) ∨
      ((cls X o.op).isA = false ∧ opA X ex e o.op s = some (v, s')))) := by
  unfold stepD at h
  split at h
  · rename_i hw
    refine .inr ⟨hw, ?_⟩
    split at h
    · rename_i hc
      split at h
      · rename_i v s1 h1
        cases h
        exact ⟨v, rfl, .inl ⟨by rw [hc]; rfl, s1, h1, rfl⟩⟩
      · cases h
    · rename_i hc
      split at h
      · rename_i v s1 h1
        cases h
        refine ⟨v, rfl, .inr ⟨?_, h1⟩⟩
        cases hk : cls X o.op <;> first | rfl | exact absurd hk hc
      · cases h
  · rename_i hw
    cases h
    exact .inl ⟨by simpa using hw, rfl, rfl⟩

def kA (X : Cx) (ops : Array Oper) (i : Nat) : Prop := ∃ o, ops[i]? = some o ∧ cls X o.op = .a
def kW (X : Cx) (ops : Array Oper) (i : Nat) : Prop := ∃ o, ops[i]? = some o ∧ cls X o.op = .w ∧ late X ops i = false
/-- a late store -/
def kS (X : Cx) (ops : Array Oper) (i : Nat) : Prop := late X ops i = true
/-- the block that it writes -/
def lb (X : Cx) (ops : Array Oper) (E : Nat → Env) (i : Nat) : Option Nat := match ops[i]? with | some o => lateBlk X (E i) o.op | none => none

theorem kS_spec {X : Cx} {ops : Array Oper} {i : Nat} (h : kS X ops i) : ∃ o, ops[i]? = some o ∧ isStore o.op = true ∧ o.guard = none ∧ cls X o.op = .w ∧ ∀ k ok, k ≠ i → ops[k]? = some ok → bef ops k i = true ∨ late X ops k = true ∨ cls X ok.op = .p ∨ cls X ok.op = .a := by
  unfold kS late at h
  simp only [Bool.and_eq_true] at h
  obtain ⟨h1, h2⟩ := h
  split at h2
  · rename_i o ho
    have h3 := h1
    unfold lateReg at h3
    simp only [Bool.and_eq_true, List.all_eq_true] at h3
    have hs : ∀ (l : List Oper) (j k : Nat) (o' : Oper), l[k]? = some o' → isStore o'.op = true → j + k ∈ sIdx j l := by
      intro l
      induction l with
      | nil => intro j k o' hk; simp at hk
      | cons x l ih =>
        intro j k o' hk hst
        unfold sIdx
        cases k with
        | zero => simp at hk; subst hk; simp [hst]
        | succ k =>
          have := ih (j + 1) k o' (by simpa using hk) hst
          rw [show j + (k + 1) = j + 1 + k by omega]
          split
          · exact List.mem_cons_of_mem _ this
          · exact this
    have h4 := h3.2 i (by simpa using hs ops.toList 0 i o (by simpa using ho) h2)
    unfold lateAt at h4
    rw [ho] at h4
    simp only [Bool.and_eq_true, List.all_eq_true, Bool.or_eq_true, beq_iff_eq, List.mem_range, Option.isNone_iff_eq_none] at h4
    obtain ⟨⟨_, h5⟩, h6⟩ := h4
    refine ⟨o, ho, h2, h5, ?_, fun k ok hk hok => ?_⟩
    · cases hop : o.op <;> rw [hop] at h2 <;> simp only [isStore] at h2 <;> first | rfl | cases h2
    · have := h6 k (Array.getElem?_eq_some_iff.1 hok).1
      rw [hok] at this
      rcases this with (h7 | h7) | h7
      · exact absurd h7 hk
      · exact .inl h7
      · rcases Bool.or_eq_true_iff.1 h7 with h8 | h8
        · refine .inr (.inl ?_)
          unfold late
          rw [h1, hok]; simpa using h8
        · cases hc : cls X ok.op <;> rw [hc] at h8 <;> simp at h8 <;> simp
  · cases h2

theorem kW_notS {X : Cx} {ops : Array Oper} {i : Nat} (h : kW X ops i) : ¬ kS X ops i := fun k => by
  obtain ⟨_, _, _, h3⟩ := h
  rw [show late X ops i = true from k] at h3; cases h3

/-- a late store, on whatever holds its block -/
theorem store_late {X : Cx} {ex : Ex} {e : Env} {o : Op} (hs : isStore o = true) {b : Nat} (hb : lateBlk X e o = some b) {s s' : St} {v : AV} (h : opA X ex e o s = some (v, s')) :
    ∃ k k', s.look b = some k ∧ k' ≠ .gone ∧ s' = s.put b k' ∧ ∀ t : St, t.get b = s.get b → opA X ex e o t = some (v, t.put b k') := by
  cases o <;> simp only [isStore] at hs <;> try (cases hs; done)
  rename_i t a x
  simp only [lateBlk] at hb
  split at hb
  · rename_i b' o' ha
    cases hb
    simp only [opA, ha] at h ⊢
    split at h
    · rename_i a1 v1 h1 hv
      cases h1
      obtain ⟨h2, rfl⟩ := unitO_some h
      unfold storeA at h2
      simp only at h2
      split at h2
      · rename_i n hn
        split at h2
        · rename_i hlen
          subst hlen
          unfold writeCells at h2
          split at h2
          · rename_i c e flo fhi hg
            split at h2
            · rename_i hc
              split at h2
              · rename_i c' hl
                cases h2
                refine ⟨_, .cells c' e false flo fhi, St.look_some hg (by simp), by simp, rfl, fun t ht => ?_⟩
                simp only [storeA, hn, if_true, writeCells, ht, hg, hc, hl, unitO]
              · cases h2
            · cases h2
          · cases h2
        · cases h2
      · cases h2
    · cases h
  · cases hb

theorem isA_iff {c : Cls} : c.isA = true ↔ c = .a := by cases c <;> simp [Cls.isA]
theorem isW_iff {c : Cls} : c.isW = true ↔ c = .w := by cases c <;> simp [Cls.isW]
theorem stepD_state {i : Nat} {o : Oper} {e e' : Env} {s s' : St} (h : stepD X ex ops base i o e s = some (e', s')) (hw : cls X o.op ≠ .w) :
    s'.next = s.next ∧ s'.base = s.base ∧ ∀ id, (cls X o.op = .a → id ≠ base + i) → s'.look id = s.look id := by
  rcases stepD_cases h with ⟨_, _, rfl⟩ | ⟨_, v, _, ⟨hc, s1, h1, rfl⟩ | ⟨hc, h1⟩⟩
  · exact ⟨rfl, rfl, fun _ _ => rfl⟩
  · have hc := isA_iff.1 hc
    obtain ⟨b, hb, rfl, _⟩ := cls_a hc h1
    refine ⟨rfl, rfl, fun id hid => ?_⟩
    have hne := hid hc
    show (St.new { s with next := base + i } b).look id = _
    rw [St.look_new _ _ _ hb, if_neg (fun e => hne e.symm)]
    rfl
  · cases hk : cls X o.op with
    | a => rw [hk] at hc; cases hc
    | w => exact absurd hk hw
    | p => obtain ⟨rfl, _⟩ := cls_p hk _ _ _ h1; exact ⟨rfl, rfl, fun _ _ => rfl⟩
    | r => obtain rfl := cls_r hk h1; exact ⟨rfl, rfl, fun _ _ => rfl⟩
    | q => obtain ⟨rfl, _⟩ := cls_c hk h1; exact ⟨rfl, rfl, fun _ _ => rfl⟩

theorem setDst_ne {e : Env} {d : Option Tmp} {v : AV} {t : Tmp} (h : d ≠ some t) : Env.get (setDst e d v) t = Env.get e t := by
  cases d with
  | none => rfl
  | some d =>
    show Env.get (Tr.set e d v) t = _
    rw [Env.get_set, if_neg (fun e => h (by rw [e]))]

theorem setDst_self {e : Env} {t : Tmp} {v : AV} : Env.get (setDst e (some t) v) t = v := by
  show Env.get (Tr.set e t v) t = _
  rw [Env.get_set, if_pos rfl]

/-- the run in the written order -/
structure Tr0 (X : Cx) (ex : Ex) (ops : Array Oper) (base : Nat) (E : Nat → Env) (S : Nat → St) : Prop where
  step : ∀ i o, ops[i]? = some o → stepD X ex ops base i o (E i) (S i) = some (E (i + 1), S (i + 1))

variable {E : Nat → Env} {S : Nat → St}

theorem Tr0.env_step (h : Tr0 X ex ops base E S) {i : Nat} {o : Oper} (ho : ops[i]? = some o) : ∃ v, E (i + 1) = setDst (E i) o.dst v := by
  rcases stepD_cases (h.step i o ho) with ⟨_, h1, _⟩ | ⟨_, v, h1, _⟩
  · exact ⟨_, h1⟩
  · exact ⟨_, h1⟩

theorem Tr0.env_keep (h : Tr0 X ex ops base E S) (t : Tmp) (a : Nat) : ∀ d, (∀ i o, a ≤ i → i < a + d → ops[i]? = some o → o.dst ≠ some t) → a + d ≤ ops.size → Env.get (E (a + d)) t = Env.get (E a) t
  | 0, _, _ => rfl
  | d + 1, hn, hs => by
    have hi : a + d < ops.size := by omega
    obtain ⟨v, hv⟩ := h.env_step (Array.getElem?_eq_getElem hi)
    rw [show a + (d + 1) = a + d + 1 from rfl, hv, setDst_ne (hn _ _ (by omega) (by omega) (Array.getElem?_eq_getElem hi))]
    exact h.env_keep t a d (fun i o h1 h2 h3 => hn i o h1 (by omega) h3) (by omega)

/-- the late stores go to blocks of their own -/
structure Late (X : Cx) (ops : Array Oper) (base : Nat) (E : Nat → Env) : Prop where
  some : ∀ i, kS X ops i → ∃ b, lb X ops E i = some b ∧ (b < base ∨ base + ops.size ≤ b)
  ne : ∀ i j, kS X ops i → kS X ops j → i ≠ j → lb X ops E i ≠ lb X ops E j

theorem Tr0.late_step (h : Tr0 X ex ops base E S) {i : Nat} {o : Oper} (ho : ops[i]? = some o) (hk : kS X ops i) {b : Nat} (hb : lb X ops E i = some b) :
    ∃ k k' v, (S i).look b = some k ∧ k' ≠ .gone ∧ S (i + 1) = (S i).put b k' ∧ E (i + 1) = setDst (E i) o.dst v ∧ ∀ t : St, t.get b = (S i).get b → opA X ex (E i) o.op t = some (v, t.put b k') := by
  obtain ⟨o', ho', hs, hg, hc, _⟩ := kS_spec hk
  rw [ho] at ho'; cases ho'
  have hb' : lateBlk X (E i) o.op = some b := by unfold lb at hb; rw [ho] at hb; exact hb
  rcases stepD_cases (h.step i o ho) with ⟨h1, _⟩ | ⟨_, v, h2, ⟨hc', _⟩ | ⟨_, h3⟩⟩
  · simp [wantedA, hg] at h1
  · rw [hc] at hc'; cases hc'
  · obtain ⟨k, k', h4, h5, h6, h7⟩ := store_late hs hb' h3
    exact ⟨k, k', v, h4, h5, h6, h2, h7⟩

theorem Tr0.between (h : Tr0 X ex ops base E S) (hL : Late X ops base E) (m : Nat) : ∀ d, m + d ≤ ops.size → (∀ i, m ≤ i → i < m + d → ¬ kW X ops i) →
    (S (m + d)).next = (S m).next ∧ (S (m + d)).base = (S m).base ∧
      (∀ id, (∀ i, m ≤ i → i < m + d → kA X ops i → id ≠ base + i) → (∀ i, m ≤ i → i < m + d → kS X ops i → lb X ops E i ≠ some id) → (S (m + d)).look id = (S m).look id) ∧
      (∀ i, m ≤ i → i < m + d → kA X ops i → (S (m + d)).look (base + i) = (S (i + 1)).look (base + i)) ∧
      ∀ i b, m ≤ i → i < m + d → kS X ops i → lb X ops E i = some b → (S (m + d)).look b = (S (i + 1)).look b
  | 0, _, _ => ⟨rfl, rfl, fun _ _ _ => rfl, fun i h1 h2 => by omega, fun i b h1 h2 => by omega⟩
  | d + 1, hs, hw => by
    have hi : m + d < ops.size := by omega
    have ho := Array.getElem?_eq_getElem hi
    obtain ⟨k1, k2, k3, k4, k5⟩ := h.between hL m d (by omega) (fun i a b => hw i a (by omega))
    rw [show m + (d + 1) = m + d + 1 from rfl]
    by_cases hk : kS X ops (m + d)
    · obtain ⟨b, hb, hrange⟩ := hL.some _ hk
      obtain ⟨k, k', v, g1, g2, g3, _, _⟩ := h.late_step ho hk hb
      have hlook : ∀ id, id ≠ b → (S (m + d + 1)).look id = (S (m + d)).look id := fun id hne => by
        rw [g3, St.look_put, if_neg (fun e => hne e.symm)]
      refine ⟨by rw [g3, ← k1]; rfl, by rw [g3, ← k2]; rfl, fun id h1 h2 => ?_, fun i a c ha => ?_, fun i b' a c hs' hb' => ?_⟩
      · rw [hlook id (fun e => h2 (m + d) (by omega) (by omega) hk (by rw [hb, e]))]
        exact k3 id (fun i a c => h1 i a (by omega)) (fun i a c => h2 i a (by omega))
      · by_cases e : i = m + d
        · subst e; rfl
        · rw [hlook _ (by omega)]
          exact k4 i a (by omega) ha
      · by_cases e : i = m + d
        · subst e; rfl
        · rw [hlook _ (fun e' => hL.ne i (m + d) hs' hk e (by rw [hb', hb, e']))]
          exact k5 i b' a (by omega) hs' hb'
    · obtain ⟨g1, g2, g3⟩ := stepD_state (h.step _ _ ho) (fun hc => hw (m + d) (by omega) (by omega) ⟨_, ho, hc, by
        cases hl : late X ops (m + d) with
        | false => rfl
        | true => exact absurd hl hk⟩)
      refine ⟨by rw [g1, k1], by rw [g2, k2], fun id h1 h2 => ?_, fun i a c ha => ?_, fun i b' a c hs' hb' => ?_⟩
      · rw [g3 id (fun hc => h1 _ (by omega) (by omega) ⟨_, ho, hc⟩)]
        exact k3 id (fun i a c => h1 i a (by omega)) (fun i a c => h2 i a (by omega))
      · by_cases e : i = m + d
        · subst e; rfl
        · rw [g3 _ (fun _ => by omega)]
          exact k4 i a (by omega) ha
      · have hne : i ≠ m + d := fun e => hk (e ▸ hs')
        obtain ⟨b2, hb2, hrange⟩ := hL.some _ hs'
        rw [hb'] at hb2; cases hb2
        rw [g3 _ (fun _ => by omega)]
        exact k5 i b' a (by omega) hs' hb'

/-! ### What is asked of the region -/

theorem apartL_spec {x y : Oper} (h : apartL ops x y = true) :
    (∀ d, x.dst = some d → d ∉ lookL ops y) ∧ (∀ d, x.dst = some d → y.dst ≠ some d) ∧ (∀ d, y.dst = some d → d ∉ lookL ops x) := by
  refine ⟨fun d hd => ?_, fun d hd => ?_, fun d hd => ?_⟩ <;> simp [apartL, hd] at h
  · exact h.1.1
  · exact h.1.2
  · exact h.2

structure Ok (X : Cx) (ops : Array Oper) : Prop where
  edge : ∀ (j : Nat) o, ops[j]? = some o → ∀ e ∈ o.after.toList, Region.binds .any e = true → e.on < j
  pair : ∀ (i j : Nat) oi oj, i < j → ops[i]? = some oi → ops[j]? = some oj → bef ops i j = true ∨
    (apartL ops oi oj = true ∧ ¬ (kA X ops i ∧ kW X ops j) ∧ ¬ (kW X ops i ∧ kW X ops j) ∧ ¬ (kS X ops i ∧ kW X ops j) ∧ ¬ (kW X ops i ∧ kS X ops j))

theorem okD_ok (h : okD X ops = true) : Ok X ops := by
  unfold okD at h
  rw [List.all_eq_true] at h
  refine ⟨fun j o ho e he hb => ?_, fun i j oi oj hij hi hj => ?_⟩
  · have hlt := (Array.getElem?_eq_some_iff.1 ho).1
    have := h j (List.mem_range.2 hlt)
    rw [ho] at this
    simp only [Bool.and_eq_true, List.all_eq_true] at this
    have := this.1.1 e he
    rw [hb] at this
    simpa using this
  · have hlt := (Array.getElem?_eq_some_iff.1 hj).1
    have := h j (List.mem_range.2 hlt)
    rw [hj] at this
    simp only [Bool.and_eq_true, List.all_eq_true] at this
    have := this.2 i (List.mem_range.2 hij)
    rw [hi] at this
    simp only [pairOk, Bool.or_eq_true, Bool.and_eq_true] at this
    rcases this with h1 | ⟨h1, h2⟩
    · exact .inl h1
    · have cw : ∀ {k ok}, ops[k]? = some ok → kW X ops k → cls X ok.op = .w ∧ late X ops k = false := fun ho ⟨o', ho', hc, hl⟩ => by rw [ho] at ho'; cases ho'; exact ⟨hc, hl⟩
      have cs : ∀ {k ok}, ops[k]? = some ok → kS X ops k → cls X ok.op = .w ∧ late X ops k = true := fun ho hk => by
        obtain ⟨o', ho', _, _, hc, _⟩ := kS_spec hk
        rw [ho] at ho'; cases ho'; exact ⟨hc, hk⟩
      have ca : ∀ {k ok}, ops[k]? = some ok → kA X ops k → cls X ok.op = .a := fun ho ⟨o', ho', hc⟩ => by rw [ho] at ho'; cases ho'; exact hc
      refine .inr ⟨h1, fun ⟨a, b⟩ => ?_, fun ⟨a, b⟩ => ?_, fun ⟨a, b⟩ => ?_, fun ⟨a, b⟩ => ?_⟩
      · rw [ca hi a, (cw hj b).1] at h2
        simp only [(cw hj b).2] at h2; cases h2
      · rw [(cw hi a).1, (cw hj b).1] at h2
        simp only [(cw hi a).2] at h2; cases h2
      · rw [(cs hi a).1, (cw hj b).1] at h2
        simp only [(cw hj b).2, Bool.and_false] at h2; cases h2
      · rw [(cw hi a).1, (cs hj b).1] at h2
        simp only [(cw hi a).2, Bool.false_and] at h2; cases h2

theorem Ok.bef_lt (h : Ok X ops) : ∀ (j i : Nat), bef ops i j = true → i < j := by
  intro j
  induction j using Nat.strongRecOn with
  | _ j ih =>
    intro i hb
    obtain ⟨o, ho, e, he, hbd, hr⟩ := bef_spec hb
    have := h.edge j o ho e he hbd
    rcases hr with rfl | ⟨h1, h2⟩
    · exact this
    · exact Nat.lt_trans (ih _ h1 i h2) h1

/-! ### Where the drawn order stands -/

/-- the memory -/
structure HI (X : Cx) (ops : Array Oper) (E : Nat → Env) (S : Nat → St) (σ0 : Sg) (s0 : St) (w0 : World) (D : Nat → Bool) (m : Nat) (σ : Sg) (T : St) (w : World) : Prop where
  gd : GD σ0 s0 w0 σ T w
  mN : m ≤ ops.size
  cutw : ∀ i, kW X ops i → (D i = true ↔ i < m)
  mw : m = 0 ∨ ∃ j, m = j + 1 ∧ kW X ops j
  t1 : ∀ id, σ id ≠ none → (∀ i, m ≤ i → D i = true → kA X ops i → id ≠ s0.next + i) → (∀ i, D i = true → kS X ops i → lb X ops E i ≠ some id) → T.look id = (S m).look id
  t2 : ∀ i, m ≤ i → D i = true → kA X ops i → σ (s0.next + i) ≠ none → T.look (s0.next + i) = (S (i + 1)).look (s0.next + i)
  t3 : T.next = (S m).next
  t4 : ∀ i b, D i = true → kS X ops i → lb X ops E i = some b → σ b ≠ none → T.look b = (S (i + 1)).look b
  u : ∀ i, kA X ops i → D i = false → σ (s0.next + i) = none
  sdead : ∀ i, i < s0.next → s0.look i = none → (S m).look i = none
  sbase : (S m).base = s0.base
  snext : s0.next + ops.size ≤ (S m).next

/-- before an operation that is ready -/
structure Rdy (ops : Array Oper) (D : Nat → Bool) (j : Nat) (o : Oper) : Prop where
  closed : Closed ops D
  op : ops[j]? = some o
  no : D j = false
  deps : ∀ e ∈ o.after.toList, Region.binds .any e = true → D e.on = true

theorem Rdy.bef {D : Nat → Bool} {j : Nat} {o : Oper} (h : Rdy ops D j o) {i : Nat} (hb : bef ops i j = true) : D i = true :=
  bef_closed h.closed j i (.inr fun o' ho' => by rw [h.op] at ho'; cases ho'; exact h.deps) hb

theorem Rdy.notBef {D : Nat → Bool} {j : Nat} {o : Oper} (h : Rdy ops D j o) {i : Nat} (hi : D i = true) : Am.bef ops j i = false := by
  cases hb : Am.bef ops j i with
  | false => rfl
  | true =>
    have := bef_closed h.closed i j (.inl hi) hb
    rw [h.no] at this; cases this

variable {σ0 : Sg} {s0 : St} {w0 : World} {D D' : Nat → Bool} {m : Nat} {σ σ' : Sg} {T : St} {w w' : World}

def Adds (D D' : Nat → Bool) (j : Nat) : Prop := D' j = true ∧ ∀ i, i ≠ j → D' i = D i

theorem Adds.of {D D' : Nat → Bool} {j : Nat} (h : Adds D D' j) {i : Nat} (hi : D' i = true) : i = j ∨ D i = true := by
  by_cases e : i = j
  · exact .inl e
  · rw [h.2 i e] at hi; exact .inr hi

theorem Adds.false {D D' : Nat → Bool} {j : Nat} (h : Adds D D' j) {i : Nat} (hi : D' i = false) : D i = false := by
  by_cases e : i = j
  · subst e; rw [h.1] at hi; cases hi
  · rw [h.2 i e] at hi; exact hi

/-- nothing late is done while something is left that reads or writes otherwise -/
theorem Rdy.noLate {D : Nat → Bool} {j : Nat} {o : Oper} (hr : Rdy ops D j o) (hp : cls X o.op ≠ .p) (ha : cls X o.op ≠ .a) (hl : late X ops j = false) : ∀ i, D i = true → ¬ kS X ops i := by
  intro i hi hk
  obtain ⟨oi, hoi, _, _, _, h⟩ := kS_spec hk
  have hne : j ≠ i := fun e => by
    rw [e] at hl
    rw [show late X ops i = true from hk] at hl; cases hl
  rcases h j o hne hr.op with hb | hb | hb | hb
  · rw [hr.notBef hi] at hb; cases hb
  · rw [hl] at hb; cases hb
  · exact hp hb
  · exact ha hb

/-- an operation that leaves the memory as it is -/
theorem HI.keep (h : HI X ops E S σ0 s0 w0 D m σ T w) {j : Nat} {o : Oper} (hr : Rdy ops D j o) (hD : Adds D D' j) (hk : ¬ kW X ops j) (hks : ¬ kS X ops j) {R : St} (hsub : ∀ i p b, σ i = some p → R.look i = some b → T.look i = some b) (hn : R.next = T.next)
    (k : Good σ R w σ' R w') (ha : kA X ops j → σ' = σ) : HI X ops E S σ0 s0 w0 D' m σ' (mix σ T R R) w' := by
  have hid : ∀ id, σ' id ≠ none → σ id = σ' id ∧ (mix σ T R R).look id = T.look id := by
    intro id hne
    have hlt : id < R.next := by
      refine Nat.lt_of_not_le fun hge => hne ?_
      rw [k.dom id (.inr hge)]
      exact h.gd.fresh id (by rw [← hn]; exact hge)
    have he := k.dom id (.inl hlt)
    refine ⟨he.symm, ?_⟩
    rw [mix_look]
    split
    · rfl
    · rename_i hc
      cases hs : σ id with
      | none => exact absurd ⟨hlt, .inl hs⟩ hc
      | some p =>
        cases hl : R.look id with
        | none => exact absurd ⟨hlt, .inr hl⟩ hc
        | some b => exact (hsub id p b hs hl).symm
  have hjw : ∀ i, kW X ops i → i ≠ j := fun i hi e => hk (e ▸ hi)
  have hup : ∀ i, D i = true → D' i = true := fun i hi => by
    by_cases e : i = j
    · subst e; exact hD.1
    · rw [hD.2 i e]; exact hi
  refine ⟨frame h.gd hsub hn k, h.mN, fun i hi => ?_, h.mw, fun id hne hall hall2 => ?_, fun i h1 h2 h3 h4 => ?_, by rw [mix_next, hn]; exact h.t3, fun i b h1 h2 h3 h4 => ?_, fun i h1 h2 => ?_, h.sdead, h.sbase, h.snext⟩
  · rw [hD.2 i (hjw i hi)]; exact h.cutw i hi
  · obtain ⟨e1, e2⟩ := hid id hne
    rw [e2]
    exact h.t1 id (by rw [e1]; exact hne) (fun i h1 h2 h3 => hall i h1 (hup i h2) h3) (fun i h1 h2 => hall2 i (hup i h1) h2)
  · obtain ⟨e1, e2⟩ := hid _ h4
    rw [e2]
    rcases hD.of h2 with e | hd
    · subst e
      have := h.u i h3 hr.no
      rw [ha h3, this] at h4
      exact absurd rfl h4
    · exact h.t2 i h1 hd h3 (by rw [e1]; exact h4)
  · obtain ⟨e1, e2⟩ := hid _ h4
    rw [e2]
    rcases hD.of h1 with e | hd
    · exact absurd (e ▸ h2) hks
    · exact h.t4 i b hd h2 h3 (by rw [e1]; exact h4)
  · have := h.u i h1 (hD.false h2)
    have hlt : s0.next + i < R.next := by
      obtain ⟨o', ho', _⟩ := h1
      have := (Array.getElem?_eq_some_iff.1 ho').1
      have := h.snext
      rw [hn, h.t3]; omega
    rw [k.dom _ (.inl hlt)]; exact this

/-- the memory ahead of an operation of class w, in the written order, against what there is -/
theorem HI.sub_w (h : HI X ops E S σ0 s0 w0 D m σ T w) (ht : Tr0 X ex ops s0.next E S) (hL : Late X ops s0.next E) (hok : Ok X ops) (hnone : ∀ i, m ≤ i → kA X ops i → (S m).look (s0.next + i) = none) {j : Nat} {o : Oper} (hr : Rdy ops D j o) (hk : kW X ops j) :
    m ≤ j ∧ (S j).next = T.next ∧ (S j).base = s0.base ∧ (∀ i, i < s0.next → s0.look i = none → (S j).look i = none) ∧ (∀ i p b, σ i = some p → (S j).look i = some b → T.look i = some b) ∧
      (∀ i, j < i → kA X ops i → (S j).look (s0.next + i) = none) ∧ (∀ id, σ id ≠ none → (S j).look id = none → (∀ i, j < i → D i = true → kA X ops i → id ≠ s0.next + i) → T.look id = none) := by
  have hjlt : j < ops.size := (Array.getElem?_eq_some_iff.1 hr.op).1
  have hkj : cls X o.op = .w ∧ late X ops j = false := by obtain ⟨o', ho', h1, h2⟩ := hk; rw [hr.op] at ho'; cases ho'; exact ⟨h1, h2⟩
  have hnl : ∀ i, D i = true → ¬ kS X ops i := hr.noLate (by rw [hkj.1]; simp) (by rw [hkj.1]; simp) hkj.2
  have hmj : m ≤ j := by
    refine Nat.le_of_not_lt fun hlt => ?_
    have := (h.cutw j hk).2 hlt
    rw [hr.no] at this; cases this
  have hnw : ∀ i, m ≤ i → i < j → ¬ kW X ops i := by
    intro i h1 h2 hki
    obtain ⟨oi, hoi, _⟩ := id hki
    have hb : bef ops i j = true := by
      rcases hok.pair i j oi o h2 hoi hr.op with hb | ⟨_, _, hne, _⟩
      · exact hb
      · exact absurd ⟨hki, hk⟩ hne
    have := (h.cutw i hki).1 (hr.bef hb)
    omega
  have hns : ∀ i, i < j → ¬ kS X ops i := by
    intro i hij hs
    obtain ⟨oi, hoi, _⟩ := kS_spec hs
    rcases hok.pair i j oi o hij hoi hr.op with hb | ⟨_, _, _, hne, _⟩
    · exact hnl i (hr.bef hb) hs
    · exact hne ⟨hs, hk⟩
  have haD : ∀ i, i < j → kA X ops i → D i = true := by
    intro i h2 hki
    obtain ⟨oi, hoi, _⟩ := id hki
    rcases hok.pair i j oi o h2 hoi hr.op with hb | ⟨_, hne, _⟩
    · exact hr.bef hb
    · exact absurd ⟨hki, hk⟩ hne
  obtain ⟨d, rfl⟩ : ∃ d, j = m + d := ⟨j - m, by omega⟩
  obtain ⟨b1, b2, b3, b4, _⟩ := ht.between hL m d (by omega) hnw
  have b3 : ∀ id, (∀ i, m ≤ i → i < m + d → kA X ops i → id ≠ s0.next + i) → (S (m + d)).look id = (S m).look id := fun id h1 => b3 id h1 fun i _ h3 h4 => absurd h4 (hns i h3)
  have ht1 : ∀ id, σ id ≠ none → (∀ i, m ≤ i → D i = true → kA X ops i → id ≠ s0.next + i) → T.look id = (S m).look id := fun id h1 h2 => h.t1 id h1 h2 fun i h3 h4 => absurd h4 (hnl i h3)
  -- what stands at an id
  have at_ : ∀ id, (∃ i, m ≤ i ∧ i < m + d ∧ kA X ops i ∧ id = s0.next + i) ∨ (S (m + d)).look id = (S m).look id := by
    intro id
    by_cases hx : ∃ i, m ≤ i ∧ i < m + d ∧ kA X ops i ∧ id = s0.next + i
    · exact .inl hx
    · exact .inr (b3 id fun i h1 h2 h3 e => hx ⟨i, h1, h2, h3, e⟩)
  have hlate : ∀ i, m + d < i → kA X ops i → (S (m + d)).look (s0.next + i) = none := by
    intro i hi ha
    rw [b3 _ (fun i' h1 h2 h3 e => by omega)]
    exact hnone i (by omega) ha
  refine ⟨hmj, by rw [b1, h.t3], by rw [b2, h.sbase], fun i hi hl => ?_, fun id p b hp hb => ?_, hlate, fun id hne hl hall => ?_⟩
  · rw [b3 i fun i' _ _ _ e => by omega]
    exact h.sdead i hi hl
  · rcases at_ id with ⟨i, h1, h2, h3, rfl⟩ | he
    · rw [h.t2 i h1 (haD i h2 h3) h3 (by rw [hp]; simp), ← b4 i h1 h2 h3]; exact hb
    · rw [ht1 id (by rw [hp]; simp) ?_, ← he]
      · exact hb
      · rintro i h1 h2 h3 rfl
        have := hnone i h1 h3
        rw [← he, hb] at this; cases this
  · rcases at_ id with ⟨i, h1, h2, h3, rfl⟩ | he
    · rw [h.t2 i h1 (haD i h2 h3) h3 hne, ← b4 i h1 h2 h3]; exact hl
    · by_cases hx : ∃ i, m ≤ i ∧ D i = true ∧ kA X ops i ∧ id = s0.next + i
      · obtain ⟨i, h1, h2, h3, rfl⟩ := hx
        rcases Nat.lt_trichotomy i (m + d) with hlt | heq | hgt
        · rw [h.t2 i h1 h2 h3 hne, ← b4 i h1 hlt h3]; exact hl
        · subst heq; rw [hr.no] at h2; cases h2
        · exact absurd rfl (hall i hgt h2 h3)
      · rw [ht1 id hne fun i h1 h2 h3 e => hx ⟨i, h1, h2, h3, e⟩, ← he]; exact hl

/-- an operation of class w -/
theorem HI.wr (h : HI X ops E S σ0 s0 w0 D m σ T w) (ht : Tr0 X ex ops s0.next E S) (hL : Late X ops s0.next E) (hok : Ok X ops) (hnone : ∀ i, m ≤ i → kA X ops i → (S m).look (s0.next + i) = none) {j : Nat} {o : Oper} (hr : Rdy ops D j o) (hD : Adds D D' j) (hk : kW X ops j)
    (k : Good σ (S j) w σ' (S (j + 1)) w') : HI X ops E S σ0 s0 w0 D' (j + 1) σ' (mix σ T (S j) (S (j + 1))) w' := by
  obtain ⟨a1, a2, a3, a4, a5, a6, a7⟩ := h.sub_w ht hL hok hnone hr hk
  have hjlt : j < ops.size := (Array.getElem?_eq_some_iff.1 hr.op).1
  have hkj : cls X o.op = .w ∧ late X ops j = false := by obtain ⟨o', ho', h1, h2⟩ := hk; rw [hr.op] at ho'; cases ho'; exact ⟨h1, h2⟩
  have hnl : ∀ i, D i = true → ¬ kS X ops i := hr.noLate (by rw [hkj.1]; simp) (by rw [hkj.1]; simp) hkj.2
  have hnx : s0.next + ops.size ≤ (S j).next := by rw [a2, h.t3]; exact h.snext
  have hfresh : ∀ id, σ' id ≠ none → id < (S j).next → σ id = σ' id := fun id _ hlt => (k.dom id (.inl hlt)).symm
  refine ⟨frame h.gd a5 a2 k, hjlt, fun i hi => ?_, .inr ⟨j, rfl, hk⟩, fun id hne hall _ => ?_, fun i h1 h2 h3 h4 => ?_, rfl, fun i b h1 h2 _ _ => ?_, fun i h1 h2 => ?_, fun i hi hl => ?_, by rw [k.glob, a3], ?_⟩
  · have hki := hi
    obtain ⟨oi, hoi, _⟩ := hi
    rcases Nat.lt_trichotomy i j with hlt | heq | hgt
    · rw [hD.2 i (by omega)]
      have : D i = true := by
        rcases hok.pair i j oi o hlt hoi hr.op with hb | ⟨_, _, hne, _⟩
        · exact hr.bef hb
        · exact absurd ⟨hki, hk⟩ hne
      simp [this]; omega
    · subst heq; simp [hD.1]
    · rw [hD.2 i (by omega)]
      have : D i = false := by
        cases hd : D i with
        | false => rfl
        | true =>
          have hb := hr.notBef hd
          rcases hok.pair j i o oi hgt hr.op hoi with hb' | ⟨_, _, hne, _⟩
          · rw [hb] at hb'; cases hb'
          · exact absurd ⟨hk, hki⟩ hne
      simp [this]; omega
  · rw [mix_look]
    split
    · rename_i hc
      have he := hfresh id hne hc.1
      rcases hc.2 with hs | hl
      · rw [he] at hs; exact absurd hs hne
      · rw [k.dead id hc.1 hl]
        refine a7 id (by rw [he]; exact hne) hl fun i hi hd ha e => hall i hi ?_ ha e
        rw [hD.2 i (by omega)]; exact hd
    · rfl
  · have hilt : i < ops.size := by obtain ⟨o', ho', _⟩ := h3; exact (Array.getElem?_eq_some_iff.1 ho').1
    have hd : D i = true := by rw [hD.2 i (by omega)] at h2; exact h2
    have he := hfresh _ h4 (by omega)
    rw [mix_look, if_pos ⟨by omega, .inr (a6 i (by omega) h3)⟩]
    exact h.t2 i (by omega) hd h3 (by rw [he]; exact h4)
  · rcases hD.of h1 with e | hd
    · exact absurd (e ▸ h2) (kW_notS hk)
    · exact absurd h2 (hnl i hd)
  · have hilt : i < ops.size := by obtain ⟨o', ho', _⟩ := h1; exact (Array.getElem?_eq_some_iff.1 ho').1
    rw [k.dom _ (.inl (by omega))]
    exact h.u i h1 (hD.false h2)
  · exact k.dead i (by omega) (a4 i hi hl)
  · have := k.next; omega

/-- an operation that makes a block -/
theorem HI.al (h : HI X ops E S σ0 s0 w0 D m σ T w) (hL : Late X ops s0.next E) (hok : Ok X ops) {j : Nat} {o : Oper} (hr : Rdy ops D j o) (hD : Adds D D' j) (hk : cls X o.op = .a) {b : Blk} (hb : b ≠ .gone) (hS : (S (j + 1)).look (s0.next + j) = some b)
    (k : Good σ { T with next := s0.next + j } w σ' (St.new { T with next := s0.next + j } b) w') :
    HI X ops E S σ0 s0 w0 D' m σ' (ofLook (fun i => if i = s0.next + j then some b else T.look i) T.next) w' := by
  have hjlt : j < ops.size := (Array.getElem?_eq_some_iff.1 hr.op).1
  have hnx := h.snext
  have hka : kA X ops j := ⟨o, hr.op, hk⟩
  have hlook : ∀ id, (ofLook (fun i => if i = s0.next + j then some b else T.look i) T.next).look id = if id = s0.next + j then some b else T.look id := by
    intro id
    rw [ofLook_look]
    intro c' hc
    split at hc
    · cases hc; exact hb
    · exact look_ne_gone _ _ _ hc
  have hdom : ∀ id, id ≠ s0.next + j → σ' id = σ id := fun id hne => by
    refine k.dom id ?_
    rcases Nat.lt_trichotomy id (s0.next + j) with hlt | heq | hgt
    · exact .inl hlt
    · exact absurd heq hne
    · exact .inr (show s0.next + j + 1 ≤ id by omega)
  have hjw : ∀ i, kW X ops i → i ≠ j := fun i ⟨o', ho', hc, _⟩ e => by
    subst e; rw [hr.op] at ho'; cases ho'; rw [hk] at hc; cases hc
  have hjs : ¬ kS X ops j := fun hs => by
    obtain ⟨o', ho', _, _, hc, _⟩ := kS_spec hs
    rw [hr.op] at ho'; cases ho'; rw [hk] at hc; cases hc
  have hup : ∀ i, D i = true → D' i = true := fun i hi => by
    by_cases e : i = j
    · subst e; exact hD.1
    · rw [hD.2 i e]; exact hi
  have hmj : m ≤ j := by
    rcases h.mw with e | ⟨l, rfl, hl⟩
    · omega
    · refine Nat.le_of_not_lt fun hlt => ?_
      have hDl : D l = true := (h.cutw l hl).2 (by omega)
      have hjl : j ≠ l := fun e => hjw l hl e.symm
      have hb := hr.notBef hDl
      obtain ⟨ol, hol, _⟩ := id hl
      rcases hok.pair j l o ol (by omega) hr.op hol with hb' | ⟨_, hne, _⟩
      · rw [hb] at hb'; cases hb'
      · exact hne ⟨hka, hl⟩
  refine ⟨h.gd.addA hb (by omega) (by rw [h.t3]; omega) k, h.mN, fun i hi => ?_, h.mw, fun id hne hall hall2 => ?_, fun i h1 h2 h3 h4 => ?_, h.t3, fun i b' h1 h2 h3 h4 => ?_, fun i h1 h2 => ?_, h.sdead, h.sbase, h.snext⟩
  · rw [hD.2 i (hjw i hi)]; exact h.cutw i hi
  · have hidj : id ≠ s0.next + j := hall j hmj hD.1 hka
    rw [hlook, if_neg hidj]
    exact h.t1 id (by rw [← hdom id hidj]; exact hne) (fun i h1 h2 h3 => hall i h1 (hup i h2) h3) (fun i h1 h2 => hall2 i (hup i h1) h2)
  · by_cases e : i = j
    · subst e; rw [hlook, if_pos rfl, hS]
    · rw [hlook, if_neg (by omega)]
      refine h.t2 i h1 ?_ h3 (by rw [← hdom _ (by omega)]; exact h4)
      rw [hD.2 i e] at h2; exact h2
  · have hij : i ≠ j := fun e => hjs (e ▸ h2)
    obtain ⟨b2, e2, hrange⟩ := hL.some i h2
    rw [h3] at e2; cases e2
    rw [hlook, if_neg (by omega)]
    exact h.t4 i b' (by rw [hD.2 i hij] at h1; exact h1) h2 h3 (by rw [← hdom _ (by omega)]; exact h4)
  · have : i ≠ j := by rintro rfl; rw [hD.1] at h2; cases h2
    rw [hdom _ (by omega)]
    exact h.u i h1 (hD.false h2)

/-- what a late store finds -/
theorem HI.find_late (h : HI X ops E S σ0 s0 w0 D m σ T w) (ht : Tr0 X ex ops s0.next E S) (hL : Late X ops s0.next E) (hok : Ok X ops) {j : Nat} {o : Oper} (hr : Rdy ops D j o) (hk : kS X ops j) {b : Nat} (hb : lb X ops E j = some b) (hσ : σ b ≠ none) : T.look b = (S j).look b := by
  have hjlt : j < ops.size := (Array.getElem?_eq_some_iff.1 hr.op).1
  obtain ⟨b2, e2, hrange⟩ := hL.some j hk
  rw [hb] at e2; cases e2
  obtain ⟨oj, hoj, _, _, _, hall⟩ := kS_spec hk
  have hwD : ∀ i, kW X ops i → i < m := by
    intro i hi
    refine (h.cutw i hi).1 ?_
    obtain ⟨oi, hoi, hc, hl⟩ := id hi
    have hne : i ≠ j := fun e => kW_notS hi (e ▸ hk)
    rcases hall i oi hne hoi with hb' | hb' | hb' | hb'
    · exact hr.bef hb'
    · rw [hl] at hb'; cases hb'
    · rw [hc] at hb'; cases hb'
    · rw [hc] at hb'; cases hb'
  have hmj : m ≤ j := by
    rcases h.mw with e | ⟨l, rfl, hl⟩
    · omega
    · refine Nat.le_of_not_lt fun hlt => ?_
      have hne : l ≠ j := fun e => kW_notS hl (e ▸ hk)
      obtain ⟨ol, hol, hc, hll⟩ := id hl
      rcases hall l ol hne hol with hb' | hb' | hb' | hb'
      · have := hok.bef_lt j l hb'
        omega
      · rw [hll] at hb'; cases hb'
      · rw [hc] at hb'; cases hb'
      · rw [hc] at hb'; cases hb'
  rw [h.t1 b hσ (fun i _ _ hka e => by
      obtain ⟨o', ho', _⟩ := hka
      have := (Array.getElem?_eq_some_iff.1 ho').1
      omega) (fun i hi hs e => by
      by_cases hij : i = j
      · subst hij; rw [hr.no] at hi; cases hi
      · exact hL.ne i j hs hk hij (by rw [e, hb]))]
  obtain ⟨d, hd⟩ : ∃ d, j = m + d := ⟨j - m, by omega⟩
  obtain ⟨_, _, b3, _, _⟩ := ht.between hL m d (by omega) (fun i h1 _ hw => by have := hwD i hw; omega)
  rw [hd]
  refine (b3 b (fun i _ h2 hka e => ?_) (fun i _ h2 hs e => ?_)).symm
  · obtain ⟨o', ho', _⟩ := hka
    have := (Array.getElem?_eq_some_iff.1 ho').1
    omega
  · exact hL.ne i j hs hk (by omega) (by rw [e, hb])

/-- a late store -/
theorem HI.st (h : HI X ops E S σ0 s0 w0 D m σ T w) (hL : Late X ops s0.next E) {j : Nat} {o : Oper} (hr : Rdy ops D j o) (hD : Adds D D' j) (hk : kS X ops j) {b : Nat} (hb : lb X ops E j = some b) (hσ : σ b ≠ none) {k0 k' : Blk} (hT : T.look b = some k0) (hk' : k' ≠ .gone) (hS : (S (j + 1)).look b = some k')
    (k : Good σ T w σ' (T.put b k') w') : HI X ops E S σ0 s0 w0 D' m σ' (mix σ T T (T.put b k')) w' := by
  have hdom : ∀ id, σ' id = σ id := fun id => k.dom id (by
    show id < T.next ∨ T.next ≤ id
    omega)
  have hlook : ∀ id, σ id ≠ none → (mix σ T T (T.put b k')).look id = if b = id then some k' else T.look id := by
    intro id hne
    have hlt : id < T.next := Nat.lt_of_not_le fun hge => hne (h.gd.fresh id hge)
    rw [mix_look]
    by_cases e : b = id
    · subst e
      rw [if_neg (fun hc => by
        rcases hc.2 with h1 | h1
        · exact hne h1
        · rw [hT] at h1; cases h1), St.look_put, if_pos rfl, if_pos rfl]
      cases k' <;> first | rfl | exact absurd rfl hk'
    · rw [if_neg e]
      split
      · rfl
      · rw [St.look_put, if_neg e]
  have hjw : ∀ i, kW X ops i → i ≠ j := fun i hi e => kW_notS hi (e ▸ hk)
  have hja : ∀ i, kA X ops i → i ≠ j := fun i ⟨o', ho', hc⟩ e => by
    subst e
    obtain ⟨o2, ho2, _, _, hc2, _⟩ := kS_spec hk
    rw [ho'] at ho2; cases ho2; rw [hc] at hc2; cases hc2
  have hup : ∀ i, D i = true → D' i = true := fun i hi => by
    by_cases e : i = j
    · subst e; exact hD.1
    · rw [hD.2 i e]; exact hi
  obtain ⟨b2, e2, hrange⟩ := hL.some j hk
  rw [hb] at e2; cases e2
  refine ⟨frame h.gd (fun _ _ _ _ hb => hb) rfl k, h.mN, fun i hi => ?_, h.mw, fun id hne hall hall2 => ?_, fun i h1 h2 h3 h4 => ?_, h.t3, fun i b' h1 h2 h3 h4 => ?_, fun i h1 h2 => ?_, h.sdead, h.sbase, h.snext⟩
  · rw [hD.2 i (hjw i hi)]; exact h.cutw i hi
  · have hne' : σ id ≠ none := by rw [← hdom id]; exact hne
    rw [hlook id hne', if_neg (fun e => hall2 j hD.1 hk (by rw [hb, e]))]
    exact h.t1 id hne' (fun i h1 h2 h3 => hall i h1 (hup i h2) h3) (fun i h1 h2 => hall2 i (hup i h1) h2)
  · have h4' : σ (s0.next + i) ≠ none := by rw [← hdom]; exact h4
    have hilt : i < ops.size := by obtain ⟨o', ho', _⟩ := h3; exact (Array.getElem?_eq_some_iff.1 ho').1
    rw [hlook _ h4', if_neg (by omega)]
    exact h.t2 i h1 (by rw [hD.2 i (hja i h3)] at h2; exact h2) h3 h4'
  · have h4' : σ b' ≠ none := by rw [← hdom]; exact h4
    rw [hlook _ h4']
    by_cases e : i = j
    · subst e
      rw [hb] at h3; cases h3
      rw [if_pos rfl, hS]
    · rw [if_neg (fun e' => hL.ne i j h2 hk e (by rw [h3, hb, e']))]
      exact h.t4 i b' (by rw [hD.2 i e] at h1; exact h1) h2 h3 h4'
  · rw [hdom]; exact h.u i h1 (hD.false h2)

end
end Go.Am
set_option linter.unusedSimpArgs false
set_option linter.unusedVariables false
set_option linter.unusedSectionVars false
namespace Go.Am
open Go
section
variable [Stat]
variable {X : Cx} {ex : Ex} {ops : Array Oper} {base : Nat}

/-! ### The run in the written order, read apart -/

def trE (tr : List (Env × St)) (i : Nat) : Env := ((tr[i]?).getD (.nil, { t := .nil, base := fun _ => none, next := 0 })).1
def trS (tr : List (Env × St)) (i : Nat) : St := ((tr[i]?).getD (.nil, { t := .nil, base := fun _ => none, next := 0 })).2

theorem goD_spec : ∀ (l : List Oper) (i : Nat) (e : Env) (s : St) (tr : List (Env × St)), goD X ex ops base i l e s = some tr →
    tr.length = l.length + 1 ∧ tr[0]? = some (e, s) ∧ ∀ (k : Nat) o, l[k]? = some o → stepD X ex ops base (i + k) o (trE tr k) (trS tr k) = some (trE tr (k + 1), trS tr (k + 1))
  | [], i, e, s, tr, h => by simp only [goD] at h; cases h; simp
  | o :: l, i, e, s, tr, h => by
    simp only [goD] at h
    split at h
    · rename_i e1 s1 h1
      split at h
      · rename_i r h2
        cases h
        obtain ⟨k1, k2, k3⟩ := goD_spec l (i + 1) e1 s1 r h2
        refine ⟨by simp [k1], by simp, fun k o' hk => ?_⟩
        cases k with
        | zero =>
          simp at hk; subst hk
          have : trE ((e, s) :: r) (0 + 1) = e1 ∧ trS ((e, s) :: r) (0 + 1) = s1 := by simp [trE, trS, k2]
          rw [this.1, this.2]
          simpa [trE, trS] using h1
        | succ k =>
          have := k3 k o' (by simpa using hk)
          rw [show i + (k + 1) = i + 1 + k by omega]
          simpa [trE, trS] using this
      · cases h
    · cases h

theorem lastD_spec : ∀ (tr : List (Env × St)), lastD tr = tr.getLast?
  | [] => rfl
  | [x] => rfl
  | x :: y :: l => by
    show lastD (y :: l) = _
    rw [lastD_spec (y :: l), List.getLast?_cons_cons]

theorem wIdx_mem : ∀ (l : List Oper) (i j : Nat), j ∈ wIdx X ops i l ↔ ∃ k o, l[k]? = some o ∧ j = i + k ∧ ((cls X o.op).isW && !late X ops j) = true
  | [], i, j => by simp [wIdx]
  | o :: l, i, j => by
    have ih := wIdx_mem l (i + 1) j
    have key : (∃ (k : Nat) (o' : Oper), (o :: l)[k]? = some o' ∧ j = i + k ∧ ((cls X o'.op).isW && !late X ops j) = true) ↔ (((cls X o.op).isW && !late X ops i) = true ∧ j = i) ∨ ∃ (k : Nat) (o' : Oper), l[k]? = some o' ∧ j = i + 1 + k ∧ ((cls X o'.op).isW && !late X ops j) = true := by
      constructor
      · rintro ⟨k, o', h1, h2, h3⟩
        cases k with
        | zero => simp at h1; subst h1; have e : j = i := by omega
                  exact .inl ⟨e ▸ h3, e⟩
        | succ k => exact .inr ⟨k, o', by simpa using h1, by omega, h3⟩
      · rintro (⟨h1, h2⟩ | ⟨k, o', h1, h2, h3⟩)
        · exact ⟨0, o, by simp, by omega, h2 ▸ h1⟩
        · exact ⟨k + 1, o', by simpa using h1, by omega, h3⟩
    rw [key]
    unfold wIdx
    split
    · rename_i hc
      rw [List.mem_cons, ih]
      constructor
      · rintro (h | h)
        · exact .inl ⟨hc, h⟩
        · exact .inr h
      · rintro (h | h)
        · exact .inl h.2
        · exact .inr h
    · rename_i hc
      rw [ih]
      constructor
      · exact .inr
      · rintro (h | h)
        · exact absurd h.1 hc
        · exact h

theorem wIdx_sorted : ∀ (l : List Oper) (i : Nat), (wIdx X ops i l).Pairwise (· < ·)
  | [], i => by simp [wIdx]
  | o :: l, i => by
    unfold wIdx
    split
    · refine List.pairwise_cons.2 ⟨fun j hj => ?_, wIdx_sorted l (i + 1)⟩
      obtain ⟨k, o', _, h2, _⟩ := (wIdx_mem l (i + 1) j).1 hj
      omega
    · exact wIdx_sorted l (i + 1)

theorem lateIds_spec : ∀ (l : List Oper) (tr : List (Env × St)) (i : Nat), tr.length = l.length + 1 → ∀ k : Nat, k < l.length → late X ops (i + k) = true → ∃ (q : Nat) (o : Oper), l[k]? = some o ∧ (lateIds X ops i l tr)[q]? = some (lateBlk X (trE tr k) o.op) ∧
    ∀ (k' : Nat) (o' : Oper), k < k' → l[k']? = some o' → late X ops (i + k') = true → ∃ q' : Nat, q < q' ∧ (lateIds X ops i l tr)[q']? = some (lateBlk X (trE tr k') o'.op)
  | [], tr, i, _, k, hk, _ => by simp at hk
  | o :: l, [], i, h, k, hk, _ => by simp at h
  | o :: l, (e, s) :: tr, i, h, 0, hk, hl => by
    have ht := lateIds_spec l tr (i + 1) (by simpa using h)
    unfold lateIds
    rw [if_pos (by simpa using hl)]
    refine ⟨0, o, rfl, by simp [trE], fun k' o' h1 h2 h3 => ?_⟩
    obtain ⟨k2, rfl⟩ : ∃ k2, k' = k2 + 1 := ⟨k' - 1, by omega⟩
    have h2' : l[k2]? = some o' := by simpa using h2
    obtain ⟨q, o2, g1, g2, _⟩ := ht k2 (List.getElem?_eq_some_iff.1 h2').1 (by rw [show i + 1 + k2 = i + (k2 + 1) by omega]; exact h3)
    rw [h2'] at g1; cases g1
    refine ⟨q + 1, by omega, ?_⟩
    rw [List.getElem?_cons_succ, g2]
    simp [trE]
  | o :: l, (e, s) :: tr, i, h, k + 1, hk, hl => by
    have ht := lateIds_spec l tr (i + 1) (by simpa using h)
    have hk' : k < l.length := by simpa using hk
    obtain ⟨q, o2, g1, g2, g3⟩ := ht k hk' (by rw [show i + 1 + k = i + (k + 1) by omega]; exact hl)
    unfold lateIds
    have tre : ∀ n, trE ((e, s) :: tr) (n + 1) = trE tr n := fun n => by simp [trE]
    split
    · refine ⟨q + 1, o2, by simpa using g1, by rw [List.getElem?_cons_succ, tre]; exact g2, fun k' o' h1 h2 h3 => ?_⟩
      obtain ⟨k2, rfl⟩ : ∃ k2, k' = k2 + 1 := ⟨k' - 1, by omega⟩
      obtain ⟨q', e1, e2⟩ := g3 k2 o' (by omega) (by simpa using h2) (by rw [show i + 1 + k2 = i + (k2 + 1) by omega]; exact h3)
      exact ⟨q' + 1, by omega, by rw [List.getElem?_cons_succ, tre]; exact e2⟩
    · refine ⟨q, o2, by simpa using g1, by rw [tre]; exact g2, fun k' o' h1 h2 h3 => ?_⟩
      obtain ⟨k2, rfl⟩ : ∃ k2, k' = k2 + 1 := ⟨k' - 1, by omega⟩
      obtain ⟨q', e1, e2⟩ := g3 k2 o' (by omega) (by simpa using h2) (by rw [show i + 1 + k2 = i + (k2 + 1) by omega]; exact h3)
      exact ⟨q', e1, by rw [tre]; exact e2⟩

theorem lateOk_spec {n : Nat} : ∀ (l : List (Option Nat)), lateOk base n l = true → (∀ x ∈ l, ∃ b, x = some b ∧ (b < base ∨ base + n ≤ b)) ∧ ∀ (q q' : Nat) x y, q < q' → l[q]? = some x → l[q']? = some y → x ≠ y
  | [], _ => ⟨fun x hx => (by cases hx), fun q q' x y _ h => by simp at h⟩
  | none :: l, h => by simp [lateOk] at h
  | some b :: l, h => by
    simp only [lateOk, Bool.and_eq_true, Bool.or_eq_true, decide_eq_true_eq, List.all_eq_true, Bool.not_eq_true', beq_eq_false_iff_ne, ne_eq] at h
    obtain ⟨⟨h1, h2⟩, h3⟩ := h
    obtain ⟨k1, k2⟩ := lateOk_spec l h3
    refine ⟨fun x hx => ?_, fun q q' x y hq hx hy => ?_⟩
    · rcases List.mem_cons.1 hx with rfl | hx
      · exact ⟨b, rfl, h1⟩
      · exact k1 x hx
    · obtain ⟨q'', rfl⟩ : ∃ q'', q' = q'' + 1 := ⟨q' - 1, by omega⟩
      rw [List.getElem?_cons_succ] at hy
      cases q with
      | zero =>
        simp at hx; subst hx
        exact fun e => h2 y (List.mem_of_getElem? hy) e.symm
      | succ q => exact k2 q q'' x y (by omega) (by simpa using hx) hy

theorem statesD_spec {tr : List (Env × St)} : ∀ (ws : List Nat) (ss : List (Nat × St)), statesD tr ws = some ss → ss = ws.map fun j => (j + 1, trS tr (j + 1))
  | [], ss, h => by simp only [statesD] at h; cases h; rfl
  | j :: ws, ss, h => by
    simp only [statesD] at h
    split at h
    · rename_i e s r h1 h2
      cases h
      rw [statesD_spec ws r h2]
      simp [trS, h1]
    · cases h

theorem checkR_spec {ws as : List Nat} {ss : List (Nat × St)} {tr0 : List (Env × St)} : ∀ (l : List Oper) (tr : List (Env × St)) (i : Nat), checkR X ex ops base ws as ss tr0 i l tr = true → ∀ (k : Nat) o es, l[k]? = some o → tr[k]? = some es → wantedA ops es.1 o = true →
    (cls X o.op = .r → ∃ v s', opA X ex es.1 o.op es.2 = some (v, s') ∧ readsSame X ex ops base (i + k) as tr0 es.1 o.op v (rangeR ops ws ss (i + k)) = true) ∧
    (cls X o.op = .q → ∀ c vs us, o.op = .call c → evals X es.1 c.args.toList = some vs → frzArgs X es.2 vs = some us → stills vs = true ∨ argsSame X ops base (i + k) as tr0 vs us (rangeR ops ws ss (i + k)) = true)
  | [], tr, i, h, k, o, es, h1, h2, _ => by simp at h1
  | o :: l, [], i, h, k, o', es, h1, h2, _ => by simp at h2
  | o :: l, (e, s) :: tr, i, h, 0, o', es, h1, h2, h4 => by
    simp at h1 h2
    subst h1; subst h2
    simp only [checkR, Bool.and_eq_true] at h
    obtain ⟨h, _⟩ := h
    simp only [Nat.add_zero]
    refine ⟨fun hk => ?_, fun hk c vs us hc hvs hus => ?_⟩
    · rw [hk] at h
      simp only [h4, Bool.not_true, Bool.false_or] at h
      split at h
      · rename_i v s' hv
        exact ⟨v, s', hv, h⟩
      · cases h
    · rw [hk] at h
      simp only [h4, hc, hvs, hus, Bool.not_true, Bool.false_or, Bool.or_eq_true] at h
      exact h
  | o :: l, (e, s) :: tr, i, h, k + 1, o', es, h1, h2, h4 => by
    simp only [checkR, Bool.and_eq_true] at h
    have := checkR_spec l tr (i + 1) h.2 k o' es (by simpa using h1) (by simpa using h2) h4
    rw [show i + (k + 1) = i + 1 + k by omega]
    exact this

theorem readsSame_spec {as : List Nat} {tr : List (Env × St)} {i : Nat} {e : Env} {o : Op} {v : AV} : ∀ (l : List (Nat × St)), readsSame X ex ops base i as tr e o v l = true → ∀ m s, (m, s) ∈ l → ∃ s', opA X ex e o (addA ops base i m tr as s) = some (v, s')
  | [], _, m, s, hm => by cases hm
  | (m', s1) :: l, h, m, s, hm => by
    unfold readsSame at h
    split at h
    · rename_i u s' hu
      simp only [Bool.and_eq_true] at h
      rcases List.mem_cons.1 hm with e | hm
      · cases e
        have := same_val h.1; subst this
        exact ⟨_, hu⟩
      · exact readsSame_spec l h.2 m s hm
    · cases h

theorem argsSame_spec {as : List Nat} {tr : List (Env × St)} {i : Nat} {vs us : List AV} : ∀ (l : List (Nat × St)), argsSame X ops base i as tr vs us l = true → ∀ m s, (m, s) ∈ l → frzArgs X (addA ops base i m tr as s) vs = some us
  | [], _, m, s, hm => by cases hm
  | (m', s1) :: l, h, m, s, hm => by
    unfold argsSame at h
    split at h
    · rename_i u hu
      simp only [Bool.and_eq_true] at h
      rcases List.mem_cons.1 hm with e | hm
      · cases e
        have := sames_val h.1; subst this
        exact hu
      · exact argsSame_spec l h.2 m s hm
    · cases h

theorem aIdx_mem : ∀ (l : List Oper) (i j : Nat), j ∈ aIdx X i l → ∃ k o, l[k]? = some o ∧ j = i + k ∧ cls X o.op = .a
  | [], i, j, h => by simp [aIdx] at h
  | o :: l, i, j, h => by
    have ih := aIdx_mem l (i + 1) j
    unfold aIdx at h
    have lift : (∃ (k : Nat) (o' : Oper), l[k]? = some o' ∧ j = i + 1 + k ∧ cls X o'.op = .a) → ∃ (k : Nat) (o' : Oper), (o :: l)[k]? = some o' ∧ j = i + k ∧ cls X o'.op = .a :=
      fun ⟨k, o', h1, h2, h3⟩ => ⟨k + 1, o', by simpa using h1, by omega, h3⟩
    split at h
    · rename_i hc
      rcases List.mem_cons.1 h with rfl | h
      · exact ⟨0, o, by simp, by omega, isA_iff.1 hc⟩
      · exact lift (ih h)
    · exact lift (ih h)

theorem addA_spec {i m : Nat} {tr : List (Env × St)} : ∀ (as : List Nat) (s : St), (∀ j ∈ as, kA X ops j) →
    (addA ops base i m tr as s).next = s.next ∧ ∀ id b, (addA ops base i m tr as s).look id = some b →
      s.look id = some b ∨ ∃ j, m ≤ j ∧ kA X ops j ∧ bef ops j i = true ∧ id = base + j ∧ (trS tr (j + 1)).look id = some b
  | [], s, _ => ⟨rfl, fun id b h => .inl h⟩
  | j :: as, s, has => by
    have has' : ∀ j ∈ as, kA X ops j := fun j hj => has j (List.mem_cons_of_mem _ hj)
    unfold addA
    split
    · rename_i hc
      simp only [Bool.and_eq_true, decide_eq_true_eq] at hc
      split
      · rename_i e1 s1 h1
        have hs1 : trS tr (j + 1) = s1 := by simp [trS, h1]
        split
        · rename_i b0 hb0
          obtain ⟨k1, k2⟩ := addA_spec as (s.put (base + j) b0) has'
          refine ⟨k1, fun id b hb => ?_⟩
          rcases k2 id b hb with h3 | h3
          · rw [St.look_put] at h3
            by_cases e : base + j = id
            · rw [if_pos e] at h3
              refine .inr ⟨j, hc.1, has j (List.mem_cons_self ..), hc.2, e.symm, ?_⟩
              rw [hs1, ← e]
              unfold St.look
              rw [hb0]
              cases b0 <;> simp at h3 ⊢ <;> exact h3
            · rw [if_neg e] at h3; exact .inl h3
          · exact .inr h3
        · exact addA_spec as s has'
      · exact addA_spec as s has'
    · exact addA_spec as s has'

theorem noneD_spec {s : St} : ∀ (l : List Oper) (i : Nat), noneD X base s i l = true → ∀ (k : Nat) o, l[k]? = some o → cls X o.op = .a → s.look (base + (i + k)) = none
  | [], i, _, k, o, h, _ => by simp at h
  | o :: l, i, h, 0, o', h1, h2 => by
    simp at h1; subst h1
    simp only [noneD, Bool.and_eq_true, Bool.or_eq_true, h2] at h
    have := h.1
    simp [Cls.isA] at this
    unfold St.look
    rw [show base + (i + 0) = base + i by omega, this]
  | o :: l, i, h, k + 1, o', h1, h2 => by
    simp only [noneD, Bool.and_eq_true] at h
    have := noneD_spec l (i + 1) h.2 k o' (by simpa using h1) h2
    rw [show i + (k + 1) = i + 1 + k by omega]; exact this

theorem noneAll_spec : ∀ (l : List (Nat × St)), noneAll X ops base l = true → ∀ m s, (m, s) ∈ l → ∀ i, m ≤ i → kA X ops i → s.look (base + i) = none
  | [], _, m, s, hm => by cases hm
  | (m', s1) :: l, h, m, s, hm => by
    simp only [noneAll, Bool.and_eq_true] at h
    rcases List.mem_cons.1 hm with e | hm
    · cases e
      rintro i hi ⟨o, ho, hc⟩
      obtain ⟨k, rfl⟩ : ∃ k, i = m' + k := ⟨i - m', by omega⟩
      exact noneD_spec _ _ h.1 k o (by rw [List.getElem?_drop]; simpa using ho) hc
    · exact noneAll_spec l h.2 m s hm

/-! ### The environment -/

/-- the last of those before j -/
theorem last_of (W : Nat → Prop) : ∀ j, (∀ i, i < j → ¬ W i) ∨ ∃ i, i < j ∧ W i ∧ ∀ i', i < i' → i' < j → ¬ W i'
  | 0 => .inl fun i h => by omega
  | j + 1 => by
    by_cases hj : W j
    · exact .inr ⟨j, by omega, hj, fun i' h1 h2 => by omega⟩
    · rcases last_of W j with h | ⟨i, h1, h2, h3⟩
      · refine .inl fun i hi => ?_
        by_cases e : i = j
        · subst e; exact hj
        · exact h i (by omega)
      · refine .inr ⟨i, by omega, h2, fun i' k1 k2 => ?_⟩
        by_cases e : i' = j
        · subst e; exact hj
        · exact h3 i' k1 (by omega)

def Wr (ops : Array Oper) (t : Tmp) (i : Nat) : Prop := ∃ o, ops[i]? = some o ∧ o.dst = some t

/-- the temporaries, where the operations of D have run -/
structure KE (ops : Array Oper) (E : Nat → Env) (D : Nat → Bool) (e : Env) : Prop where
  hit : ∀ t i, D i = true → Wr ops t i → (∀ i', i < i' → D i' = true → ¬ Wr ops t i') → Env.get e t = Env.get (E (i + 1)) t
  miss : ∀ t, (∀ i, D i = true → ¬ Wr ops t i) → Env.get e t = Env.get (E 0) t

variable {E : Nat → Env} {S : Nat → St} {D D' : Nat → Bool} {e : Env}

theorem KE.at (h : KE ops E D e) (ht : Tr0 X ex ops base E S) {t : Tmp} {j : Nat} (hj : j ≤ ops.size) (h1 : ∀ i, i < j → Wr ops t i → D i = true) (h2 : ∀ i, j ≤ i → D i = true → ¬ Wr ops t i) : Env.get e t = Env.get (E j) t := by
  rcases last_of (Wr ops t) j with hn | ⟨i, k1, k2, k3⟩
  · rw [h.miss t fun i hi hw => by
      by_cases hij : i < j
      · exact hn i hij hw
      · exact h2 i (by omega) hi hw]
    have := ht.env_keep t 0 j (fun i o _ hi ho hd => hn i (by omega) ⟨o, ho, hd⟩) (by omega)
    rw [Nat.zero_add] at this
    exact this.symm
  · rw [h.hit t i (h1 i k1 k2) k2 fun i' a b hw => by
      by_cases hij : i' < j
      · exact k3 i' a hij hw
      · exact h2 i' (by omega) b hw]
    have := ht.env_keep t (i + 1) (j - (i + 1)) (fun i' o a b ho hd => k3 i' (by omega) (by omega) ⟨o, ho, hd⟩) (by omega)
    rw [show i + 1 + (j - (i + 1)) = j by omega] at this
    exact this.symm

/-- what an operation looks at stands as in the written order -/
theorem KE.look (h : KE ops E D e) (ht : Tr0 X ex ops base E S) (hok : Ok X ops) {j : Nat} {o : Oper} (hr : Rdy ops D j o) {t : Tmp} (hl : t ∈ lookL ops o) : Env.get e t = Env.get (E j) t := by
  have hj := (Array.getElem?_eq_some_iff.1 hr.op).1
  refine h.at ht (Nat.le_of_lt hj) (fun i hi ⟨oi, hoi, hd⟩ => ?_) (fun i hi hDi ⟨oi, hoi, hd⟩ => ?_)
  · rcases hok.pair i j oi o hi hoi hr.op with hb | ⟨ha, _⟩
    · exact hr.bef hb
    · exact absurd hl ((apartL_spec ha).1 t hd)
  · by_cases e : i = j
    · subst e; rw [hr.no] at hDi; cases hDi
    · rcases hok.pair j i o oi (by omega) hr.op hoi with hb | ⟨ha, _⟩
      · rw [hr.notBef hDi] at hb; cases hb
      · exact absurd hl ((apartL_spec ha).2.2 t hd)

theorem KE.step (h : KE ops E D e) (hok : Ok X ops) {j : Nat} {o : Oper} (hr : Rdy ops D j o) (hD : Adds D D' j) {v : AV} (hE : E (j + 1) = setDst (E j) o.dst v) : KE ops E D' (setDst e o.dst v) := by
  have hj := (Array.getElem?_eq_some_iff.1 hr.op).1
  have wj : ∀ t, Wr ops t j → o.dst = some t := fun t ⟨o', ho', hd⟩ => by rw [hr.op] at ho'; cases ho'; exact hd
  refine ⟨fun t i hi hw hmax => ?_, fun t hno => ?_⟩
  · by_cases ht : o.dst = some t
    · -- j is the last writer
      have hij : i = j := by
        rcases hD.of hi with e1 | hDi
        · exact e1
        · obtain ⟨oi, hoi, hd⟩ := hw
          rcases Nat.lt_trichotomy i j with hlt | heq | hgt
          · exact absurd ⟨o, hr.op, ht⟩ (hmax j hlt hD.1)
          · exact heq
          · rcases hok.pair j i o oi hgt hr.op hoi with hb | ⟨ha, _⟩
            · rw [hr.notBef hDi] at hb; cases hb
            · exact absurd hd ((apartL_spec ha).2.1 t ht)
      subst hij
      rw [hE, ht, setDst_self, setDst_self]
    · have hij : i ≠ j := fun e1 => ht (wj t (e1 ▸ hw))
      rw [setDst_ne ht]
      have hDi : D i = true := by rw [hD.2 i hij] at hi; exact hi
      refine h.hit t i hDi hw fun i' a b hw' => hmax i' a ?_ hw'
      by_cases e1 : i' = j
      · subst e1; exact hD.1
      · rw [hD.2 i' e1]; exact b
  · have ht : o.dst ≠ some t := fun ht => hno j hD.1 ⟨o, hr.op, ht⟩
    rw [setDst_ne ht]
    refine h.miss t fun i hi hw => hno i ?_ hw
    by_cases e1 : i = j
    · subst e1; exact hD.1
    · rw [hD.2 i e1]; exact hi

end
end Go.Am
set_option linter.unusedSimpArgs false
set_option linter.unusedVariables false
set_option linter.unusedSectionVars false
namespace Go.Am
open Go
section
variable [Stat]
variable {X : Cx} {P : Program} {ex : Ex} {ops : Array Oper}

/-- an operation that enters nothing -/
theorem op_plain (hX : Full X P) {r : Option Nat} {o : Oper} {e : Env} {s s' : St} {v : AV} {a : Act} {σ : Sg} {w : World} (G : GlobOk X σ) (H : HR σ s w) (hf : σ s.next = none) (E : erel σ e a.tmps) (hc : isCallV o.op = false) (h : opA X ex e o.op s = some (v, s'))
    {nxt : Act → World → Prop} {Q : Exit → Act → World → Prop} (hn : ∀ u w' σ', vrel σ' v u → Good σ s w σ' s' w' → nxt (a.put o.dst u) w') : o.wpIn (FW r) 0 P a w nxt Q := by
  refine ⟨about_wide, ?_⟩
  rw [Oper.semAt_eq _ _ _ (fun c hc => by rw [hc] at h; simp [opA] at h), eval_eq_rho]
  obtain ⟨σ', nx, u, w', h1, h2, h3, h4⟩ := opA_sound (P := P) hX.toCxOk G H hf E hc h
  rw [h1]
  rcases h2 with rfl | ⟨rfl, rfl⟩
  · rw [Oper.uponIn_value]; exact hn _ _ _ h3 h4
  · rw [Oper.uponIn_skip]; exact hn _ _ _ h3 h4

theorem not_callV {o : Op} (h : cls X o ≠ .w) (h' : cls X o ≠ .q) : isCallV o = false := by
  cases o <;> try rfl
  rename_i c
  obtain ⟨callee, args, ats⟩ := c
  cases callee <;> first
    | rfl
    | (rename_i f
       exfalso
       cases f <;> simp only [cls] at h h' <;> first
         | exact h trivial
         | (split at h <;> simp_all)
         | simp_all)

theorem countL_mono {p q : Nat → Bool} : ∀ (l : List Nat), (∀ x ∈ l, p x = true → q x = true) → countL p l ≤ countL q l
  | [], _ => Nat.le_refl _
  | x :: l, h => by
    have ih := countL_mono (p := p) (q := q) l fun y hy => h y (List.mem_cons_of_mem _ hy)
    have hx := h x (List.mem_cons_self ..)
    simp only [countL]
    by_cases hp : p x = true
    · rw [if_pos hp, if_pos (hx hp)]; omega
    · rw [if_neg hp]; split <;> omega

theorem countL_split {p : Nat → Bool} : ∀ (l : List Nat) (n : Nat), n ≤ l.length → (∀ x ∈ l.take n, p x = true) → (∀ x ∈ l.drop n, p x = false) → countL p l = n
  | [], n, h, _, _ => by simp at h; subst h; rfl
  | x :: l, 0, h, _, h2 => by
    have ih := countL_split (p := p) l 0 (by omega) (by simp) (fun y hy => h2 y (by simpa using List.mem_cons_of_mem _ hy))
    have := h2 x (by simp)
    simp only [countL, this, ih]; rfl
  | x :: l, n + 1, h, h1, h2 => by
    have ih := countL_split (p := p) l n (by simpa using h) (fun y hy => h1 y (by simpa using .inr hy)) (fun y hy => h2 y (by simpa using hy))
    have := h1 x (by simp)
    simp only [countL, this, if_true, ih]

theorem wanted_congr {e e' : Env} {o : Oper} (h : ∀ t ∈ lookL ops o, Env.get e t = Env.get e' t) : wantedA ops e o = wantedA ops e' o := by
  unfold wantedA
  cases hg : o.guard with
  | none => rfl
  | some g =>
    obtain ⟨j, b⟩ := g
    simp only
    cases hj : ops[j]? with
    | none => rfl
    | some oj =>
      simp only
      cases hd : oj.dst with
      | none => rfl
      | some d =>
        simp only
        rw [h d (by simp [lookL, hg, hj, hd])]

theorem look_ops {o : Oper} {t : Tmp} (h : Operand.tmp t ∈ o.op.operands.toList) : t ∈ lookL ops o := by
  unfold lookL
  rw [List.mem_append]
  exact .inl (List.mem_filterMap.2 ⟨_, h, rfl⟩)

/-- all that is known while such a region runs -/
structure DI (X : Cx) (ops : Array Oper) (E : Nat → Env) (S : Nat → St) (σ0 : Sg) (s0 : St) (w0 : World) (n0 sz : Nat) (D : Nat → Bool) (a : Act) (w : World) : Prop where
  ex : ∃ m σ T e, HI X ops E S σ0 s0 w0 D m σ T w ∧ KE ops E D e ∧ erel σ e a.tmps ∧ GlobOk X σ ∧ DF n0 σ w a.defers
  size : a.tmps.size = sz

variable {E : Nat → Env} {S : Nat → St} {σ0 : Sg} {s0 : St} {w0 : World} {n0 sz : Nat} {D D' : Nat → Bool} {a : Act} {w : World}

theorem DI.step (hX : Full X P) (hE : ExOk X P ex) (ht : Tr0 X ex ops s0.next E S) (hL : Late X ops s0.next E) (hok : Ok X ops) (hn0 : n0 ≤ w0.heap.size) (hdst : ∀ o ∈ ops.toList, dstOk sz o.dst)
    (hnone : ∀ m, m = 0 ∨ (∃ j, m = j + 1 ∧ kW X ops j) → ∀ i, m ≤ i → kA X ops i → (S m).look (s0.next + i) = none)
    (hread : ∀ (D : Nat → Bool) m j o v s', Rdy ops D j o → (∀ i, kW X ops i → (D i = true ↔ i < m)) → (m = 0 ∨ ∃ j, m = j + 1 ∧ kW X ops j) → cls X o.op = .r ∨ cls X o.op = .q → wantedA ops (E j) o = true → opA X ex (E j) o.op (S j) = some (v, s') →
      ∃ R s'', opA X ex (E j) o.op R = some (v, s'') ∧ R.next = (S m).next ∧ ∀ id b, R.look id = some b → (S m).look id = some b ∨ ∃ i, m ≤ i ∧ kA X ops i ∧ Am.bef ops i j = true ∧ id = s0.next + i ∧ (S (i + 1)).look id = some b)
    (h : DI X ops E S σ0 s0 w0 n0 sz D a w) {j : Nat} {o : Oper} (hr : Rdy ops D j o) (hD : Adds D D' j) {r : Option Nat} {nxt : Act → World → Prop} {Q : Exit → Act → World → Prop}
    (hnx : ∀ a' w', DI X ops E S σ0 s0 w0 n0 sz D' a' w' → nxt a' w') :
    if Region.wanted o (yielded ops a.tmps) then o.wpIn (FW r) 0 P a w nxt Q else (∀ f, o.about P w a.eval = some f → (FW r).fn f) ∧ nxt (a.put o.dst Go.undef) w := by
  obtain ⟨⟨m, σ, T, e, hH, hK, hEr, hG, hDF⟩, hsz⟩ := h
  have hjlt : j < ops.size := (Array.getElem?_eq_some_iff.1 hr.op).1
  have hdj : dstOk a.tmps.size o.dst := by
    rw [hsz]; exact hdst o (by
      have := (Array.getElem?_eq_some_iff.1 hr.op).2
      rw [← this]; simp)
  have hlook : ∀ t ∈ lookL ops o, Env.get e t = Env.get (E j) t := fun t htl => hK.look ht hok hr htl
  have hcong : ∀ s, opA X ex e o.op s = opA X ex (E j) o.op s := fun s => opA_congr fun t hto => hlook t (look_ops hto)
  have hnm := hnone m hH.mw
  have hwt : Region.wanted o (yielded ops a.tmps) = wantedA ops (E j) o := by rw [wanted_eq hEr, wanted_congr hlook]
  rw [hwt]
  have fin : ∀ {m' : Nat} {σ' : Sg} {T' : St} {w' : World} {v : AV} {u : Value}, HI X ops E S σ0 s0 w0 D' m' σ' T' w' → E (j + 1) = setDst (E j) o.dst v → Sg.le σ σ' → vrel σ' v u → DF n0 σ' w' a.defers →
      DI X ops E S σ0 s0 w0 n0 sz D' (a.put o.dst u) w' := by
    intro m' σ' T' w' v u h1 h2 h3 h4 h5
    refine ⟨⟨m', σ', T', setDst e o.dst v, h1, hK.step hok hr hD h2, erel_setDst (hEr.mono h3) hdj h4, hG.mono h3, by rw [put_defers]; exact h5⟩, by rw [put_size, hsz]⟩
  rcases stepD_cases (ht.step j o hr.op) with ⟨h1, h2, h3⟩ | ⟨h1, v, h2, ⟨hc, s1, h3, h4⟩ | ⟨hc, h3⟩⟩
  · -- not wanted
    rw [h1]
    simp only [Bool.false_eq_true, if_false]
    refine ⟨about_wide, hnx _ _ ?_⟩
    by_cases hs : kS X ops j
    · exfalso
      obtain ⟨o2, ho2, _, hg, _⟩ := kS_spec hs
      rw [hr.op] at ho2; cases ho2
      simp [wantedA, hg] at h1
    by_cases hw : kW X ops j
    · obtain ⟨a1, a2, a3, a4, a5, a6, a7⟩ := hH.sub_w ht hL hok hnm hr hw
      have hHR : HR σ (S j) w := hH.gd.hr.sub a5
      have := hH.wr ht hL hok hnm hr hD hw (σ' := σ) (w' := w) (by rw [h3]; exact Good.refl hHR)
      exact fin this h2 (Sg.le_refl _) undef_rel hDF
    · have := hH.keep hr hD hw hs (R := T) (fun _ _ _ _ hb => hb) rfl (Good.refl hH.gd.hr) (fun _ => rfl)
      exact fin this h2 (Sg.le_refl _) undef_rel hDF
  · -- a new block
    rw [h1]
    simp only [if_true]
    have hc := isA_iff.1 hc
    obtain ⟨b, hb, rfl, hall⟩ := cls_a hc h3
    have h5 := hall { T with next := s0.next + j } rfl
    rw [← hcong] at h5
    have hS : (S (j + 1)).look (s0.next + j) = some b := by
      rw [h4]
      show (St.new { S j with next := s0.next + j } b).look (s0.next + j) = some b
      rw [St.look_new _ _ _ hb, if_pos rfl]
    refine op_plain hX hG (hH.gd.hr.congr (t := { T with next := s0.next + j }) fun _ => rfl) (hH.u j ⟨o, hr.op, hc⟩ hr.no) hEr (not_callV (X := X) (by rw [hc]; simp) (by rw [hc]; simp)) h5 fun u w' σ' hv g => hnx _ _ ?_
    have := hH.al hL hok hr hD hc hb hS g
    exact fin this h2 g.ext.le hv (hDF.good g)
  · rw [h1]
    simp only [if_true]
    have notW : cls X o.op ≠ .w → ¬ kW X ops j := fun hne ⟨o2, ho2, hc2, _⟩ => by rw [hr.op] at ho2; cases ho2; exact hne hc2
    have notS : cls X o.op ≠ .w → ¬ kS X ops j := fun hne hs => by
      obtain ⟨o2, ho2, _, _, hc2, _⟩ := kS_spec hs
      rw [hr.op] at ho2; cases ho2; exact hne hc2
    have notA : cls X o.op ≠ .a → kA X ops j → σ = σ → False := fun hne ⟨o2, ho2, hc2⟩ _ => by rw [hr.op] at ho2; cases ho2; exact hne hc2
    cases hk : cls X o.op with
    | a => rw [hk] at hc; cases hc
    | p =>
      obtain ⟨_, hall⟩ := cls_p hk _ _ _ h3
      have h5 := hall T
      rw [← hcong] at h5
      refine op_plain hX hG hH.gd.hr (hH.gd.fresh _ (Nat.le_refl _)) hEr (not_callV (X := X) (by rw [hk]; simp) (by rw [hk]; simp)) h5 fun u w' σ' hv g => hnx _ _ ?_
      have := hH.keep hr hD (notW (by rw [hk]; simp)) (notS (by rw [hk]; simp)) (R := T) (fun _ _ _ _ hb => hb) rfl g (fun e => (notA (by rw [hk]; simp) e rfl).elim)
      exact fin this h2 g.ext.le hv (hDF.good g)
    | r =>
      have hnl : ∀ i, D i = true → ¬ kS X ops i := hr.noLate (by rw [hk]; simp) (by rw [hk]; simp) (by
        cases hl : late X ops j with
        | false => rfl
        | true => exact absurd hl (notS (by rw [hk]; simp)))
      obtain ⟨R, s'', h5, h6, h7⟩ := hread D m j o v _ hr hH.cutw hH.mw (.inl hk) h1 h3
      have := cls_r hk h5; subst this
      rw [← hcong] at h5
      have hsub : ∀ i p b, σ i = some p → s''.look i = some b → T.look i = some b := by
        intro i p b hp hb
        rcases h7 i b hb with h8 | ⟨i', k1, k2, k3, rfl, k4⟩
        · rw [hH.t1 i (by rw [hp]; simp) ?_ fun i' k1 k2 => absurd k2 (hnl i' k1)]
          · exact h8
          · rintro i' k1 k2 k3 rfl
            rw [hnm i' k1 k3] at h8; cases h8
        · rw [hH.t2 i' k1 (hr.bef k3) k2 (by rw [hp]; simp)]
          exact k4
      have hn : s''.next = T.next := by rw [h6, hH.t3]
      have I : Inv X σ s'' w n0 e a := ⟨hH.gd.hr.sub hsub, fun i hi => hH.gd.fresh i (by rw [← hn]; exact hi), hG, hEr, hDF, Nat.le_trans hn0 hH.gd.ext.size⟩
      refine op_step hX hE I h5 fun u w' σ' hv g => hnx _ _ ?_
      have := hH.keep hr hD (notW (by rw [hk]; simp)) (notS (by rw [hk]; simp)) hsub hn g (fun e => (notA (by rw [hk]; simp) e rfl).elim)
      exact fin this h2 g.ext.le hv (hDF.good g)
    | q =>
      have hnl : ∀ i, D i = true → ¬ kS X ops i := hr.noLate (by rw [hk]; simp) (by rw [hk]; simp) (by
        cases hl : late X ops j with
        | false => rfl
        | true => exact absurd hl (notS (by rw [hk]; simp)))
      obtain ⟨R, s'', h5, h6, h7⟩ := hread D m j o v _ hr hH.cutw hH.mw (.inr hk) h1 h3
      have := (cls_c hk h5).1; subst this
      rw [← hcong] at h5
      have hsub : ∀ i p b, σ i = some p → s''.look i = some b → T.look i = some b := by
        intro i p b hp hb
        rcases h7 i b hb with h8 | ⟨i', k1, k2, k3, rfl, k4⟩
        · rw [hH.t1 i (by rw [hp]; simp) ?_ fun i' k1 k2 => absurd k2 (hnl i' k1)]
          · exact h8
          · rintro i' k1 k2 k3 rfl
            rw [hnm i' k1 k3] at h8; cases h8
        · rw [hH.t2 i' k1 (hr.bef k3) k2 (by rw [hp]; simp)]
          exact k4
      have hn : s''.next = T.next := by rw [h6, hH.t3]
      have I : Inv X σ s'' w n0 e a := ⟨hH.gd.hr.sub hsub, fun i hi => hH.gd.fresh i (by rw [← hn]; exact hi), hG, hEr, hDF, Nat.le_trans hn0 hH.gd.ext.size⟩
      refine op_step hX hE I h5 fun u w' σ' hv g => hnx _ _ ?_
      have := hH.keep hr hD (notW (by rw [hk]; simp)) (notS (by rw [hk]; simp)) hsub hn g (fun e => (notA (by rw [hk]; simp) e rfl).elim)
      exact fin this h2 g.ext.le hv (hDF.good g)
    | w =>
      by_cases hs : kS X ops j
      · obtain ⟨b, hb, _⟩ := hL.some j hs
        obtain ⟨k0, k', v', g1, g2, g3, g4, g5⟩ := ht.late_step hr.op hs hb
        have hbl : lateBlk X (E j) o.op = some b := by unfold lb at hb; rw [hr.op] at hb; exact hb
        -- the block is one of ours
        have hσ : σ b ≠ none := by
          obtain ⟨o2, ho2, hst, _⟩ := kS_spec hs
          rw [hr.op] at ho2; cases ho2
          cases hop : o.op <;> rw [hop] at hst <;> simp only [isStore] at hst <;> try (cases hst; done)
          rename_i tt aa xx
          rw [hop] at hbl
          simp only [lateBlk] at hbl
          split at hbl
          · rename_i b1 o1 ha
            cases hbl
            have ha' : eval X e aa = some (.ptr b o1) := by
              rw [← ha]
              exact eval_congr fun t ht' => hlook t (look_ops (by rw [hop, ht']; simp [Op.operands]))
            obtain ⟨p, hp, _⟩ := vrel_ptr (eval_rel hG hEr ha')
            rw [hp]; simp
          · cases hbl
        have hf := hH.find_late ht hL hok hr hs hb hσ
        have hTk : T.look b = some k0 := by rw [hf]; exact g1
        have hget : T.get b = (S j).get b := by
          have h5 := hTk
          have h6 := g1
          unfold St.look at h5 h6
          cases hx : T.get b with
          | none => rw [hx] at h5; cases h5
          | some x =>
            cases hy : (S j).get b with
            | none => rw [hy] at h6; cases h6
            | some y =>
              rw [hx] at h5; rw [hy] at h6
              cases x <;> cases y <;> simp only at h5 h6 <;> first | (cases h5; done) | (cases h6; done) | (rw [h5, h6])
        have h5 := g5 T hget
        rw [← hcong] at h5
        have I : Inv X σ T w n0 e a := ⟨hH.gd.hr, hH.gd.fresh, hG, hEr, hDF, Nat.le_trans hn0 hH.gd.ext.size⟩
        refine op_step hX hE I h5 fun u w' σ' hv g => hnx _ _ ?_
        have := hH.st hL hr hD hs hb hσ hTk g2 (by rw [g3, St.look_put, if_pos rfl]; cases k' <;> first | rfl | exact absurd rfl g2) g
        exact fin this g4 g.ext.le hv (hDF.good g)
      · have hw : kW X ops j := ⟨o, hr.op, hk, by
          cases hl : late X ops j with
          | false => rfl
          | true => exact absurd hl hs⟩
        obtain ⟨a1, a2, a3, a4, a5, a6, a7⟩ := hH.sub_w ht hL hok hnm hr hw
        have hHR : HR σ (S j) w := hH.gd.hr.sub a5
        rw [← hcong] at h3
        have I : Inv X σ (S j) w n0 e a := ⟨hHR, fun i hi => hH.gd.fresh i (by rw [← a2]; exact hi), hG, hEr, hDF, Nat.le_trans hn0 hH.gd.ext.size⟩
        refine op_step hX hE I h3 fun u w' σ' hv g => hnx _ _ ?_
        have := hH.wr ht hL hok hnm hr hD hw g
        exact fin this h2 g.ext.le hv (hDF.good g)

/-- the whole of a drawn order -/
theorem DI.run (hX : Full X P) (hE : ExOk X P ex) (ht : Tr0 X ex ops s0.next E S) (hL : Late X ops s0.next E) (hok : Ok X ops) (hn0 : n0 ≤ w0.heap.size) (hdst : ∀ o ∈ ops.toList, dstOk sz o.dst)
    (hnone : ∀ m, m = 0 ∨ (∃ j, m = j + 1 ∧ kW X ops j) → ∀ i, m ≤ i → kA X ops i → (S m).look (s0.next + i) = none)
    (hread : ∀ (D : Nat → Bool) m j o v s', Rdy ops D j o → (∀ i, kW X ops i → (D i = true ↔ i < m)) → (m = 0 ∨ ∃ j, m = j + 1 ∧ kW X ops j) → cls X o.op = .r ∨ cls X o.op = .q → wantedA ops (E j) o = true → opA X ex (E j) o.op (S j) = some (v, s') →
      ∃ R s'', opA X ex (E j) o.op R = some (v, s'') ∧ R.next = (S m).next ∧ ∀ id b, R.look id = some b → (S m).look id = some b ∨ ∃ i, m ≤ i ∧ kA X ops i ∧ Am.bef ops i j = true ∧ id = s0.next + i ∧ (S (i + 1)).look id = some b)
    {r : Option Nat} {Q : Exit → Act → World → Prop} (hfin : ∀ D a w, (∀ i, i < ops.size → D i = true) → DI X ops E S σ0 s0 w0 n0 sz D a w → Q .normal a w) :
    ∀ (fuel t : Nat) (listed : Array Bool) (a : Act) (w : World), listed.size = ops.size → Closed ops (fun i => listed.getD i false) → left (fun i => listed.getD i false) ops.size ≤ fuel → DI X ops E S σ0 s0 w0 n0 sz (fun i => listed.getD i false) a w →
      wpOpsIn (FW r) 0 P ops Q (Region.linearise.go .any ops fuel t listed []) a w := by
  intro fuel
  induction fuel with
  | zero =>
    intro t listed a w hs hcl hl hI
    simp only [Region.linearise.go, List.reverse_nil, wpOpsIn]
    exact hfin _ _ _ (left_zero (by omega)) hI
  | succ fuel ih =>
    intro t listed a w hs hcl hl hI
    simp only [Region.linearise.go]
    generalize hrs : ((List.range ops.size).filter fun i => !listed.getD i true && ((ops[i]?).map (·.after.all fun e => !Region.binds .any e || listed.getD e.on false)).getD false) = rs
    cases hi : rs[t % rs.length]? with
    | none =>
      have hnil : rs = [] := by
        cases rs with
        | nil => rfl
        | cons x xs =>
          have hlt : t % (x :: xs).length < (x :: xs).length := Nat.mod_lt _ (by simp)
          rw [List.getElem?_eq_getElem hlt] at hi; cases hi
      simp only [List.reverse_nil, wpOpsIn]
      refine hfin _ _ _ (fun i hi => ?_) hI
      -- the first that is not listed would be ready
      induction i using Nat.strongRecOn with
      | _ i ihi =>
        cases hD : listed.getD i false with
        | true => rfl
        | false =>
          exfalso
          have ho := Array.getElem?_eq_getElem hi
          have : i ∈ rs := by
            rw [← hrs, List.mem_filter]
            refine ⟨List.mem_range.2 hi, ?_⟩
            have h1 : listed.getD i true = false := by
              rw [Array.getD_eq_getD_getElem?, Array.getElem?_eq_getElem (by omega)] at hD ⊢
              simpa using hD
            rw [h1, ho]
            simp only [Bool.not_false, Bool.true_and, Option.map_some, Option.getD_some]
            rw [← Array.all_toList, List.all_eq_true]
            intro e he
            cases hb : Region.binds .any e with
            | false => rfl
            | true =>
              have hlt := hok.edge i _ ho e he hb
              simp only [Bool.not_true, Bool.false_or]
              exact ihi e.on hlt (by omega)
          rw [hnil] at this; cases this
    | some j =>
      simp only
      have hj := List.mem_of_getElem? hi
      rw [← hrs, List.mem_filter] at hj
      obtain ⟨hj1, hj2⟩ := hj
      have hjlt : j < ops.size := List.mem_range.1 hj1
      have ho := Array.getElem?_eq_getElem hjlt
      rw [ho] at hj2
      simp only [Bool.and_eq_true, Bool.not_eq_true', Option.map_some, Option.getD_some] at hj2
      have hno : listed.getD j false = false := by
        have := hj2.1
        rw [Array.getD_eq_getD_getElem?, Array.getElem?_eq_getElem (by omega)] at this ⊢
        simpa using this
      have hdeps : ∀ e ∈ (ops[j]).after.toList, Region.binds .any e = true → listed.getD e.on false = true := by
        have := hj2.2
        rw [← Array.all_toList, List.all_eq_true] at this
        intro e he hb
        have := this e he
        rw [hb] at this
        simpa using this
      have hr : Rdy ops (fun i => listed.getD i false) j ops[j] := ⟨hcl, ho, hno, hdeps⟩
      have hget : ∀ i, (listed.setIfInBounds j true).getD i false = if i = j then true else listed.getD i false := by
        intro i
        simp only [Array.getD_eq_getD_getElem?, Array.getElem?_setIfInBounds]
        by_cases e : j = i
        · subst e; simp [hs, hjlt]
        · rw [if_neg e, if_neg (fun h => e h.symm)]
      have hD : Adds (fun i => listed.getD i false) (fun i => (listed.setIfInBounds j true).getD i false) j := by
        refine ⟨by simp only [hget, if_true], fun i hij => by simp only [hget, if_neg hij]⟩
      rw [linearise_go_acc, List.reverse_singleton, List.singleton_append]
      simp only [wpOpsIn, ho]
      refine hI.step hX hE ht hL hok hn0 hdst hnone hread hr hD fun a' w' hI' => ih _ _ a' w' (by simpa using hs) ?_ ?_ hI'
      · intro i o hDi hoi e he hb
        rcases hD.of hDi with rfl | hDi
        · rw [ho] at hoi; cases hoi
          by_cases hej : e.on = i
          · simp only [hget, if_pos hej]
          · simp only [hget, if_neg hej]; exact hdeps e he hb
        · have := hcl i o hDi hoi e he hb
          by_cases hej : e.on = j
          · simp only [hget, if_pos hej]
          · simp only [hget, if_neg hej]; exact this
      · have := left_set (D := fun i => listed.getD i false) (D' := fun i => (listed.setIfInBounds j true).getD i false) hno hD.1 (fun i hij => hD.2 i hij) hjlt
        omega

theorem drawOk (hX : Full X P) : DrawOk X P := by
  intro ex hE r ops e e' s s' a w σ n0 t Q h hok hdst I hQ
  have hok := okD_ok hok
  unfold drawA at h
  split at h
  · rename_i tr htr
    simp only at h
    split at h
    · rename_i ss hss
      split at h
      · rename_i hchk
        simp only [Bool.and_eq_true] at hchk
        obtain ⟨⟨hlate, hchk1⟩, hchk2⟩ := hchk
        have hchk := And.intro hchk1 hchk2
        obtain ⟨k1, k2, k3⟩ := goD_spec _ _ _ _ _ htr
        have k1 : tr.length = ops.size + 1 := by simpa using k1
        have ht : Tr0 X ex ops s.next (trE tr) (trS tr) := ⟨fun i o ho => by
          have := k3 i o (by simpa using ho)
          simpa using this⟩
        have hS0 : trS tr 0 = { s with next := s.next + ops.size } := by simp [trS, k2]
        have hE0 : trE tr 0 = e := by simp [trE, k2]
        have hss' := statesD_spec _ _ hss
        have wmem : ∀ j, j ∈ wIdx X ops 0 ops.toList ↔ kW X ops j := by
          intro j
          rw [wIdx_mem]
          constructor
          · rintro ⟨k, o, h1, rfl, h3⟩
            simp only [Bool.and_eq_true, Bool.not_eq_true'] at h3
            exact ⟨o, by simpa using h1, isW_iff.1 h3.1, h3.2⟩
          · rintro ⟨o, h1, h3, h4⟩
            exact ⟨j, o, by simpa using h1, by omega, by simp [isW_iff.2 h3, h4]⟩
        have hL : Late X ops s.next (trE tr) := by
          obtain ⟨l1, l2⟩ := lateOk_spec _ hlate
          have hlt : ∀ i, kS X ops i → i < ops.toList.length := fun i hi => by
            obtain ⟨o, ho, _⟩ := kS_spec hi
            simpa using (Array.getElem?_eq_some_iff.1 ho).1
          have hlb : ∀ i o, ops.toList[i]? = some o → lb X ops (trE tr) i = lateBlk X (trE tr i) o.op := fun i o ho => by
            unfold lb
            rw [show ops[i]? = some o by simpa using ho]
          refine ⟨fun i hi => ?_, fun i j hi hj hij => ?_⟩
          · obtain ⟨q, o, e1, e2, _⟩ := lateIds_spec (X := X) (ops := ops) ops.toList tr 0 (by simpa using k1) i (hlt i hi) (by rw [Nat.zero_add]; exact hi)
            obtain ⟨b, hb, hr⟩ := l1 _ (List.mem_of_getElem? e2)
            exact ⟨b, by rw [hlb i o e1]; exact hb, hr⟩
          · have key : ∀ i j, kS X ops i → kS X ops j → i < j → lb X ops (trE tr) i ≠ lb X ops (trE tr) j := by
              intro i j hi hj hij
              obtain ⟨q, o, e1, e2, e3⟩ := lateIds_spec (X := X) (ops := ops) ops.toList tr 0 (by simpa using k1) i (hlt i hi) (by rw [Nat.zero_add]; exact hi)
              have hjo := List.getElem?_eq_getElem (hlt j hj)
              obtain ⟨q', e4, e5⟩ := e3 j _ hij hjo (by rw [Nat.zero_add]; exact hj)
              rw [hlb i o e1, hlb j _ hjo]
              exact l2 q q' _ _ e4 e2 e5
            rcases Nat.lt_trichotomy i j with h1 | h1 | h1
            · exact key i j hi hj h1
            · exact absurd h1 hij
            · exact fun e => key j i hj hi h1 e.symm
        have hmem : ∀ m, m = 0 ∨ (∃ j, m = j + 1 ∧ kW X ops j) → (m, trS tr m) ∈ (0, { s with next := s.next + ops.size }) :: ss := by
          rintro m (rfl | ⟨j, rfl, hj⟩)
          · rw [hS0]; exact List.mem_cons_self ..
          · refine List.mem_cons_of_mem _ ?_
            rw [hss']
            exact List.mem_map.2 ⟨j, (wmem j).2 hj, rfl⟩
        have hread : ∀ (D : Nat → Bool) m j o v s', Rdy ops D j o → (∀ i, kW X ops i → (D i = true ↔ i < m)) → (m = 0 ∨ ∃ j, m = j + 1 ∧ kW X ops j) → cls X o.op = .r ∨ cls X o.op = .q → wantedA ops (trE tr j) o = true → opA X ex (trE tr j) o.op (trS tr j) = some (v, s') →
            ∃ R s'', opA X ex (trE tr j) o.op R = some (v, s'') ∧ R.next = (trS tr m).next ∧ ∀ id b, R.look id = some b → (trS tr m).look id = some b ∨ ∃ i, m ≤ i ∧ kA X ops i ∧ Am.bef ops i j = true ∧ id = s.next + i ∧ (trS tr (i + 1)).look id = some b := by
          intro D m j o v s1 hr hcut hm hk hw hop
          have hjlt : j < ops.size := (Array.getElem?_eq_some_iff.1 hr.op).1
          have htj : tr[j]? = some (trE tr j, trS tr j) := by
            rw [List.getElem?_eq_getElem (by omega)]
            simp [trE, trS, List.getElem?_eq_getElem (show j < tr.length by omega)]
          obtain ⟨q1, q2⟩ := checkR_spec _ _ _ hchk.1 j o _ (by simpa using hr.op) htj hw
          rw [Nat.zero_add] at q1 q2
          have hin : (m, trS tr m) ∈ rangeR ops (wIdx X ops 0 ops.toList) ((0, ({ s with next := s.next + ops.size } : St)) :: ss) j := by
            -- as many as have run
            have hlo : countL (fun i => Am.bef ops i j) (wIdx X ops 0 ops.toList) ≤ countL D (wIdx X ops 0 ops.toList) := countL_mono _ fun x _ hb => hr.bef hb
            have hhi : countL D (wIdx X ops 0 ops.toList) ≤ countL (fun i => !Am.bef ops j i) (wIdx X ops 0 ops.toList) := countL_mono _ fun x _ hb => by simp [hr.notBef hb]
            have hat : ((0, ({ s with next := s.next + ops.size } : St)) :: ss)[countL D (wIdx X ops 0 ops.toList)]? = some (m, trS tr m) := by
              rcases hm with rfl | ⟨q, rfl, hq⟩
              · have : countL D (wIdx X ops 0 ops.toList) = 0 := countL_split _ 0 (Nat.zero_le _) (by simp) fun x hx => by
                  have := hcut x ((wmem x).1 (by simpa using hx))
                  cases hd : D x with
                  | false => rfl
                  | true => have := this.1 hd; omega
                rw [this, hS0]; rfl
              · obtain ⟨n, hn⟩ := List.getElem?_of_mem ((wmem q).2 hq)
                have hnl := (List.getElem?_eq_some_iff.1 hn).1
                have hsort := wIdx_sorted (X := X) (ops := ops) ops.toList 0
                have hpw := List.pairwise_iff_getElem.1 hsort
                have hnq := (List.getElem?_eq_some_iff.1 hn).2
                have : countL D (wIdx X ops 0 ops.toList) = n + 1 := by
                  refine countL_split _ (n + 1) hnl (fun x hx => ?_) fun x hx => ?_
                  · obtain ⟨i, hi, hxi⟩ := List.mem_iff_getElem.1 hx
                    have hi' : i < n + 1 := by rw [List.length_take] at hi; omega
                    rw [List.getElem_take] at hxi
                    have hxw := (wmem x).1 (by rw [← hxi]; exact List.getElem_mem _)
                    refine (hcut x hxw).2 ?_
                    by_cases e : i = n
                    · subst e; rw [hnq] at hxi; omega
                    · have := hpw i n (by omega) hnl (by omega)
                      rw [hnq] at this; omega
                  · obtain ⟨i, hi, hxi⟩ := List.mem_iff_getElem.1 hx
                    rw [List.getElem_drop] at hxi
                    rw [List.length_drop] at hi
                    have hxw := (wmem x).1 (by rw [← hxi]; exact List.getElem_mem _)
                    have := hpw n (n + 1 + i) hnl (by omega) (by omega)
                    rw [hnq, hxi] at this
                    cases hd : D x with
                    | false => rfl
                    | true => have := (hcut x hxw).1 hd; omega
                rw [this, List.getElem?_cons_succ, hss', List.getElem?_map, hn]
                rfl
            unfold rangeR
            refine List.mem_of_getElem? (i := countL D (wIdx X ops 0 ops.toList) - countL (fun i => Am.bef ops i j) (wIdx X ops 0 ops.toList)) ?_
            rw [List.getElem?_drop, show countL (fun i => Am.bef ops i j) (wIdx X ops 0 ops.toList) + (countL D (wIdx X ops 0 ops.toList) - countL (fun i => Am.bef ops i j) (wIdx X ops 0 ops.toList)) = countL D (wIdx X ops 0 ops.toList) by omega,
              List.getElem?_take, if_pos (by omega)]
            exact hat
          have hR := addA_spec (ops := ops) (X := X) (base := s.next) (i := j) (m := m) (tr := tr) (aIdx X 0 ops.toList) (trS tr m) (fun i hi => by
            obtain ⟨k, o', h1, h2, h3⟩ := aIdx_mem _ _ _ hi
            exact ⟨o', by rw [h2]; simpa using h1, h3⟩)
          rcases hk with hk | hk
          · obtain ⟨v', s2, h1, h2⟩ := q1 hk
            simp only at h1
            rw [hop] at h1; cases h1
            obtain ⟨s3, h3⟩ := readsSame_spec _ h2 m _ hin
            exact ⟨_, s3, h3, hR.1, hR.2⟩
          · obtain ⟨_, c, vs, us, hc, hvs, hus, hall⟩ := cls_c hk hop
            rcases q2 hk c vs us hc hvs hus with h1 | h1
            · refine ⟨trS tr m, _, hall _ ?_, rfl, fun id b hb => .inl hb⟩
              unfold frzArgs at hus ⊢
              rw [if_pos h1] at hus ⊢
              exact hus
            · exact ⟨_, _, hall _ (argsSame_spec _ h1 m _ hin), hR.1, hR.2⟩
        have hI0 : DI X ops (trE tr) (trS tr) σ s w n0 a.tmps.size (fun i => (Array.replicate ops.size false).getD i false) a w := by
          have hf : ∀ i, (Array.replicate ops.size false).getD i false = false := by
            intro i
            rw [Array.getD_eq_getD_getElem?, Array.getElem?_replicate]
            split <;> rfl
          refine ⟨⟨0, σ, { s with next := s.next + ops.size }, e, ⟨⟨I.hr.congr (fun _ => rfl), ?_, fun _ _ => rfl, Nat.le_add_right .., fun i hi => I.fresh i (Nat.le_trans (Nat.le_add_right ..) hi), fun _ _ h => h, fun i p h1 h2 => (by rw [h2] at h1; cases h1)⟩,
            Nat.zero_le _, fun i _ => by simp [hf], .inl rfl, fun id _ _ _ => by rw [hS0], fun i _ hd => (by rw [hf] at hd; cases hd), by rw [hS0], fun i b hd => (by rw [hf] at hd; cases hd), fun i hk _ => ?_, fun i hi hl => by rw [hS0]; exact hl, by rw [hS0], by rw [hS0]; exact Nat.le_refl _⟩, ⟨fun t i hd => (by rw [hf] at hd; cases hd), fun t _ => by rw [hE0]⟩, I.env, I.glob, I.df⟩, rfl⟩
          · exact ⟨Sg.le_refl _, fun _ _ h => .inl h, Nat.le_refl _, fun _ _ _ => rfl, fun c _ ⟨i, p, b, h1, h2, h3, h4⟩ => ⟨i, p, b, h1, h2, h3, h4⟩, rfl, rfl, rfl⟩
          · exact I.fresh _ (Nat.le_add_right ..)
        refine DI.run (sz := a.tmps.size) hX hE ht hL hok I.n0 hdst (fun m hm i hi hk => noneAll_spec _ hchk.2 m _ (hmem m hm) i hi hk) hread ?_ ops.size t _ a w (by simp) ?_ ?_ hI0
        · -- at the end
          rintro D a1 w1 hall ⟨⟨m, σ1, T, e1, hH, hK, hEr, hG, hDF⟩, hsz⟩
          have hlast := lastD_spec tr
          rw [h] at hlast
          have hn : tr.getLast? = some (trE tr ops.size, trS tr ops.size) := by
            rw [List.getLast?_eq_getElem?, k1]
            simp [trE, trS, List.getElem?_eq_getElem (show ops.size < tr.length by omega)]
          rw [hn] at hlast
          simp only [Option.some.injEq, Prod.mk.injEq] at hlast
          obtain ⟨rfl, rfl⟩ := hlast
          have hnw : ∀ i, m ≤ i → i < m + (ops.size - m) → ¬ kW X ops i := fun i h1 h2 hk => by
            have := (hH.cutw i hk).1 (hall i (by have := hH.mN; omega)); omega
          have hmn : m + (ops.size - m) = ops.size := by have := hH.mN; omega
          obtain ⟨b1, b2, b3, b4, b5⟩ := ht.between hL m (ops.size - m) (by omega) hnw
          rw [hmn] at b1 b2 b3 b4 b5
          have ltS : ∀ i, kS X ops i → i < ops.size := fun i hi => by
            obtain ⟨o, ho, _⟩ := kS_spec hi
            exact (Array.getElem?_eq_some_iff.1 ho).1
          -- late stores stand behind all else
          have hmS : ∀ i, kS X ops i → m ≤ i := fun i hi => by
            rcases hH.mw with e | ⟨l, rfl, hl⟩
            · omega
            · refine Nat.le_of_not_lt fun hlt => ?_
              have hne : l ≠ i := fun e => kW_notS hl (e ▸ hi)
              obtain ⟨oi, hoi, _, _, _, hall'⟩ := kS_spec hi
              obtain ⟨ol, hol, hc, hll⟩ := id hl
              rcases hall' l ol hne hol with hb | hb | hb | hb
              · have := hok.bef_lt i l hb
                omega
              · rw [hll] at hb; cases hb
              · rw [hc] at hb; cases hb
              · rw [hc] at hb; cases hb
          have g : Good σ s w σ1 (trS tr ops.size) w1 := hH.gd.good (fun i p hp => by
            by_cases hx : ∃ i', m ≤ i' ∧ i' < ops.size ∧ kA X ops i' ∧ i = s.next + i'
            · obtain ⟨i', h1, h2, h3, rfl⟩ := hx
              rw [hH.t2 i' h1 (hall i' h2) h3 (by rw [hp]; simp), ← b4 i' h1 h2 h3]
            · by_cases hy : ∃ i', kS X ops i' ∧ lb X ops (trE tr) i' = some i
              · obtain ⟨i', h1, h2⟩ := hy
                rw [hH.t4 i' i (hall i' (ltS i' h1)) h1 h2 (by rw [hp]; simp), b5 i' i (hmS i' h1) (ltS i' h1) h1 h2]
              · rw [b3 i (fun i' h1 h2 h3 e => hx ⟨i', h1, h2, h3, e⟩) (fun i' _ _ h3 e => hy ⟨i', h3, e⟩)]
                exact hH.t1 i (by rw [hp]; simp) (fun i' h1 h2 h3 e => hx ⟨i', h1, by
                  obtain ⟨o, ho, _⟩ := h3
                  exact (Array.getElem?_eq_some_iff.1 ho).1, h3, e⟩) (fun i' _ h3 e => hy ⟨i', h3, e⟩))
            (fun i hi hl => by
              by_cases hy : ∃ i', kS X ops i' ∧ lb X ops (trE tr) i' = some i
              · exfalso
                obtain ⟨i', h1, h2⟩ := hy
                -- a late store finds its block
                obtain ⟨o, ho, _⟩ := kS_spec h1
                obtain ⟨k0, _, _, g1, _⟩ := ht.late_step ho h1 h2
                have hmi := hmS i' h1
                obtain ⟨d, hd⟩ : ∃ d, i' = m + d := ⟨i' - m, by omega⟩
                have hi' := ltS i' h1
                obtain ⟨_, _, c3, _, _⟩ := ht.between hL m d (by omega) (fun q q1 q2 => hnw q q1 (by omega))
                rw [← hd] at c3
                rw [c3 i (fun q _ q2 _ e => by omega) (fun q _ q2 hq e => hL.ne q i' hq h1 (by omega) (by rw [e, h2])), hH.sdead i hi hl] at g1
                cases g1
              · rw [b3 i (fun i' _ _ _ e => by omega) (fun i' _ _ h3 e => hy ⟨i', h3, e⟩)]
                exact hH.sdead i hi hl) (by rw [b1, hH.t3]) (by rw [b2, hH.sbase]) I.fresh
          refine hQ _ _ ⟨σ1, g, ⟨g.hr, g.fresh I.fresh, hG, fun tt => ?_, hDF, Nat.le_trans I.n0 g.ext.size⟩, hsz⟩
          rw [← hK.at ht (Nat.le_refl _) (fun i hi _ => hall i hi) (fun i hi _ ⟨o, ho, _⟩ => by
            have := (Array.getElem?_eq_some_iff.1 ho).1; omega)]
          exact hEr tt
        · intro j o hd
          simp only at hd
          rw [Array.getD_eq_getD_getElem?, Array.getElem?_replicate] at hd
          split at hd <;> cases hd
        · have : ∀ (D : Nat → Bool) n, left D n ≤ n := by
            intro D n
            induction n with
            | zero => exact Nat.le_refl _
            | succ n ih => simp only [left]; split <;> omega
          exact this _ _
      · cases h
    · cases h
  · cases h

/-- a run of the abstract machine is a call of the program -/
theorem run_ok (hX : Full X P) {n : Nat} {f : FuncId} (hext : X.ext f = none) {args : List AV} {s s' : St} {v : AV} (h : run X n f args s = some (v, s')) {σ : Sg} {w : World} {us : Array Value}
    (H : HR σ s w) (F : Fresh σ s) (G : GlobOk X σ) (hv : vrels σ args us.toList) : Calls P f us w fun en w' => ∃ u σ', en = .returned u ∧ vrel σ' v u ∧ Good σ s w σ' s' w' :=
  run_sound hX (drawOk hX) hext h H F G hv

end
end Go.Am
set_option linter.unusedSimpArgs false
set_option linter.unusedVariables false
set_option linter.unusedSectionVars false
namespace Go.Am
open Go
section
variable (X : Cx)

/-- what the machine comes to with fuel enough -/
noncomputable def execL : Ex := fun c e s =>
  open Classical in if h : ∃ r n, ∀ m, n ≤ m → exec X m c e s = some r then some (Classical.choose h) else none

variable {X}

theorem execL_iff {c : Code} {e : Env} {s : St} {r : Out × Env × St} : execL X c e s = some r ↔ ∃ n, ∀ m, n ≤ m → exec X m c e s = some r := by
  unfold execL
  constructor
  · intro h
    split at h
    · rename_i hx
      cases h
      exact Classical.choose_spec hx
    · cases h
  · rintro ⟨n, hn⟩
    have hx : ∃ r n, ∀ m, n ≤ m → exec X m c e s = some r := ⟨r, n, hn⟩
    rw [dif_pos hx]
    obtain ⟨n', hn'⟩ := Classical.choose_spec hx
    have h1 := hn (max n n') (Nat.le_max_left ..)
    have h2 := hn' (max n n') (Nat.le_max_right ..)
    rw [h1] at h2
    exact congrArg some (Option.some.inj h2).symm

def Ex.le (a b : Ex) : Prop := ∀ c e s r, a c e s = some r → b c e s = some r

/-- it grows with what it is given, and needs but so much of it -/
structure Tame {α : Type} (X : Cx) (F : Ex → Option α) : Prop where
  mono : ∀ a b, Ex.le a b → ∀ r, F a = some r → F b = some r
  cont : ∀ r, F (execL X) = some r → ∃ n, ∀ m, n ≤ m → F (exec X m) = some r

theorem Tame.const {α : Type} (v : Option α) : Tame X (fun _ => v) := ⟨fun _ _ _ _ h => h, fun _ h => ⟨0, fun _ _ => h⟩⟩

theorem Tame.app (c : Code) (e : Env) (s : St) : Tame X (fun ex => ex c e s) := ⟨fun a b h r hr => h c e s r hr, fun r h => execL_iff.1 h⟩

theorem Tame.bind {α β : Type} {A : Ex → Option α} {B : α → Ex → Option β} (hA : Tame X A) (hB : ∀ x, Tame X (B x)) : Tame X (fun ex => (A ex).bind fun x => B x ex) := by
  refine ⟨fun a b h r hr => ?_, fun r hr => ?_⟩
  · cases ha : A a with
    | none => simp [ha] at hr
    | some x =>
      simp only [ha, Option.bind_some] at hr
      simp only [hA.mono a b h x ha, Option.bind_some]
      exact (hB x).mono a b h r hr
  · cases ha : A (execL X) with
    | none => simp [ha] at hr
    | some x =>
      simp only [ha, Option.bind_some] at hr
      obtain ⟨n, hn⟩ := hA.cont x ha
      obtain ⟨k, hk⟩ := (hB x).cont r hr
      refine ⟨max n k, fun m hm => ?_⟩
      simp only [hn m (by omega), Option.bind_some]
      exact hk m (by omega)

theorem Tame.of {α : Type} {F G : Ex → Option α} (h : ∀ ex, F ex = G ex) (hG : Tame X G) : Tame X F := by
  have : F = G := funext h
  rw [this]; exact hG

theorem tame_callB (f : FuncId) (args : List AV) (s : St) : Tame X (fun ex => callB X ex f args s) := by
  unfold callB
  split
  · rename_i fn hfn
    split
    · rename_i c hc
      refine Tame.of (G := fun ex => (ex c (bindArgs 0 args .nil) s).bind fun x => match x with
        | (.norm, e, s') => (match resultsA X fn e s' with | some v => some (v, s') | none => none)
        | (.ret, e, s') => (match resultsA X fn e s' with | some v => some (v, s') | none => none)
        | _ => none) (fun ex => ?_) (Tame.bind (Tame.app _ _ _) fun x => Tame.const _)
      cases ex c (bindArgs 0 args .nil) s with
      | none => rfl
      | some x => obtain ⟨o, e, s'⟩ := x; cases o <;> rfl
    · exact Tame.const _
  · exact Tame.const _

theorem tame_callQ (f : FuncId) (args : List AV) (st : Bool) : Tame X (fun ex => callQ X ex f args st) := by
  refine Tame.of (G := fun ex => (callB X ex f args (ownSt X)).bind fun x => if st then frz X x.2 frzDepth x.1 else if flat x.1 then some x.1 else frzN X x.2 frzDepth x.1) (fun ex => ?_) (Tame.bind (tame_callB _ _ _) fun x => Tame.const _)
  unfold callQ
  cases callB X ex f args (ownSt X) <;> rfl

theorem tame_callP (f : FuncId) (args : List AV) (s : St) : Tame X (fun ex => callP X ex f args s) := by
  unfold callP
  split
  · rename_i us hus
    refine Tame.of (G := fun ex => (callQ X ex f us (stills args)).bind fun v => some (v, s)) (fun ex => ?_) (Tame.bind (tame_callQ _ _ _) fun x => Tame.const _)
    cases callQ X ex f us (stills args) <;> rfl
  · exact Tame.const _

theorem tame_callF (f : FuncId) (args : List AV) (s : St) : Tame X (fun ex => callF X ex f args s) := by
  unfold callF
  split
  · exact Tame.const _
  · split
    · exact tame_callP _ _ _
    · exact tame_callB _ _ _

theorem tame_yieldA (l : Nat) (args : List AV) (s : St) : Tame X (fun ex => yieldA ex l args s) := by
  unfold yieldA
  split
  · rename_i p env params assign body hg
    split
    · rename_i hlen
      refine Tame.of (G := fun ex => (ex assign ((params.zip args).foldl (fun e (t, a) => Tr.set e t a) env) s).bind fun x => match x with
        | (.norm, env1, s1) => (match s1.get l with
          | some (.loop 0 p1 e1 q1 a1 b1) => (ex body env1 (s1.put l (.loop 1 p1 e1 q1 a1 b1))).bind fun y => (match y.2.2.get l with
            | some (.loop _ _ e2 q2 a2 b2) => endRoundA l y.1 e2 q2 a2 b2 y.2.2
            | _ => none)
          | _ => none)
        | _ => none) (fun ex => ?_) (Tame.bind (Tame.app _ _ _) fun x => ?_)
      · simp only
        cases ex assign ((params.zip args).foldl (fun e (t, a) => Tr.set e t a) env) s with
        | none => rfl
        | some x =>
          obtain ⟨o, e1, s1⟩ := x
          cases o <;> simp only [Option.bind_some]
          split
          · rename_i p1 e2 q1 a1 b1 h1
            simp only [h1]
            cases ex body e1 (s1.put l (.loop 1 p1 e2 q1 a1 b1)) with
            | none => rfl
            | some y => obtain ⟨o2, e3, s3⟩ := y; rfl
          · rename_i hne
            split
            · rename_i h; exact absurd h (hne _ _ _ _ _)
            · rfl
      · obtain ⟨o, e1, s1⟩ := x
        cases o <;> simp only <;> try exact Tame.const _
        split
        · exact Tame.bind (Tame.app _ _ _) fun y => Tame.const _
        · exact Tame.const _
    · exact Tame.const _
  · exact Tame.const _

theorem tame_callV (f : AV) (args : List AV) (s : St) : Tame X (fun ex => callV X ex f args s) := by
  unfold callV
  split
  · exact tame_callF _ _ _
  · exact tame_yieldA _ _ _
  · exact Tame.const _

theorem tame_opA (e : Env) (o : Op) (s : St) : Tame X (fun ex => opA X ex e o s) := by
  cases o <;> try exact Tame.const _
  case next it b => cases b <;> exact Tame.const _
  case call c =>
    obtain ⟨callee, args, ats⟩ := c
    cases callee with
    | builtin b => exact Tame.const _
    | invoke _ _ => exact Tame.const _
    | value f =>
      simp only [opA]
      split
      · exact tame_callV _ _ _
      · exact Tame.const _

theorem tame_opsA (ops : Array Oper) : ∀ (l : List Oper) (e : Env) (s : St), Tame X (fun ex => opsA X ex ops l e s)
  | [], e, s => Tame.const _
  | o :: l, e, s => by
    unfold opsA
    split
    · refine Tame.of (G := fun ex => (opA X ex e o.op s).bind fun x => opsA X ex ops l (setDst e o.dst x.1) x.2) (fun ex => ?_) (Tame.bind (tame_opA _ _ _) fun x => tame_opsA ops l _ _)
      cases opA X ex e o.op s <;> rfl
    · exact tame_opsA ops l _ _

theorem tame_stepD (ops : Array Oper) (base i : Nat) (o : Oper) (e : Env) (s : St) : Tame X (fun ex => stepD X ex ops base i o e s) := by
  unfold stepD
  split
  · split
    · refine Tame.of (G := fun ex => (opA X ex e o.op { s with next := base + i }).bind fun x => some (setDst e o.dst x.1, { x.2 with next := s.next })) (fun ex => ?_) (Tame.bind (tame_opA _ _ _) fun x => Tame.const _)
      cases opA X ex e o.op { s with next := base + i } <;> rfl
    · refine Tame.of (G := fun ex => (opA X ex e o.op s).bind fun x => some (setDst e o.dst x.1, x.2)) (fun ex => ?_) (Tame.bind (tame_opA _ _ _) fun x => Tame.const _)
      cases opA X ex e o.op s <;> rfl
  · exact Tame.const _

theorem tame_goD (ops : Array Oper) (base : Nat) : ∀ (l : List Oper) (i : Nat) (e : Env) (s : St), Tame X (fun ex => goD X ex ops base i l e s)
  | [], i, e, s => Tame.const _
  | o :: l, i, e, s => by
    refine Tame.of (G := fun ex => (stepD X ex ops base i o e s).bind fun x => (goD X ex ops base (i + 1) l x.1 x.2).bind fun r => some ((e, s) :: r)) (fun ex => ?_)
      (Tame.bind (tame_stepD _ _ _ _ _ _) fun x => Tame.bind (tame_goD ops base l _ _ _) fun r => Tame.const _)
    simp only [goD]
    cases stepD X ex ops base i o e s with
    | none => rfl
    | some x =>
      simp only [Option.bind_some]
      cases goD X ex ops base (i + 1) l x.1 x.2 <;> rfl

/-- a test, as something that may come to nothing -/
def tst (b : Bool) : Option Unit := if b then some () else none

theorem tst_and (a b : Bool) : tst (a && b) = (tst a).bind fun _ => tst b := by
  cases a <;> cases b <;> rfl

theorem tame_readsSame (ops : Array Oper) (base i : Nat) (as : List Nat) (tr : List (Env × St)) (e : Env) (o : Op) (v : AV) : ∀ l : List (Nat × St), Tame X (fun ex => tst (readsSame X ex ops base i as tr e o v l))
  | [] => Tame.const _
  | (m, s) :: l => by
    refine Tame.of (G := fun ex => (opA X ex e o (addA ops base i m tr as s)).bind fun x => (tst (same x.1 v)).bind fun _ => tst (readsSame X ex ops base i as tr e o v l)) (fun ex => ?_)
      (Tame.bind (tame_opA _ _ _) fun x => Tame.bind (Tame.const _) fun _ => tame_readsSame ops base i as tr e o v l)
    simp only [readsSame]
    cases opA X ex e o (addA ops base i m tr as s) with
    | none => rfl
    | some x => simp only [Option.bind_some]; rw [tst_and]

theorem tame_checkR (ops : Array Oper) (base : Nat) (ws as : List Nat) (ss : List (Nat × St)) (tr0 : List (Env × St)) : ∀ (l : List Oper) (tr : List (Env × St)) (i : Nat), Tame X (fun ex => tst (checkR X ex ops base ws as ss tr0 i l tr))
  | [], tr, i => by cases tr <;> exact Tame.const _
  | o :: l, [], i => Tame.const _
  | o :: l, (e, s) :: tr, i => by
    simp only [checkR]
    refine Tame.of (fun ex => tst_and _ _) (Tame.bind ?_ fun _ => tame_checkR ops base ws as ss tr0 l tr (i + 1))
    split
    · cases hw : wantedA ops e o with
      | false => exact Tame.const _
      | true =>
        simp only [Bool.not_true, Bool.false_or]
        refine Tame.of (G := fun ex => (opA X ex e o.op s).bind fun x => tst (readsSame X ex ops base i as tr0 e o.op x.1 (rangeR ops ws ss i))) (fun ex => ?_) (Tame.bind (tame_opA _ _ _) fun x => tame_readsSame _ _ _ _ _ _ _ _ _)
        cases opA X ex e o.op s <;> rfl
    · exact Tame.const _
    · exact Tame.const _

theorem tame_drawA (ops : Array Oper) (e : Env) (s : St) : Tame X (fun ex => drawA X ex ops e s) := by
  refine Tame.of (G := fun ex => (goD X ex ops s.next 0 ops.toList e { s with next := s.next + ops.size }).bind fun tr => match statesD tr (wIdx X ops 0 ops.toList) with
    | some ss => (tst (checkR X ex ops s.next (wIdx X ops 0 ops.toList) (aIdx X 0 ops.toList) ((0, { s with next := s.next + ops.size }) :: ss) tr 0 ops.toList tr)).bind fun _ =>
      if lateOk s.next ops.size (lateIds X ops 0 ops.toList tr) && noneAll X ops s.next ((0, { s with next := s.next + ops.size }) :: ss) then lastD tr else none
    | none => none) (fun ex => ?_) (Tame.bind (tame_goD _ _ _ _ _ _) fun tr => ?_)
  · unfold drawA
    cases goD X ex ops s.next 0 ops.toList e { s with next := s.next + ops.size } with
    | none => rfl
    | some tr =>
      simp only [Option.bind_some]
      cases statesD tr (wIdx X ops 0 ops.toList) with
      | none => rfl
      | some ss =>
        simp only
        cases checkR X ex ops s.next (wIdx X ops 0 ops.toList) (aIdx X 0 ops.toList) ((0, { s with next := s.next + ops.size }) :: ss) tr 0 ops.toList tr <;> simp [tst]
  · split
    · exact Tame.bind (tame_checkR _ _ _ _ _ _ _ _ _) fun _ => Tame.const _
    · exact Tame.const _

theorem tame_stepA (c : Code) (e : Env) (s : St) : Tame X (fun ex => stepA X ex c e s) := by
  cases c <;> try exact Tame.const _
  case region id ops d =>
    cases d with
    | true =>
      refine Tame.of (G := fun ex => (drawA X ex ops e s).bind fun x => some (.norm, x.1, x.2)) (fun ex => ?_) (Tame.bind (tame_drawA _ _ _) fun x => Tame.const _)
      simp only [stepA, if_true]
      cases drawA X ex ops e s <;> rfl
    | false =>
      refine Tame.of (G := fun ex => (opsA X ex ops ops.toList e s).bind fun x => some (.norm, x.1, x.2)) (fun ex => ?_) (Tame.bind (tame_opsA _ _ _ _) fun x => Tame.const _)
      simp only [stepA, Bool.false_eq_true, if_false]
      cases opsA X ex ops ops.toList e s <;> rfl
  case seq a b =>
    refine Tame.of (G := fun ex => (ex a e s).bind fun x => match x with
      | (.norm, e, s) => ex b e s
      | r => some r) (fun ex => ?_) (Tame.bind (Tame.app _ _ _) fun x => ?_)
    · simp only [stepA]
      cases ex a e s with
      | none => rfl
      | some x => obtain ⟨o, e1, s1⟩ := x; cases o <;> rfl
    · obtain ⟨o, e1, s1⟩ := x
      cases o
      · exact Tame.app _ _ _
      · exact Tame.const _
      · exact Tame.const _
  case cond c a b =>
    simp only [stepA]
    split
    · exact Tame.app _ _ _
    · exact Tame.app _ _ _
    · exact Tame.const _
  case block id b =>
    refine Tame.of (G := fun ex => (ex b e s).bind fun x => match x with
      | (.exit i, e, s) => if i = id then some (.norm, e, s) else some (.exit i, e, s)
      | r => some r) (fun ex => ?_) (Tame.bind (Tame.app _ _ _) fun x => Tame.const _)
    simp only [stepA]
    cases ex b e s with
    | none => rfl
    | some x => obtain ⟨o, e1, s1⟩ := x; cases o <;> rfl
  case loop b =>
    refine Tame.of (G := fun ex => (ex b e s).bind fun x => match x with
      | (.norm, e, s) => ex (.loop b) e s
      | r => some r) (fun ex => ?_) (Tame.bind (Tame.app _ _ _) fun x => ?_)
    · simp only [stepA]
      cases ex b e s with
      | none => rfl
      | some x => obtain ⟨o, e1, s1⟩ := x; cases o <;> rfl
    · obtain ⟨o, e1, s1⟩ := x
      cases o
      · exact Tame.app _ _ _
      · exact Tame.const _
      · exact Tame.const _
  case scope b => exact Tame.app _ _ _
  case rangeFunc f params assign body =>
    simp only [stepA]
    split
    · rename_i g first cap hf
      split
      · refine Tame.of (G := fun ex => (callF X ex g (first ++ [.fn (.yield s.next) [] []] ++ cap) (s.new (.loop 0 none e params.toList assign body))).bind fun x => match x.2.get s.next with
          | some (.loop st p _ _ _ _) => if st = 1 then none else endLoopA p e (x.2.put s.next .gone)
          | _ => none) (fun ex => ?_) (Tame.bind (tame_callF _ _ _) fun x => Tame.const _)
        cases callF X ex g (first ++ [.fn (.yield s.next) [] []] ++ cap) (s.new (.loop 0 none e params.toList assign body)) <;> rfl
      · exact Tame.const _
    · exact Tame.const _

theorem exec_le : ∀ n, Ex.le (exec X n) (exec X (n + 1))
  | 0 => by intro c e s r h; simp [exec] at h
  | n + 1 => fun c e s r h => (tame_stepA c e s).mono _ _ (exec_le n) r h

theorem exec_le' {n m : Nat} (h : n ≤ m) : Ex.le (exec X n) (exec X m) := by
  induction h with
  | refl => exact fun _ _ _ _ h => h
  | step _ ih => exact fun c e s r hr => exec_le _ c e s r (ih c e s r hr)

theorem exec_leL (n : Nat) : Ex.le (exec X n) (execL X) := fun c e s r h => execL_iff.2 ⟨n, fun m hm => exec_le' hm c e s r h⟩

/-- the limit is a fixed point -/
theorem execL_eq (c : Code) (e : Env) (s : St) : execL X c e s = stepA X (execL X) c e s := by
  cases h : execL X c e s with
  | some r =>
    obtain ⟨n, hn⟩ := execL_iff.1 h
    have := hn (n + 1) (Nat.le_succ n)
    exact ((tame_stepA c e s).mono _ _ (exec_leL n) r this).symm
  | none =>
    cases h' : stepA X (execL X) c e s with
    | none => rfl
    | some r =>
      obtain ⟨n, hn⟩ := (tame_stepA c e s).cont r h'
      have : execL X c e s = some r := execL_iff.2 ⟨n + 1, fun m hm => by
        obtain ⟨k, rfl⟩ : ∃ k, m = k + 1 := ⟨m - 1, by omega⟩
        exact hn k (by omega)⟩
      rw [h] at this; cases this

/-- a call in the limit is a call with fuel enough -/
theorem callL_run {f : FuncId} {args : List AV} {s : St} {r : AV × St} (h : callF X (execL X) f args s = some r) : ∃ n, run X n f args s = some r := by
  obtain ⟨n, hn⟩ := (tame_callF f args s).cont r h
  exact ⟨n, hn n (Nat.le_refl n)⟩

end
end Go.Am
set_option linter.unusedSimpArgs false
set_option linter.unusedVariables false
set_option linter.unusedSectionVars false
namespace Go.Am
open Go
/-! # Code made ready for reading: operands and types resolved -/

inductive Opd where
  | t (n : Nat)
  | v (a : AV)

inductive ROp where
  | mov (x : Opd)
  | pick (c a b : Opd)
  | al (z : List AV) (t : TypeId)
  | box (t : TypeId) (x : Opd)
  | ld1 (x : Opd)
  | ldn (n : Nat) (x : Opd)
  | st (n : Nat) (a x : Opd)
  | fa (o : Nat) (x : Opd)
  | bin (op : BinOp) (t : TypeId) (cst : Bool) (x y : Opd)
  | ext (x : Opd) (i : Nat)
  | call (f : FuncId) (args : List Opd)
  | callv (f : Opd) (args : List Opd)
  | un (op : UnOp) (x : Opd)
  | lenS (x : Opd)
  | lenL (x : Opd)
  | lenM (x : Opd)
  | ixs (x i : Opd)
  | ixa (n : Nat) (x i : Opd)
  | ixp (len n : Nat) (x i : Opd)
  | sls (x : Opd) (lo hi : Option Opd)
  | sll (n : Nat) (x : Opd) (lo hi : Option Opd)
  | fd1 (o : Nat) (x : Opd)
  | fdn (o n : Nat) (x : Opd)
  | bld (z : List AV) (ps : List (Nat × Nat × Opd))
  | bsl (t : TypeId) (n len : Nat) (z : List AV) (ps : List (Nat × Nat × Opd))
  | app (t : TypeId) (n bytes : Nat) (d x : Opd)
  | mkf (f : FuncId) (a b : List Opd)
  | raw (o : Op)

structure RO where
  d : Option Nat
  g : Option (Nat × Bool)
  at_ : Option Nat
  w : Bool
  op : ROp

inductive RC where
  | ops (l : List RO)
  | drw (n : Nat) (l : List RO)
  | seq (a b : RC)
  | cond (c : Opd) (a b : RC)
  | block (id : Nat) (b : RC)
  | loop (b : RC)
  | exit (id : Nat)
  | ret
  | skip
  | raw (c : Code)

section
variable (X : Cx)

/-- a call, with fuel enough -/
noncomputable def cal (f : FuncId) (args : List AV) (s : St) : Option (AV × St) := callF X (execL X) f args s
noncomputable def calv (f : AV) (args : List AV) (s : St) : Option (AV × St) := callV X (execL X) f args s

def evO (e : Env) : Opd → AV
  | .t n => Env.get e n
  | .v a => a

def evOs (e : Env) (l : List Opd) : List AV := l.map (evO e)

/-- a new block: at the counter, or at the id that is kept for it -/
def mk (base : Nat) (at_ : Option Nat) (c : List AV) (t : TypeId) (s : St) : AV × St := match at_ with
  | none => (.ptr s.next 0, s.new (.cells c t false 0 0))
  | some i => (.ptr (base + i) 0, s.put (base + i) (.cells c t false 0 0))

def ld1 (x : AV) (s : St) : Option AV := match x with
  | .ptr b o => cell s b o
  | .fp c o => c[o]?
  | _ => none

def ldn (n : Nat) (x : AV) (s : St) : Option AV := match x with
  | .ptr b o => match s.cells b with
    | some c => match grab n o c with
      | some r => some (.agg r)
      | none => none
    | none => none
  | .fp c o => match grab n o c with
    | some r => some (.agg r)
    | none => none
  | _ => none

def st (n : Nat) (a v : AV) (s : St) : Option St := match a with
  | .ptr b o => if v.cells.length = n then writeCells s b o v.cells else none
  | _ => none

def faR (o : Nat) (x : AV) : Option AV := match x with
  | .ptr b o' => some (.ptr b (o' + o))
  | .fp c o' => some (.fp c (o' + o))
  | _ => none

def pickR (c a b : AV) : Option AV := match c with
  | .bool p => some (bif p then a else b)
  | _ => none

def extR (x : AV) (i : Nat) : Option AV := match x with
  | .tup vs => vs[i]?
  | _ => none

def lenRS : AV → Option AV
  | .str l => some (.int .i64 l.length)
  | _ => none
def lenRL : AV → Option AV
  | .nils => some (.int .i64 0)
  | .sl _ _ n _ _ => some (.int .i64 n)
  | .fz es => some (.int .i64 es.length)
  | _ => none
def lenRM (s : St) : AV → Option AV
  | .nilm => some (.int .i64 0)
  | .fm ks _ => some (.int .i64 ks.length)
  | .map r => match s.get r with
    | some (.map es _) => some (.int .i64 es.length)
    | _ => none
  | _ => none
def ixRS (x i : AV) : Option AV := match x, i with
  | .str b, .int _ i => if 0 ≤ i then
      match b[i.toNat]? with | some c => some (.int .u8 c.toNat) | none => none
    else none
  | _, _ => none
def ixRA (n : Nat) (x i : AV) : Option AV := match x, i with
  | .sl b o len _ _, .int _ i => if 0 ≤ i ∧ i < len then some (.ptr b (o + i.toNat * n)) else none
  | .fz es, .int _ i => if 0 ≤ i then match es[i.toNat]? with
      | some x => if x.cells.length = n ∧ n ≠ 0 then some (.fp x.cells 0) else none
      | none => none
    else none
  | _, _ => none
def ixRP (len n : Nat) (x i : AV) : Option AV := match x, i with
  | .ptr b o, .int _ i => if 0 ≤ i ∧ i < len then some (.ptr b (o + i.toNat * n)) else none
  | .fp c o, .int _ i => if 0 ≤ i ∧ i < len then some (.fp c (o + i.toNat * n)) else none
  | _, _ => none
def evOo (e : Env) (x : Option Opd) : Option AV := x.map (evO e)
def slRS (x : AV) (lo hi : Option AV) : Option AV := match x with
  | .str b => match boundA hi b.length b.length with
    | some h => match boundA lo 0 h with
      | some l => some (.str ((b.take h).drop l))
      | none => none
    | none => none
  | _ => none
def slRL (n : Nat) (x : AV) (lo hi : Option AV) : Option AV := match x with
  | .sl b o len cap esz => match boundA hi len (cap.getD len) with
    | some h => match boundA lo 0 h with
      | some l => some (.sl b (o + l * n) (h - l) (cap.map (· - l)) (if esz = n then n else 0))
      | none => none
    | none => none
  | .nils => match boundA hi 0 0 with
    | some h => match boundA lo 0 h with
      | some _ => some .nils
      | none => none
    | none => none
  | .fz es => match boundA hi es.length es.length with
    | some h => match boundA lo 0 h with
      | some l => if es.all (fun x => x.cells.length == n) then some (.fz ((es.take h).drop l)) else none
      | none => none
    | none => none
  | _ => none
def fdR1 (o : Nat) (x : AV) : Option AV := match x with
  | .agg cs => cs[o]?
  | _ => none
def fdRn (o n : Nat) (x : AV) : Option AV := match x with
  | .agg cs => match grab n o cs with
    | some r => some (.agg r)
    | none => none
  | _ => none
def fillR (e : Env) (cells : List AV) : List (Nat × Nat × Opd) → Option (List AV)
  | [] => some cells
  | (off, n, x) :: rest => if (evO e x).cells.length = n ∧ off + n ≤ cells.length then
      match lay off (evO e x).cells cells with
      | some c => fillR e c rest
      | none => none
    else none
/-- append, where the element's type is known -/
def appR (t : TypeId) (n bytes : Nat) (d x : AV) (s : St) : Option (AV × St) := match sourceA n x s with
  | some (m, new) =>
    if new.length ≠ m * n ∨ (lenA d + m) * bytes > 2 ^ 40 ∨ lenA d + m > 2 ^ 40 then none
    else if m = 0 then match d with
      | .nils => some (d, s)
      | .sl .. => some (d, s)
      | .fz _ => some (d, s)
      | _ => none
    else match d with
    | .nils => some (.sl s.next 0 m none n, s.new (.cells new t false 0 0))
    | .sl b o len cap esz => match s.cells b with
      | some c => match grab (len * n) o c with
        | some old =>
          match cap with
          | some k => if len + m ≤ k then
              if esz = n then match writeCells s b (o + len * n) new with
                | some s' => some (.sl b o (len + m) (some k) n, s')
                | none => none
              else none
            else some (.sl s.next 0 (len + m) none n, s.new (.cells (old ++ new) t false 0 0))
          | none => match s.get b with
            | some (.cells _ e0 false flo fhi) =>
              if esz = n ∧ fhi ≤ o + len * n ∧ e0 = t ∧ new.all noAgg = true then
                some (.sl s.next 0 (len + m) none n, (s.put b .gone).new (.cells (old ++ new) t false (flo - o) (fhi - o)))
              else none
            | _ => none
        | none => none
      | none => none
    | _ => none
  | none => none

/-- the operation again, where it makes a block at an id that is kept for it -/
noncomputable def rawR (base : Nat) (at_ : Option Nat) (e : Env) (o : Op) (s : St) : Option (AV × St) := match at_ with
  | none => opA X (execL X) e o s
  | some i => match opA X (execL X) e o { s with next := base + i } with
    | some (v, s') => some (v, { s' with next := s.next })
    | none => none

noncomputable def rop (base : Nat) (at_ : Option Nat) (e : Env) (s : St) : ROp → Option (AV × St)
  | .mov x => some (evO e x, s)
  | .pick c a b => pureO (pickR (evO e c) (evO e a) (evO e b)) s
  | .al z t => some (mk base at_ z t s)
  | .box t x => some (mk base at_ (evO e x).cells t s)
  | .ld1 x => pureO (ld1 (evO e x) s) s
  | .ldn n x => pureO (ldn n (evO e x) s) s
  | .st n a x => unitO (st n (evO e a) (evO e x) s)
  | .fa o x => pureO (faR o (evO e x)) s
  | .bin op t cst x y => pureO (binA X op t cst (evO e x) (evO e y)) s
  | .ext x i => pureO (extR (evO e x) i) s
  | .call f args => cal X f (evOs e args) s
  | .callv f args => calv X (evO e f) (evOs e args) s
  | .un op x => pureO (unA op (evO e x)) s
  | .lenS x => pureO (lenRS (evO e x)) s
  | .lenL x => pureO (lenRL (evO e x)) s
  | .lenM x => pureO (lenRM s (evO e x)) s
  | .ixs x i => pureO (ixRS (evO e x) (evO e i)) s
  | .ixa n x i => pureO (ixRA n (evO e x) (evO e i)) s
  | .ixp len n x i => pureO (ixRP len n (evO e x) (evO e i)) s
  | .sls x lo hi => pureO (slRS (evO e x) (evOo e lo) (evOo e hi)) s
  | .sll n x lo hi => pureO (slRL n (evO e x) (evOo e lo) (evOo e hi)) s
  | .fd1 o x => pureO (fdR1 o (evO e x)) s
  | .fdn o n x => pureO (fdRn o n (evO e x)) s
  | .bld z ps => pureO ((fillR e z ps).map .agg) s
  | .bsl t n len z ps => match fillR e z ps with
    | some c => match at_ with
      | none => some (.sl s.next 0 len (some len) n, s.new (.cells c t false 0 0))
      | some i => some (.sl (base + i) 0 len (some len) n, s.put (base + i) (.cells c t false 0 0))
    | none => none
  | .app t n bytes d x => appR t n bytes (evO e d) (evO e x) s
  | .mkf f a b => some (.fn (.func f) (evOs e a) (evOs e b), s)
  | .raw o => rawR X base at_ e o s

def wantR (e : Env) : Option (Nat × Bool) → Bool
  | none => true
  | some (t, b) => match Env.get e t with
    | .bool p => p == b
    | _ => false

noncomputable def rops (base : Nat) : List RO → Env → St → Option (Env × St)
  | [], e, s => some (e, s)
  | o :: l, e, s => match (bif wantR e o.g then rop X base o.at_ e s o.op else some (undef, s)) with
    | some (v, s') => rops base l (setDst e o.d v) s'
    | none => none

/-- no block stands yet where one is to be made -/
def noneR (base : Nat) (s : St) (l : List RO) : Bool := l.all fun o => match o.at_ with
  | some i => (s.get (base + i)).isNone
  | none => true

noncomputable def ropsD (base : Nat) : List RO → Env → St → Option (Env × St)
  | [], e, s => some (e, s)
  | o :: l, e, s => match (bif wantR e o.g then rop X base o.at_ e s o.op else some (undef, s)) with
    | some (v, s') => if !o.w || noneR base s' l then ropsD base l (setDst e o.d v) s' else none
    | none => none

abbrev Fl := Option (Out × Env × St)

def iterN (b : Env → St → Fl) : Nat → Env → St → Fl
  | 0, _, _ => none
  | n + 1, e, s => match b e s with
    | some (.norm, e, s) => iterN b n e s
    | r => r

/-- round after round -/
noncomputable def iterL (b : Env → St → Fl) : Env → St → Fl := fun e s =>
  open Classical in if h : ∃ r n, iterN b n e s = some r then some (Classical.choose h) else none

noncomputable def den : RC → Env → St → Fl
  | .ops l, e, s => match rops X 0 l e s with
    | some (e, s) => some (.norm, e, s)
    | none => none
  | .drw n l, e, s => if noneR s.next s l then match ropsD X s.next l e { s with next := s.next + n } with
    | some (e, s) => some (.norm, e, s)
    | none => none
    else none
  | .seq a b, e, s => match den a e s with
    | some (.norm, e, s) => den b e s
    | r => r
  | .cond c a b, e, s => match evO e c with
    | .bool p => bif p then den a e s else den b e s
    | _ => none
  | .block id b, e, s => match den b e s with
    | some (.exit i, e, s) => if i = id then some (.norm, e, s) else some (.exit i, e, s)
    | r => r
  | .loop b, e, s => iterL (den b) e s
  | .exit id, e, s => some (.exit id, e, s)
  | .ret, e, s => some (.ret, e, s)
  | .skip, e, s => some (.norm, e, s)
  | .raw c, e, s => execL X c e s

/-! ### How it is made -/

def rcO : Operand → Option Opd
  | .tmp t => some (.t t)
  | .const v => (ofV 3 v).map .v
  | .global g => if g < X.glob then some (.v (.ptr g 0)) else none
  | .func f => some (.v (.fn (.func f) [] []))

def rcOs : List Operand → Option (List Opd)
  | [] => some []
  | x :: l => match rcO X x, rcOs l with
    | some a, some r => some (a :: r)
    | _, _ => none

def rcOo : Option Operand → Option (Option Opd)
  | none => some none
  | some x => (rcO X x).map some

def rcPs (place : Nat → Option (Nat × Nat)) : List (Nat × Operand) → Option (List (Nat × Nat × Opd))
  | [] => some []
  | (i, x) :: l => match place i, rcO X x, rcPs place l with
    | some (off, n), some a, some r => some ((off, n, a) :: r)
    | _, _, _ => none

/-- none: left as it is -/
def rcOp? : Op → Option ROp
  | .move x | .assign x => (rcO X x).map .mov
  | .pick c a b => match rcO X c, rcO X a, rcO X b with
    | some c, some a, some b => some (.pick c a b)
    | _, _, _ => none
  | .alloc t => (zero X t).map fun z => .al z.cells t
  | .box t x => (rcO X x).map (.box t)
  | .load t x => match isAggT X t, size X t, rcO X x with
    | some true, some n, some a => some (.ldn n a)
    | some false, _, some a => some (.ld1 a)
    | _, _, _ => none
  | .store t a x => match size X t, rcO X a, rcO X x with
    | some n, some a, some x => some (.st n a x)
    | _, _, _ => none
  | .fieldAddr t x f => match X.und t, rcO X x with
    | some (.struct fs), some a => match fs[f]? with
      | some fd => match size X fd.type with
        | some (_ + 1) => some (.fa fd.offset a)
        | _ => none
      | none => none
    | _, _ => none
  | .binOp op t x y _ => match rcO X x, rcO X y with
    | some a, some b => some (.bin op t (isConstO x || isConstO y) a b)
    | _, _ => none
  | .extract x i => (rcO X x).map fun a => .ext a i
  | .unOp op _ x => (rcO X x).map (.un op)
  | .call { callee := .builtin .len, args, argTypes, .. } => match args.toList, argTypes[0]? with
    | [x], some t => match X.und t, rcO X x with
      | some .string, some a => some (.lenS a)
      | some (.slice _), some a => some (.lenL a)
      | some (.map _ _), some a => some (.lenM a)
      | _, _ => none
    | _, _ => none
  | .call { callee := .builtin .append, args, argTypes, .. } => match args.toList, argTypes[0]?, argTypes[1]? with
    | [d, x], some t, some u => match X.und t, X.und u, rcO X d, rcO X x with
      | some (.slice elem), some ud, some a, some b => match X.inf elem, size X elem, (match ud with | .slice _ => true | .string => true | _ => false) with
        | some ei, some n, true => if ei.bytes > 2 ^ 20 ∨ n = 0 ∨ ei.bytes = 0 ∨ zeroBad ei.zero n = true ∨ X.spec elem = true then none else some (.app elem n ei.bytes a b)
        | _, _, _ => none
      | _, _, _, _ => none
    | _, _, _ => none
  | .index t x i => match X.und t, rcO X x, rcO X i with
    | some .string, some a, some b => some (.ixs a b)
    | _, _, _ => none
  | .indexAddr t x i => match X.und t, rcO X x, rcO X i with
    | some (.slice e), some a, some b => (size X e).map fun n => .ixa n a b
    | some (.array len e), some a, some b => (size X e).map fun n => .ixp len n a b
    | _, _, _ => none
  | .slice t x lo hi none => match X.und t, rcO X x, rcOo X lo, rcOo X hi with
    | some .string, some a, some l, some h => some (.sls a l h)
    | some (.slice e), some a, some l, some h => (size X e).map fun n => .sll n a l h
    | _, _, _, _ => none
  | .field t x f => match X.und t, rcO X x with
    | some (.struct fs), some a => match fs[f]? with
      | some fd => match isAggT X fd.type, size X fd.type with
        | some true, some n => some (.fdn fd.offset n a)
        | some false, _ => some (.fd1 fd.offset a)
        | _, _ => none
      | none => none
    | _, _ => none
  | .build t ps => match zero X t, X.und t with
    | some (.agg z), some (.struct fs) => match placesA X fs.toList with
      | some pl => (rcPs X (fun i => pl[i]?) ps.toList).map (.bld z)
      | none => none
    | some (.agg z), some (.array _ elem) => match size X elem with
      | some n => (rcPs X (fun i => some (i * n, n)) ps.toList).map (.bld z)
      | none => none
    | _, _ => none
  | .buildSlice t len ps => match X.und t with
    | some (.slice elem) => match size X elem, zero X elem with
      | some n, some z => if z.cells.length = n ∧ n ≠ 0 ∧ len * n ≤ 2 ^ 24 then (rcPs X (fun i => some (i * n, n)) ps.toList).map (.bsl elem n len (repeatL len z.cells)) else none
      | _, _ => none
    | _ => none
  | .makeFunc (.func g) a b => match rcOs X a.toList, rcOs X b.toList with
    | some x, some y => some (.mkf g x y)
    | _, _ => none
  | .call { callee := .value (.func f), args, .. } => (rcOs X args.toList).map (.call f)
  | .call { callee := .value (.tmp t), args, .. } => (rcOs X args.toList).map (.callv (.t t))
  | _ => none

def rcOp (o : Op) : ROp := match rcOp? X o with
  | some r => r
  | none => .raw o

/-- the temporary that a guard looks at -/
def rcG (ops : Array Oper) : Option (Nat × Bool) → Option (Option (Nat × Bool))
  | none => some none
  | some (j, b) => match ops[j]? with
    | some o => match o.dst with
      | some d => some (some (d, b))
      | none => none
    | none => none

def rcOps (ops : Array Oper) (draw : Bool) : Nat → List Oper → Option (List RO)
  | _, [] => some []
  | i, o :: l => match rcG ops o.guard, rcOps ops draw (i + 1) l with
    | some g, some r => some ({ d := o.dst, g, at_ := if draw && (cls X o.op).isA then some i else none, w := draw && (cls X o.op).isW, op := rcOp X o.op } :: r)
    | _, _ => none

/-- in its written order such a region reads as in any: none of its reads is left open -/
def calmD (ops : Array Oper) : Bool :=
  let ws := wIdx X ops 0 ops.toList
  let as := aIdx X 0 ops.toList
  !lateReg X ops && (List.range ops.size).all fun i => match ops[i]? with
    | some o => !((cls X o.op).isR || (match cls X o.op with | .q => true | _ => false)) ||
      ((as.all fun k => !decide (k < i) || bef ops k i) && (ws.all fun k => bef ops k i || bef ops i k))
    | none => true

def rc : Code → RC
  | .skip => .skip
  | .label _ => .skip
  | .region id ops d => if d then (if calmD X ops && okD X ops then match rcOps X ops true 0 ops.toList with
      | some l => .drw ops.size l
      | none => .raw (.region id ops d)
      else .raw (.region id ops d))
    else match rcOps X ops false 0 ops.toList with
      | some l => .ops l
      | none => .raw (.region id ops d)
  | .seq a b => .seq (rc a) (rc b)
  | .cond c a b => match rcO X c with
    | some x => .cond x (rc a) (rc b)
    | none => .raw (.cond c a b)
  | .block id b => .block id (rc b)
  | .loop b => .loop (rc b)
  | .scope b => rc b
  | .exit id => .exit id
  | .ret => .ret
  | c => .raw c

end
end Go.Am
