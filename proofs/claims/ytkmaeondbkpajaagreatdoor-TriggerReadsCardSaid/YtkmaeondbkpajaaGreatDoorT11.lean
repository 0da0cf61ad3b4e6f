/- A part of the proof of a statement of this seat: the machine on which the program is read, and what it computes; for every input. -/
import Derived.Test.YtkmaeondbkpajaaGreatDoorT10
import Derived.Test.YtkmaeondbkpajaaGreatDoorT03
import Derived.Test.YtkmaeondbkpajaaGreatDoorT09
set_option linter.all false
set_option linter.all false
namespace Go.Am
open Go
variable [MaxLen]
set_option maxRecDepth 100000
set_option maxHeartbeats 8000000
/-! # A condition that was read, as it lies in memory -/

def cellsC (c : Cond) (kv : AV) : List AV := [.str c.kind, .int .i64 c.a, .int .i64 c.b, .int .i64 c.mi, .int .i64 c.ma, .str c.pat, kv]
mutual
inductive KK (s : St) (P : Nat → Prop) : List Cond → AV → Prop
  | nil : KK s P [] .nils
  | row {l : List Cond} {cs : List AV} {b : Nat} : l ≠ [] → P b → s.get b = some (.cells cs 78 false 0 0) → KC s P l cs → KK s P l (.sl b 0 l.length none 7)
inductive KC (s : St) (P : Nat → Prop) : List Cond → List AV → Prop
  | nil : KC s P [] []
  | cons {c : Cond} {kv : AV} {l : List Cond} {cs : List AV} : KK s P c.kids kv → KC s P l cs → KC s P (c :: l) (cellsC c kv ++ cs)
end
mutual
theorem KK.mono {s s' : St} {P P' : Nat → Prop} (h : ∀ j c, P j → s.get j = some c → P' j ∧ s'.get j = some c) : ∀ {l : List Cond} {kv : AV}, KK s P l kv → KK s' P' l kv
  | _, _, .nil => .nil
  | _, _, .row h1 h2 h3 h4 => .row h1 (h _ _ h2 h3).1 (h _ _ h2 h3).2 (KC.mono h h4)
theorem KC.mono {s s' : St} {P P' : Nat → Prop} (h : ∀ j c, P j → s.get j = some c → P' j ∧ s'.get j = some c) : ∀ {l : List Cond} {cs : List AV}, KC s P l cs → KC s' P' l cs
  | _, _, .nil => .nil
  | _, _, .cons h1 h2 => .cons (KK.mono h h1) (KC.mono h h2)
end
theorem KK.noAgg {s : St} {P : Nat → Prop} {l : List Cond} {kv : AV} (h : KK s P l kv) : Go.Am.noAgg kv = true := by cases h <;> rfl
theorem KK.cells {s : St} {P : Nat → Prop} {l : List Cond} {kv : AV} (h : KK s P l kv) : kv.cells = [kv] := by cases h <;> rfl
theorem KC.app {s : St} {P : Nat → Prop} : ∀ {l : List Cond} {cs : List AV} {c : Cond} {kv : AV}, KC s P l cs → KK s P c.kids kv → KC s P (l ++ [c]) (cs ++ cellsC c kv)
  | _, _, c, kv, .nil, h => by
    have := KC.cons h (KC.nil (s := s) (P := P))
    rw [List.append_nil] at this; exact this
  | _, _, c, kv, .cons h1 h2, h => by
    rw [List.append_assoc]; exact KC.cons h1 (KC.app h2 h)
/-- what the reading of a condition hands back -/
structure CR (S0 : St) (R B : Nat) (x : Cond × Rd) (v : AV) (s' : St) : Prop where
  ex : ∃ kv, v = .agg (cellsC x.1 kv) ∧ KK s' (fun j => S0.next ≤ j) x.1.kids kv
  inp : InP s' R B x.2
  frm : Frm R S0 s'

/-! ### The numbers -/
def pnr (us : Nat → Bool) : Nat → Nat → Rd → (Nat → Int) → (Nat → Int) × Rd
  | 0, _, r, v => (v, r)
  | n + 1, j, r, v => pnr us n (j + 1) (pnumIf (us j) r).2 (fun i => if i = j then (pnumIf (us j) r).1 else v i)
def cells6 (k : Str) (v : Nat → Int) : List AV := [.str k, .int .i64 (v 0), .int .i64 (v 1), .int .i64 (v 2), .int .i64 (v 3), .str [], .nils]
def cells8 (c6 : Nat) (us : Nat → Bool) : List AV := [.bool (us 0), .ptr c6 1, .bool (us 1), .ptr c6 2, .bool (us 2), .ptr c6 3, .bool (us 3), .ptr c6 4]
theorem four {P : Nat → Prop} (h0 : P 0) (h1 : P 1) (h2 : P 2) (h3 : P 3) : ∀ j, j < 4 → P j
  | 0, _ => h0
  | 1, _ => h1
  | 2, _ => h2
  | 3, _ => h3
  | n + 4, h => by omega
theorem ld8 (c6 : Nat) (us : Nat → Bool) : ∀ j, j < 4 → grab 2 (j * 2) (cells8 c6 us) = some [.bool (us j), .ptr c6 (j + 1)] :=
  four (by simp [cells8, grab]) (by simp [cells8, grab]) (by simp [cells8, grab]) (by simp [cells8, grab])
theorem lay6 (k : Str) (v : Nat → Int) (n : Int) : ∀ j, j < 4 → lay (j + 1) [.int .i64 n] (cells6 k v) = some (cells6 k (fun i => if i = j then n else v i)) :=
  four (by simp [cells6, lay]) (by simp [cells6, lay]) (by simp [cells6, lay]) (by simp [cells6, lay])
theorem ix8 (b8 j : Nat) (h : j < 4) : ixRA 2 (.sl b8 0 4 (some 4) 2) (.int .i64 (j : Int)) = some (.ptr b8 (j * 2)) := by
  have : (j : Int) < 4 := by omega
  simp [ixRA, this]
/-- what stands while they are read -/
structure Nf (S0 : St) (R B c6 b8 : Nat) (k : Str) (us : Nat → Bool) (j : Nat) (v : Nat → Int) (r : Rd) (e : Env) (s : St) : Prop where
  inp : InP s R B r
  frm : Frm R S0 s
  gd : Gd r
  lt : S0.next ≤ c6 ∧ S0.next ≤ b8 ∧ b8 ≠ c6 ∧ R < S0.next ∧ B < S0.next
  hc6 : s.get c6 = some (.cells (cells6 k v) 78 false 0 0)
  hb8 : s.get b8 = some (.cells (cells8 c6 us) 245 false 0 0)
  e0 : Env.get e 0 = .ptr R 0
  e48 : Env.get e 48 = .sl b8 0 4 (some 4) 2
  e49 : Env.get e 49 = .int .i64 4
  e50 : Env.get e 50 = .int .i64 (j : Int)
def Kp (e e0 : Env) : Prop := Env.get e 2 = Env.get e0 2 ∧ Env.get e 3 = Env.get e0 3 ∧ Env.get e 5 = Env.get e0 5 ∧ Env.get e 6 = Env.get e0 6
theorem st_lt {s : St} (fr : Fr s) {b : Nat} {c : Blk} (h : s.get b = some c) : b < s.next := by
  rcases Nat.lt_or_ge b s.next with h5 | h5
  · exact h5
  · rw [fr b h5] at h; cases h
theorem l1109a {β : Type} {fin : Fl → β} {ks : List K} {Post : β → Prop} {S0 : St} {R B c6 b8 : Nat} {k : Str} {us : Nat → Bool} {r0 : Rd} {e0 : Env} {s0 : St}
    (h : Nf S0 R B c6 b8 k us 0 (fun _ => 0) r0 e0 s0)
    (hk : ∀ e' s', Nf S0 R B c6 b8 k us 4 (pnr us 4 0 r0 (fun _ => 0)).1 (pnr us 4 0 r0 (fun _ => 0)).2 e' s' → Kp e' e0 →
      (∀ x c, s0.get x = some c → x ≠ R → x ≠ c6 → s'.get x = some c) → Post (goN U fin ks e' s')) :
    Post (goL U fin (.bk 0 :: ks) r1109_l0 e0 s0) := by
  refine loop_ex (σ := Nat × (Nat → Int) × Rd) (fun x => 4 - x.1) (fun x e s => x.1 ≤ 4 ∧ Nf S0 R B c6 b8 k us x.1 x.2.1 x.2.2 e s ∧ Kp e e0 ∧ (∀ x c, s0.get x = some c → x ≠ R → x ≠ c6 → s.get x = some c) ∧ (∀ i, x.1 ≤ i → x.2.1 i = 0) ∧ pnr us (4 - x.1) x.1 x.2.2 x.2.1 = pnr us 4 0 r0 (fun _ => 0)) (0, (fun _ => 0), r0) ?_
    ⟨Nat.zero_le _, h, ⟨rfl, rfl, rfl, rfl⟩, fun _ _ h _ _ => h, fun _ _ => rfl, rfl⟩
  rintro L ⟨j, v, r⟩ e s ⟨hj, ⟨inp, frm, gd, ⟨lt1, lt2, lt3, lt4, lt5⟩, hc6, hb8, q0, q48, q49, q50⟩, ⟨k2, k3, k5, k6⟩, hs, hz, hX⟩ ih
  simp only at hj inp gd hc6 q50 hz hX
  rcases Nat.lt_or_ge j 4 with hj4 | hj4
  · have hd : decide ((j : Int) < 4) = true := decide_eq_true (by omega)
    have hx := ix8 b8 j hj4
    have hg := ld8 c6 us j hj4
    have w1 : IntKind.i64.wrap ((j : Int) + 1) = ((j + 1 : Nat) : Int) := by rw [wrap_i64 (by omega) (by omega)]; rfl
    obtain ⟨vl, hR⟩ := inp.bad
    have lR : R < s.next := inp.lr
    have l6 := st_lt frm.fr hc6
    have l8 := st_lt frm.fr hb8
    have n1 : s.next ≠ R := by omega
    have n2 : s.next ≠ c6 := by omega
    have gn : ∀ x, x < s.next → ((s.new (.cells [.bool false, .nilp] 245 false 0 0)).put s.next (.cells [.bool (us j), .ptr c6 (j + 1)] 245 false 0 0)).get x = s.get x := fun x hx => by rw [get_put, if_neg (by omega), get_new, if_neg (by omega)]
    have frm1 : Frm R S0 ((s.new (.cells [.bool false, .nilp] 245 false 0 0)).put s.next (.cells [.bool (us j), .ptr c6 (j + 1)] 245 false 0 0)) := (frm.new _).put _ (.inr frm.next) (by rw [next_new]; omega)
    have inp1 : InP ((s.new (.cells [.bool false, .nilp] 245 false 0 0)).put s.next (.cells [.bool (us j), .ptr c6 (j + 1)] 245 false 0 0)) R B r := inp.mono (by rw [next_put, next_new]; omega) (gn R lR) (gn B inp.lb)
    obtain ⟨n, hn⟩ : ∃ n, 4 - j = n + 1 := ⟨3 - j, by omega⟩
    rw [hn, pnr] at hX
    have hn2 : n = 4 - (j + 1) := by omega
    rw [hn2] at hX
    cases hu : us j with
    | false =>
      have hp : pnumIf (us j) r = (0, r) := by unfold pnumIf; rw [hu, Bool.false_and, br_false]
      rw [hp] at hX
      have hv : (fun i => if i = j then (0 : Int) else v i) = v := by
        funext i
        by_cases hi : i = j
        · subst hi; rw [if_pos rfl, hz i (Nat.le_refl _)]
        · rw [if_neg hi]
      simp only [hv] at hX
      rw [hu] at hg gn frm1 inp1
      simp +contextual only [go_sem, ↓reduceIte, r1109_l0, q0, q48, q49, q50, hd, hx, hb8, hg, w1, gateV_false, gateR_false, gateC_false, br_true, br_false]
      refine ih (j + 1, v, r) _ _ (by simp only; omega) ⟨by simp only; omega, ⟨inp1, frm1, gd, ⟨lt1, lt2, lt3, lt4, lt5⟩, (gn c6 l6).trans hc6, (gn b8 l8).trans hb8, ?_, ?_, ?_, ?_⟩, ⟨?_, ?_, ?_, ?_⟩, fun x c h1 h2 h3 => ?_, fun i hi => hz i (by simp only at hi; omega), hX⟩
      rotate_right
      · have := hs x c h1 h2 h3
        rw [gn x (st_lt frm.fr this)]; exact this
      all_goals simp +contextual only [go_sem, ↓reduceIte, q0, q48, q49, k2, k3, k5, k6]
    | true =>
      rw [hu] at hg gn frm1 inp1
      cases hb : decide (r.bad < 0) with
      | false =>
        have hp : pnumIf (us j) r = (0, r) := by unfold pnumIf; rw [hb, Bool.and_false, br_false]
        rw [hp] at hX
        have hv : (fun i => if i = j then (0 : Int) else v i) = v := by
          funext i
          by_cases hi : i = j
          · subst hi; rw [if_pos rfl, hz i (Nat.le_refl _)]
          · rw [if_neg hi]
        simp only [hv] at hX
        simp +contextual only [go_sem, ↓reduceIte, r1109_l0, q0, q48, q49, q50, hd, hx, hb8, hg, w1, n1, hR, hb, gateV_true, gateR_true, gateC_true, br_true, br_false]
        refine ih (j + 1, v, r) _ _ (by simp only; omega) ⟨by simp only; omega, ⟨inp1, frm1, gd, ⟨lt1, lt2, lt3, lt4, lt5⟩, (gn c6 l6).trans hc6, (gn b8 l8).trans hb8, ?_, ?_, ?_, ?_⟩, ⟨?_, ?_, ?_, ?_⟩, fun x c h1 h2 h3 => ?_, fun i hi => hz i (by simp only at hi; omega), hX⟩
        rotate_right
        · have := hs x c h1 h2 h3
          rw [gn x (st_lt frm.fr this)]; exact this
        all_goals simp +contextual only [go_sem, ↓reduceIte, q0, q48, q49, k2, k3, k5, k6]
      | true =>
        have hp : pnumIf (us j) r = pnum r := by unfold pnumIf; rw [hu, hb]; rfl
        rw [hp] at hX
        have inp2 : InP (((s.new (.cells [.bool false, .nilp] 245 false 0 0)).put s.next (.cells [.bool true, .ptr c6 (j + 1)] 245 false 0 0)).upto (s.next + 1 + 6)) R B r := inp1.mono (by rw [upto_next, next_put, next_new]; omega) (upto_get _ _ _) (upto_get _ _ _)
        obtain ⟨s3, p1, p2, p3⟩ := c1107 inp2 (frm1.fr.upto (by rw [next_put, next_new]; omega)) gd.pk
        have hcs : ∀ x, x < s.next → x ≠ R → s3.get x = s.get x := fun x hx hne => by rw [p3.get x (by rw [upto_next]; omega) hne, upto_get, gn x hx]
        have h83 : s3.get s.next = some (.cells [.bool true, .ptr c6 (j + 1)] 245 false 0 0) := by rw [p3.get s.next (by rw [upto_next]; omega) n1, upto_get, get_put, if_pos rfl]
        have hc3 := (hcs c6 l6 (by omega)).trans hc6
        have hly := lay6 k v (pnum r).1 j hj4
        have hfk := frm1.fr.at
        simp (config := { maxSteps := 2000000 }) +contextual only [go_sem, ↓reduceIte, r1109_l0, q0, q48, q49, q50, hd, hx, hb8, hg, w1, n1, hR, hb, gateV_true, gateR_true, gateC_true, br_true, br_false, go_drcU d1109_0, ck, p1, h83, hc3, hly]
        have l3 : c6 < s3.next := by have := p3.next; rw [upto_next] at this; omega
        have frm4 : Frm R S0 (s3.put c6 (.cells (cells6 k fun i => if i = j then (pnum r).1 else v i) 78 false 0 0)) := ((frm1.upto (by rw [next_put, next_new]; omega)).trans p3).put _ (.inr lt1) l3
        refine ih (j + 1, (fun i => if i = j then (pnum r).1 else v i), (pnum r).2) _ _ (by simp only; omega) ⟨by simp only; omega, ⟨p2.mono (by rw [next_put]; omega) ?_ ?_, frm4, gd.sf (sf_num r), ⟨lt1, lt2, lt3, lt4, lt5⟩, ?_, ?_, ?_, ?_, ?_, ?_⟩, ⟨?_, ?_, ?_, ?_⟩, fun x c h1 h2 h3 => ?_, fun i hi => ?_, hX⟩
        · rw [get_put, if_neg (by omega)]
        · rw [get_put, if_neg (by omega)]
        · rw [get_put, if_pos rfl]
        · rw [get_put, if_neg (by omega), hcs b8 l8 (by omega)]; exact hb8
        rotate_right
        · have hi : j + 1 ≤ i := hi
          show (if i = j then (pnum r).1 else v i) = 0
          rw [if_neg (by omega)]
          exact hz i (by omega)
        rotate_right
        · have := hs x c h1 h2 h3
          rw [get_put, if_neg (by omega), hcs x (st_lt frm.fr this) h2]; exact this
        all_goals simp +contextual only [go_sem, ↓reduceIte, q0, q48, q49, k2, k3, k5, k6]
  · have hj : j = 4 := by omega
    subst hj
    have hX : (v, r) = pnr us 4 0 r0 (fun _ => 0) := hX
    have hd : decide (((4 : Nat) : Int) < 4) = false := rfl
    rw [← hX] at hk
    simp +contextual only [go_sem, ↓reduceIte, r1109_l0, q0, q48, q49, q50, hd]
    refine hk _ _ ⟨inp, frm, gd, ⟨lt1, lt2, lt3, lt4, lt5⟩, hc6, hb8, ?_, ?_, ?_, ?_⟩ ⟨?_, ?_, ?_, ?_⟩ hs
    all_goals simp +contextual only [go_sem, ↓reduceIte, q0, q48, q49, q50, k2, k3, k5, k6]
end Go.Am
set_option linter.all false
namespace Go.Am
open Go
variable [MaxLen]
set_option maxRecDepth 100000
set_option maxHeartbeats 8000000
/-! # One kid more, in the reference -/

/-! # The kids of a condition -/

theorem raw_go {β : Type} {fin : Fl → β} {ks : List K} {c : Code} {e e' : Env} {s s' : St} (h : execL U c e s = some (.norm, e', s')) : go U fin ks (.raw c) e s = goN U fin ks e' s' := by
  show pop U fin ks (execL U c e s) = _
  rw [h]; rfl
theorem raw_step {β : Type} {fin : Fl → β} {ks : List K} {Post : β → Prop} {c : Code} {e : Env} {s : St} {Q : Env → St → Prop} (h : ∃ e' s', execL U c e s = some (.norm, e', s') ∧ Q e' s') (hk : ∀ e' s', Q e' s' → Post (goN U fin ks e' s')) : Post (go U fin ks (.raw c) e s) := by
  obtain ⟨e', s', h1, h2⟩ := h
  rw [raw_go h1]; exact hk e' s' h2
def RdOk (n : Nat) : Prop := ∀ (s : St) (R B : Nat) (r : Rd), InP s R B r → Fr s → Gd r → 2 * r.l.length + 1 ≤ n → r.l.length ≤ 2 ^ 19 → ∃ v s', cal U 109 [.ptr R 0] s = some (v, s') ∧ CR s R B (pcond n r) v s'
def KP (lo n : Nat) (kv : AV) (j : Nat) : Prop := lo ≤ j ∧ kv ≠ .sl j 0 n none 7
/-- what stands while the kids are read -/
structure Kf (S0 : St) (R B c6 lo : Nat) (s0 : St) (e0 : Env) (w : List AV) (L : List Cond) (cs : List AV) (kv : AV) (r : Rd) (e : Env) (s : St) : Prop where
  inp : InP s R B r
  frm : Frm R S0 s
  gd : Gd r
  lt : S0.next ≤ c6 ∧ c6 < lo ∧ lo ≤ s.next ∧ R < S0.next ∧ B < S0.next
  hc6 : s.get c6 = some (.cells (w ++ [kv]) 78 false 0 0)
  row : RowI s lo 78 7 L.length cs kv
  kc : KC s (KP lo L.length kv) L cs
  q0 : Env.get e 0 = .ptr R 0
  q5 : Env.get e 5 = .fn (.func 159) [.ptr R 0] []
  q6 : Env.get e 6 = .ptr c6 0
  q2 : Env.get e 2 = Env.get e0 2
  hs : ∀ x c, s0.get x = some c → x ≠ R → x ≠ c6 → x < lo → s.get x = some c
theorem l1109b {β : Type} {fin : Fl → β} {ks : List K} {Post : β → Prop} {S0 : St} {R B c6 lo m : Nat} {k : Str} {a b mi ma : Int} {p : Str} {r0 : Rd} {e0 : Env} {s0 : St} {X : List Cond × Rd}
    (IH : ∀ n, n < m → RdOk n) (hm : 2 * r0.l.length + 2 ≤ m) (hN : r0.l.length ≤ 2 ^ 19)
    (h : Kf S0 R B c6 lo s0 e0 [.str k, .int .i64 a, .int .i64 b, .int .i64 mi, .int .i64 ma, .str p] [] [] .nils r0 e0 s0) (hX : pkids m (k == sNot) r0 = X)
    (hk : ∀ e s cs kv, Kf S0 R B c6 lo s0 e0 [.str k, .int .i64 a, .int .i64 b, .int .i64 mi, .int .i64 ma, .str p] X.1 cs kv X.2 e s → Post (goN U fin ks e s)) :
    Post (goL U fin (.bk 2 :: ks) r1109_l1 e0 s0) := by
  refine loop_ex (σ := Nat × List Cond × List AV × AV × Rd) (fun x => x.1) (fun x e s => Kf S0 R B c6 lo s0 e0 [.str k, .int .i64 a, .int .i64 b, .int .i64 mi, .int .i64 ma, .str p] x.2.1 x.2.2.1 x.2.2.2.1 x.2.2.2.2 e s ∧ x.1 ≤ m ∧ 2 * x.2.2.2.2.l.length + 2 ≤ x.1 ∧ x.2.1.length + x.2.2.2.2.l.length ≤ 2 ^ 19 ∧
    (x.2.1 ++ (pkids x.1 (k == sNot) x.2.2.2.2).1, (pkids x.1 (k == sNot) x.2.2.2.2).2) = X) (m, [], [], .nils, r0) ?_ ⟨h, Nat.le_refl _, hm, by simp only [List.length_nil]; omega, hX⟩
  rintro L ⟨m1, Ls, cs, kv, r⟩ e s ⟨⟨inp, frm, gd, ⟨lt1, lt2, lt3, lt4, lt5⟩, hc6, row, kc, q0, q5, q6, q2, hs⟩, hmm, hm1, hN1, hX⟩ ih
  simp only at inp gd hc6 row kc hmm hm1 hN1 hX
  obtain ⟨vl, hR⟩ := inp.bad
  obtain ⟨m1, rfl⟩ : ∃ q, m1 = q + 1 := ⟨m1 - 1, by omega⟩
  cases hb : decide (r.bad < 0) with
  | false =>
    have hp := pkids_bad (m1 + 1) (nt := k == sNot) (r := r) (by simpa using hb)
    rw [hp, List.append_nil] at hX
    simp only at hX
    simp +contextual only [go_sem, ↓reduceIte, r1109_l1, q0, hR, hb]
    rw [← hX] at hk
    refine hk _ _ cs kv ⟨inp, frm, gd, ⟨lt1, lt2, lt3, lt4, lt5⟩, hc6, row, kc, ?_, ?_, ?_, ?_, hs⟩
    all_goals simp +contextual only [go_sem, ↓reduceIte, q0, q2, q5, q6]
  | true =>
    have hge : decide (r.bad ≥ 0) = false := by
      have : r.bad < 0 := by simpa using hb
      rw [decide_eq_false_iff_not]; omega
    rw [pkids, hge, br_false] at hX
    have inp1 : InP (s.upto (s.next + 11)) R B r := inp.mono (by rw [upto_next]; omega) (upto_get _ _ _) (upto_get _ _ _)
    obtain ⟨v1, s1, p1, ⟨kv1, rfl, p3⟩, p4, p5⟩ := IH m1 (by omega) (s.upto (s.next + 11)) R B r inp1 (frm.fr.upto (by omega)) gd (by omega) (by omega)
    simp +contextual only [go_sem, ↓reduceIte, r1109_l1, q0, hR, hb]
    have hkc : kv ≠ .sl c6 0 Ls.length none 7 := row.far (.inr lt2)
    have hkR : kv ≠ .sl R 0 Ls.length none 7 := row.far (.inr (by omega))
    have hkB : kv ≠ .sl B 0 Ls.length none 7 := row.far (.inr (by omega))
    have l6 := st_lt frm.fr hc6
    have lR : R < s.next := inp.lr
    have fr1 := p5.fr
    have hcv : (cellsC (pcond m1 r).1 kv1).all noAgg = true := by simp only [cellsC, List.all_cons, List.all_nil, p3.noAgg]; rfl
    refine raw_step (reg20 (cs := cs) (n := Ls.length) (B := lo) ?_ ?_ hc6 row hkc hkR (by omega) lR lt2 lt3 (by omega) p1 rfl hcv frm.fr p5) ?_
    · simp +contextual only [go_sem, ↓reduceIte, q0]
    · simp +contextual only [go_sem, ↓reduceIte, q6]
    rintro e2 s2 ⟨ke, ⟨kv2, hc62, row2, hnew⟩, fr2, hn2, hfr, hfe⟩
    have ke0 : Env.get e2 0 = .ptr R 0 := by rw [ke 0 (by decide)]; simp +contextual only [go_sem, ↓reduceIte, q0]
    have ke5 : Env.get e2 5 = .fn (.func 159) [.ptr R 0] [] := by rw [ke 5 (by decide)]; simp +contextual only [go_sem, ↓reduceIte, q5]
    have ke6 : Env.get e2 6 = .ptr c6 0 := by rw [ke 6 (by decide)]; simp +contextual only [go_sem, ↓reduceIte, q6]
    have ke2 : Env.get e2 2 = Env.get e0 2 := by rw [ke 2 (by decide)]; simp +contextual only [go_sem, ↓reduceIte, q2]
    have n1 : s.next + 11 ≤ s1.next := p5.next
    -- what stood before the call stands
    have old : ∀ j c, s.get j = some c → j ≠ R → j ≠ c6 → kv ≠ .sl j 0 Ls.length none 7 → s2.get j = some c := fun j c h1 h2 h3 h4 => by
      have hj := st_lt frm.fr h1
      refine hfr j c ?_ h3 h4
      rw [p5.get j (by rw [upto_next]; omega) h2, upto_get]; exact h1
    have inp2 : InP s2 R B (pcond m1 r).2 := by
      obtain ⟨⟨pre, i1, i2⟩, i3, i4, i5, i6, i7⟩ := p4
      exact ⟨⟨pre, hfr R _ i1 (by omega) hkR, hfr B _ i2 (by omega) hkB⟩, i3, i4, by omega, by omega, i7⟩
    have frm2 : Frm R S0 s2 := by
      refine ⟨by have := frm.next; omega, fun j h1 h2 => ?_, fr2⟩
      have hj := frm.next
      rw [← frm.get j h1 h2]
      rw [hfe j (by omega) (by omega) (row.far (.inr (by omega))), p5.get j (by rw [upto_next]; omega) h2, upto_get]
    have sf1 := (sf_cond m1).1 r
    have gd2 := gd.sf sf1
    have len1 := sf1.len
    have row3 : RowI s2 lo 78 7 (Ls ++ [(pcond m1 r).1]).length (cs ++ cellsC (pcond m1 r).1 kv1) kv2 := by rw [List.length_append]; exact row2
    have kc3 : KC s2 (KP lo (Ls ++ [(pcond m1 r).1]).length kv2) (Ls ++ [(pcond m1 r).1]) (cs ++ cellsC (pcond m1 r).1 kv1) := by
      rw [List.length_append]
      refine KC.app (kc.mono fun j c h1 h2 => ?_) (p3.mono fun j c h1 h2 => ?_)
      · have h3 : s2.get j = some c := old j c h2 (by have := h1.1; omega) (by have := h1.1; omega) h1.2
        refine ⟨⟨h1.1, fun h4 => ?_⟩, h3⟩
        have := hnew j h4
        have hj := st_lt frm.fr h2
        rw [p5.get j (by rw [upto_next]; omega) (by have := h1.1; omega), upto_get, h2] at this
        cases this
      · have h1 : s.next + 11 ≤ j := h1
        refine ⟨⟨by omega, fun h4 => ?_⟩, hfr j c h2 (by omega) (row.far (.inl (by omega)))⟩
        have := hnew j h4
        rw [h2] at this; cases this
    have hs2 : ∀ x c, s0.get x = some c → x ≠ R → x ≠ c6 → x < lo → s2.get x = some c := fun x c h1 h2 h3 h4 => old x c (hs x c h1 h2 h3 h4) h2 h3 (row.far (.inr h4))
    have g0 := c1108 inp2
    have hn : ((pcond m1 r).2.pk != [44]) = !((pcond m1 r).2.pk == [44]) := rfl
    have hX : (Ls ++ (br (k == sNot || (pcond m1 r).2.pk != [44]) ([(pcond m1 r).1], (pcond m1 r).2) ((pcond m1 r).1 :: (pkids m1 (k == sNot) (pcond m1 r).2.nx).1, (pkids m1 (k == sNot) (pcond m1 r).2.nx).2)).1, (br (k == sNot || (pcond m1 r).2.pk != [44]) ([(pcond m1 r).1], (pcond m1 r).2) ((pcond m1 r).1 :: (pkids m1 (k == sNot) (pcond m1 r).2.nx).1, (pkids m1 (k == sNot) (pcond m1 r).2.nx).2)).2) = X := hX
    rw [hn] at hX
    have fin2 : (k == sNot || !((pcond m1 r).2.pk == [44])) = true → ∀ e', Env.get e' 0 = .ptr R 0 → Env.get e' 5 = .fn (.func 159) [.ptr R 0] [] → Env.get e' 6 = .ptr c6 0 → Env.get e' 2 = Env.get e0 2 → Post (goN U fin ks e' s2) := fun hq e' u0 u5 u6 u2 => by
      rw [hq, br_true] at hX
      rw [← hX] at hk
      exact hk e' s2 _ kv2 ⟨inp2, frm2, gd2, ⟨lt1, lt2, by omega, lt4, lt5⟩, hc62, row3, kc3, u0, u5, u6, u2, hs2⟩
    have hkn : (k == [110, 111, 116]) = (k == sNot) := rfl
    cases hnt : k == sNot with
    | true =>
      simp +contextual only [go_sem, ↓reduceIte, ke0, ke6, hc62, hkn, hnt, gateV_false, gateR_false, gateC_false]
      refine fin2 (by rw [hnt]; rfl) _ ?_ ?_ ?_ ?_
      all_goals simp +contextual only [go_sem, ↓reduceIte, ke0, ke2, ke5, ke6]
    | false =>
      cases hcm : (pcond m1 r).2.pk == [44] with
      | false =>
        simp +contextual only [go_sem, ↓reduceIte, ke0, ke6, hc62, hkn, hnt, ck, g0, hcm, gateV_true, gateR_true, gateC_true]
        refine fin2 (by rw [hnt, hcm]; rfl) _ ?_ ?_ ?_ ?_
        all_goals simp +contextual only [go_sem, ↓reduceIte, ke0, ke2, ke5, ke6]
      | true =>
        obtain ⟨s3, t1, t2, t3⟩ := c1159 inp2 fr2
        have sf2 := sf_nx (pcond m1 r).2
        have hpk : (pcond m1 r).2.pk ≠ [] := by rw [eq_of_beq hcm]; simp
        have len2 := gd2.nx_len hpk
        rw [hnt, hcm] at hX
        simp only [Bool.not_true, Bool.or_false, br_false] at hX
        simp +contextual only [go_sem, ↓reduceIte, ke0, ke5, ke6, hc62, hkn, hnt, ck, g0, hcm, t1, calv_fn, gateV_true, gateR_true, gateC_true]
        have o3 : ∀ j c, s2.get j = some c → j ≠ R → s3.get j = some c := fun j c h1 h2 => by rw [t3.get j (st_lt fr2 h1) h2]; exact h1
        refine ih (m1, Ls ++ [(pcond m1 r).1], cs ++ cellsC (pcond m1 r).1 kv1, kv2, (pcond m1 r).2.nx) _ _ (by simp only; omega) ⟨⟨t2, frm2.trans ⟨t3.next, t3.get, t3.fr⟩, gd2.sf sf2, ⟨lt1, lt2, by have := t3.next; omega, lt4, lt5⟩, o3 c6 _ hc62 (by omega), ?_, ?_, ?_, ?_, ?_, ?_, ?_⟩, by simp only; omega, by simp only; omega, by simp only [List.length_append, List.length_singleton]; omega, ?_⟩
        rotate_right
        · simp only
          rw [List.append_assoc, hnt]; exact hX
        rotate_right
        · exact fun x c h1 h2 h3 h4 => o3 x c (hs2 x c h1 h2 h3 h4) h2
        · exact row3.mono (by have := t3.next; omega) fun j h1 h2 => t3.get j h2 (by omega)
        · exact kc3.mono fun j c h1 h2 => ⟨h1, o3 j c h2 (by have := h1.1; omega)⟩
        all_goals simp +contextual only [go_sem, ↓reduceIte, ke0, ke2, ke5, ke6]
/-! # The reference reads a condition -/

mutual
inductive JK (s : St) (P : Nat → Prop) : List Cond → AV → Prop
  | nil : JK s P [] .nils
  | row {l : List Cond} {cs : List AV} {b : Nat} : l ≠ [] → P b → s.get b = some (.cells cs 106 false 0 0) → JC s P l cs → JK s P l (.sl b 0 l.length none 7)
inductive JC (s : St) (P : Nat → Prop) : List Cond → List AV → Prop
  | nil : JC s P [] []
  | cons {c : Cond} {kv : AV} {l : List Cond} {cs : List AV} : JK s P c.kids kv → JC s P l cs → JC s P (c :: l) (cellsC c kv ++ cs)
end
mutual
theorem JK.mono {s s' : St} {P P' : Nat → Prop} (h : ∀ j c, P j → s.get j = some c → P' j ∧ s'.get j = some c) : ∀ {l : List Cond} {kv : AV}, JK s P l kv → JK s' P' l kv
  | _, _, .nil => .nil
  | _, _, .row h1 h2 h3 h4 => .row h1 (h _ _ h2 h3).1 (h _ _ h2 h3).2 (JC.mono h h4)
theorem JC.mono {s s' : St} {P P' : Nat → Prop} (h : ∀ j c, P j → s.get j = some c → P' j ∧ s'.get j = some c) : ∀ {l : List Cond} {cs : List AV}, JC s P l cs → JC s' P' l cs
  | _, _, .nil => .nil
  | _, _, .cons h1 h2 => .cons (JK.mono h h1) (JC.mono h h2)
end
theorem JK.noAgg {s : St} {P : Nat → Prop} {l : List Cond} {kv : AV} (h : JK s P l kv) : Go.Am.noAgg kv = true := by cases h <;> rfl
theorem JK.cells {s : St} {P : Nat → Prop} {l : List Cond} {kv : AV} (h : JK s P l kv) : kv.cells = [kv] := by cases h <;> rfl
theorem JC.app {s : St} {P : Nat → Prop} : ∀ {l : List Cond} {cs : List AV} {c : Cond} {kv : AV}, JC s P l cs → JK s P c.kids kv → JC s P (l ++ [c]) (cs ++ cellsC c kv)
  | _, _, c, kv, .nil, h => by
    have := JC.cons h (JC.nil (s := s) (P := P))
    rw [List.append_nil] at this; exact this
  | _, _, c, kv, .cons h1 h2, h => by
    rw [List.append_assoc]; exact JC.cons h1 (JC.app h2 h)
structure JR (S0 : St) (R en : Nat) (x : Cond × Rd) (v : AV) (s' : St) : Prop where
  ex : ∃ kv, v = .agg (cellsC x.1 kv) ∧ JK s' (fun j => S0.next ≤ j) x.1.kids kv
  inp : InR s' R en x.2
  frm : Frm R S0 s'
def Tx (r : Rd) : Prop := ∀ t ∈ r.l, t.txt.length ≤ 5000
theorem Tx.sf {r r' : Rd} (h : Tx r) (k : r'.l <:+ r.l) : Tx r' := fun t ht => h t (k.subset ht)
section
variable (en : Nat)
theorem sr_fail (r : Rd) : (rfail en r).l <:+ r.l := by
  unfold rfail
  cases decide (r.bad < 0) <;> exact List.suffix_refl _
theorem sr_tail (r : Rd) : (rtail r).l <:+ r.l := List.tail_suffix _
theorem sr_take (w : Str) (r : Rd) : (rtake en w r).l <:+ r.l := by
  unfold rtake
  cases ris w r
  · exact sr_fail en r
  · exact sr_tail r
theorem sr_num (r : Rd) : (rnum en r).2.l <:+ r.l := by
  unfold rnum
  cases decide (r.bad ≥ 0)
  · rw [br_false]
    split
    · exact sr_fail en r
    · split
      · exact sr_tail r
      · exact sr_fail en r
  · exact sr_fail en r
theorem sr_word (r : Rd) : (rword en r).2.l <:+ r.l := by
  unfold rword
  cases decide (r.bad ≥ 0)
  · rw [br_false]
    split
    · exact sr_fail en r
    · split
      · exact sr_fail en r
      · rename_i c l _
        cases !letter c
        · exact sr_tail r
        · exact sr_fail en r
  · exact sr_fail en r
theorem sr_numIf (u : Bool) (r : Rd) : (rnumIf en u r).2.l <:+ r.l := by
  unfold rnumIf
  cases u
  · exact List.suffix_refl _
  · exact sr_num en r
theorem sr_wordIf (u : Bool) (r : Rd) : (rwordIf en u r).2.l <:+ r.l := by
  unfold rwordIf
  cases u
  · exact List.suffix_refl _
  · exact sr_word en r
theorem sr_flds (k : Str) (u : Uses) (r : Rd) : (rflds en k u r).2.l <:+ r.l := (sr_wordIf en _ _).trans ((sr_numIf en _ _).trans ((sr_numIf en _ _).trans ((sr_numIf en _ _).trans (sr_numIf en _ _))))
theorem sr_cond : ∀ n : Nat, (∀ r, (rcond en n r).2.l <:+ r.l) ∧ (∀ nt r, (rkids en n nt r).2.l <:+ r.l)
  | 0 => ⟨fun r => by rw [rcond]; exact List.suffix_refl _, fun nt r => by rw [rkids]; exact List.suffix_refl _⟩
  | n + 1 => by
    obtain ⟨ih1, ih2⟩ := sr_cond n
    refine ⟨fun r => ?_, fun nt r => ?_⟩
    · rw [rcond]
      cases (kdOf (rkind r)).known
      · exact sr_fail en r
      simp only [Bool.not_true, br_false]
      cases (usesOf (kdOf (rkind r))).kids
      · exact (sr_flds en _ _ _).trans (sr_take en _ _)
      · exact (sr_take en _ _).trans ((ih2 _ _).trans ((sr_take en _ _).trans ((sr_flds en _ _ _).trans (sr_take en _ _))))
    · rw [rkids]
      cases !nt && ris [44] (rcond en n r).2
      · exact ih1 r
      · exact (ih2 _ _).trans ((sr_take en _ _).trans (ih1 r))
end

def KP6 (lo n : Nat) (kv : AV) (j : Nat) : Prop := lo ≤ j ∧ kv ≠ .sl j 0 n none 7
/-- what stands while the kids are read -/
structure Kr (S0 : St) (R en c3 lo : Nat) (s0 : St) (e0 : Env) (w : List AV) (L : List Cond) (cs : List AV) (kv : AV) (r : Rd) (e : Env) (s : St) : Prop where
  inp : InR s R en r
  frm : Frm R S0 s
  tx : Tx r
  lt : S0.next ≤ c3 ∧ c3 < lo ∧ lo ≤ s.next ∧ R < S0.next
  hc3 : s.get c3 = some (.cells (w ++ [kv]) 106 false 0 0)
  row : RowI s lo 106 7 L.length cs kv
  kc : JC s (KP6 lo L.length kv) L cs
  q0 : Env.get e 0 = .ptr R 0
  q3 : Env.get e 3 = .ptr c3 0
  q2 : Env.get e 2 = Env.get e0 2
  hs : ∀ x c, s0.get x = some c → x ≠ R → x ≠ c3 → x < lo → s.get x = some c
end Go.Am
set_option linter.all false
namespace Go.Am
open Go
variable [MaxLen]
set_option maxRecDepth 100000
set_option maxHeartbeats 8000000
/-! # The whole of a condition, in the reference -/

def cells6u (d : Kd) : List AV := [.bool (usesOf d).a, .bool (usesOf d).b, .bool (usesOf d).mi, .bool (usesOf d).ma, .bool (usesOf d).pat, .bool (usesOf d).kids]
structure Rf (S0 : St) (R en b2 c3 b4 : Nat) (d : Kd) (w : List AV) (r : Rd) (e : Env) (s : St) : Prop where
  inp : InR s R en r
  frm : Frm R S0 s
  tx : Tx r
  lt : S0.next ≤ b2 ∧ S0.next ≤ c3 ∧ S0.next ≤ b4 ∧ b2 ≠ c3 ∧ b4 ≠ c3 ∧ b2 ≠ b4 ∧ R < S0.next
  h2 : s.get b2 = some (.cells z7 106 false 0 0)
  h4 : s.get b4 = some (.cells (cells6u d) 186 false 0 0)
  h3 : s.get c3 = some (.cells w 106 false 0 0)
  q0 : Env.get e 0 = .ptr R 0
  q2 : Env.get e 2 = .ptr b2 0
  q3 : Env.get e 3 = .ptr c3 0
  q4 : Env.get e 4 = .ptr b4 0
def gK (en : Nat) (d : Kd) (m : Nat) (k : Str) (c : Cond) (r : Rd) : Cond × Rd := br (!(usesOf d).kids) (c, r) (withK c (rkids en m (k == sNot) (rtake en [40] r)).1, rtake en [41] (rkids en m (k == sNot) (rtake en [40] r)).2)
def gW (en : Nat) (d : Kd) (m : Nat) (k : Str) (a b mi ma : Int) (r : Rd) : Cond × Rd := gK en d m k (.mk k a b mi ma (rwordIf en (usesOf d).pat r).1 true []) (rwordIf en (usesOf d).pat r).2
def g3' (en : Nat) (d : Kd) (m : Nat) (k : Str) (a b mi : Int) (r : Rd) : Cond × Rd := gW en d m k a b mi (rnumIf en (usesOf d).ma r).1 (rnumIf en (usesOf d).ma r).2
def g2' (en : Nat) (d : Kd) (m : Nat) (k : Str) (a b : Int) (r : Rd) : Cond × Rd := g3' en d m k a b (rnumIf en (usesOf d).mi r).1 (rnumIf en (usesOf d).mi r).2
/-! # A condition is read -/

def cells9 (d : Kd) : List AV := [.bool (usesOf d).a, .bool (usesOf d).b, .bool (usesOf d).mi, .bool (usesOf d).ma, .bool (usesOf d).pat, .bool (usesOf d).kids, kSize d, kStart d, kStep d]
/-- what stands behind the numbers -/
structure Df (S0 : St) (R B b2 b3 c6 : Nat) (d : Kd) (w : List AV) (r : Rd) (e : Env) (s : St) : Prop where
  inp : InP s R B r
  frm : Frm R S0 s
  gd : Gd r
  lt : S0.next ≤ c6 ∧ S0.next ≤ b2 ∧ S0.next ≤ b3 ∧ b2 ≠ c6 ∧ b3 ≠ c6 ∧ b2 ≠ b3 ∧ R < S0.next ∧ B < S0.next
  h2 : s.get b2 = some (.cells z7 78 false 0 0)
  h3 : s.get b3 = some (.cells (cells9 d) 220 false 0 0)
  h6 : s.get c6 = some (.cells w 78 false 0 0)
  q0 : Env.get e 0 = .ptr R 0
  q2 : Env.get e 2 = .ptr b2 0
  q3 : Env.get e 3 = .ptr b3 0
  q5 : Env.get e 5 = .fn (.func 159) [.ptr R 0] []
  q6 : Env.get e 6 = .ptr c6 0
/-- the condition is handed back -/
theorem retCR {S0 : St} {R B b2 : Nat} {c : Cond} {r : Rd} {kv : AV} {s : St} {x : Blk} (inp : InP s R B r) (frm : Frm R S0 s) (lt : S0.next ≤ b2 ∧ R < S0.next ∧ B < S0.next) (h2 : s.get b2 = some x)
    (kk : KK s (fun j => S0.next ≤ j ∧ j ≠ b2) c.kids kv) : CR S0 R B (c, r) (.agg (cellsC c kv)) (s.put b2 (.cells (cellsC c kv) 78 false 0 0)) := by
  have l2 := st_lt frm.fr h2
  refine ⟨⟨kv, rfl, kk.mono fun j x h1 h3 => ⟨h1.1, ?_⟩⟩, inp.mono (by rw [next_put]; omega) ?_ ?_, frm.put _ (.inr lt.1) l2⟩
  · rw [get_put, if_neg (fun h => h1.2 h.symm)]; exact h3
  · rw [get_put, if_neg (by omega)]
  · rw [get_put, if_neg (by omega)]
theorem l1109f {ks : List K} {S0 : St} {R B b2 c6 lo : Nat} {k : Str} {a b mi ma : Int} {p : Str} {L : List Cond} {cs : List AV} {kv : AV} {r : Rd} {e e0 : Env} {s s0 : St} {X : Cond × Rd}
    (h : Kf S0 R B c6 lo s0 e0 [.str k, .int .i64 a, .int .i64 b, .int .i64 mi, .int .i64 ma, .str p] L cs kv r e s) (h2 : s0.get b2 = some (.cells z7 78 false 0 0)) (lt : S0.next ≤ b2 ∧ b2 ≠ c6 ∧ b2 < lo) (q2 : Env.get e0 2 = .ptr b2 0)
    (hX : (withK (Cond.mk k a b mi ma p true []) L, br (decide (r.bad < 0)) (ptake [41] r) r) = X) :
    okQ (fun v s' => CR S0 R B X v s') (go U (finB U [.cell 2 78]) ks r1109_f e s) := by
  obtain ⟨inp, frm, gd, ⟨l1, l2, l3, l4, l5⟩, hc6, row, kc, q0, q5, q6, q2', hs⟩ := h
  have h2' := hs b2 _ h2 (by omega) (by omega) (by omega)
  rw [q2] at q2'
  obtain ⟨vl, hR⟩ := inp.bad
  have kk : KK s (fun j => S0.next ≤ j ∧ j ≠ b2) L kv := by
    rcases row with ⟨h0, rfl, rfl⟩ | ⟨h0, h1, bb, h4, h5, rfl, h6⟩
    · have : L = [] := List.length_eq_zero_iff.1 h0
      subst this; exact .nil
    · exact .row (by rintro rfl; simp at h0) ⟨by omega, by omega⟩ h6 (kc.mono fun j c g1 g2 => ⟨⟨by have := g1.1; omega, by have := g1.1; omega⟩, g2⟩)
  have hna := kk.noAgg
  have hcl := kk.cells
  simp only [z7] at h2'
  rw [← hX]
  cases hb : decide (r.bad < 0) with
  | false =>
    simp +contextual only [go_sem, ↓reduceIte, r1109_f, q0, hR, hb, q6, q2', hc6, h2', hna, hcl, okQ_some, List.cons_append, List.nil_append]
    exact retCR (c := withK (Cond.mk k a b mi ma p true []) L) inp frm ⟨by omega, by omega, by omega⟩ h2' kk
  | true =>
    obtain ⟨v1, s1, p1, p2, p3⟩ := c1106 inp frm.fr [41]
    have o1 : ∀ j c, s.get j = some c → j ≠ R → s1.get j = some c := fun j c g1 g2 => by rw [p3.get j (st_lt frm.fr g1) g2]; exact g1
    have hc1 := o1 _ _ hc6 (by omega)
    have h21 := o1 _ _ h2' (by omega)
    simp +contextual only [go_sem, ↓reduceIte, r1109_f, q0, hR, hb, ck, p1, q6, q2', hc1, h21, hna, hcl, okQ_some, List.cons_append, List.nil_append]
    exact retCR (c := withK (Cond.mk k a b mi ma p true []) L) p2 (frm.trans p3) ⟨by omega, by omega, by omega⟩ h21 (kk.mono fun j c g1 g2 => ⟨g1, o1 j c g2 (by have := g1.1; omega)⟩)
/-- behind the word -/
theorem l1109e {ks : List K} {S0 : St} {R B b2 b3 c6 m : Nat} {d : Kd} {k : Str} {a b mi ma : Int} {p : Str} {r : Rd} {e : Env} {s : St} {X : Cond × Rd}
    (IH : ∀ n, n < m → RdOk n) (hm : 2 * r.l.length + 2 ≤ m) (hN : r.l.length ≤ 2 ^ 19)
    (h : Df S0 R B b2 b3 c6 d [.str k, .int .i64 a, .int .i64 b, .int .i64 mi, .int .i64 ma, .str p, .nils] r e s)
    (hX : (br (!(usesOf d).kids) (Cond.mk k a b mi ma p true [], r)
      (withK (Cond.mk k a b mi ma p true []) (pkids m (k == sNot) (ptake [40] r)).1,
        br (decide ((pkids m (k == sNot) (ptake [40] r)).2.bad < 0)) (ptake [41] (pkids m (k == sNot) (ptake [40] r)).2) (pkids m (k == sNot) (ptake [40] r)).2)) = X) :
    okQ (fun v s' => CR S0 R B X v s') (go U (finB U [.cell 2 78]) ks r1109_e e s) := by
  obtain ⟨inp, frm, gd, ⟨l1, l2, l3, l4, l5, l6, l7, l8⟩, h2, h3, h6, q0, q2, q3, q5, q6⟩ := h
  simp only [z7] at h2
  cases hk : (usesOf d).kids with
  | false =>
    rw [hk, Bool.not_false, br_true] at hX
    rw [← hX]
    simp +contextual only [go_sem, ↓reduceIte, r1109_e, q3, h3, cells9, hk, q2, q6, h2, h6, okQ_some]
    exact retCR (c := Cond.mk k a b mi ma p true []) inp frm ⟨l2, l7, l8⟩ h2 .nil
  | true =>
    rw [hk, Bool.not_true, br_false] at hX
    obtain ⟨v1, s1, p1, p2, p3⟩ := c1106 inp frm.fr [40]
    have o1 : ∀ j c, s.get j = some c → j ≠ R → s1.get j = some c := fun j c g1 g2 => by rw [p3.get j (st_lt frm.fr g1) g2]; exact g1
    have h61 := o1 _ _ h6 (by omega)
    have h21 := o1 _ _ h2 (by omega)
    have sf := sf_take [40] r
    have hsl := sf.len
    simp +contextual only [go_sem, ↓reduceIte, r1109_e, q3, h3, cells9, hk, q0, ck, p1]
    have l21 := st_lt p3.fr h21
    have l61 := st_lt p3.fr h61
    refine l1109b (Post := okQ _) (S0 := S0) (R := R) (B := B) (c6 := c6) (lo := s1.next) (k := k) (a := a) (b := b) (mi := mi) (ma := ma) (p := p) (X := pkids m (k == sNot) (ptake [40] r)) IH (by omega) (by omega)
      ⟨p2, frm.trans p3, gd.sf sf, ⟨l1, l61, Nat.le_refl _, l7, l8⟩, h61, RowI.nil _ _ _ _, .nil, ?_, ?_, ?_, rfl, fun x c g1 _ _ _ => g1⟩ rfl ?_
    · simp +contextual only [go_sem, ↓reduceIte, q0]
    · simp +contextual only [go_sem, ↓reduceIte, q5]
    · simp +contextual only [go_sem, ↓reduceIte, q6]
    · intro e2 s2 cs kv hk2
      rw [goN_sq]
      refine l1109f (b2 := b2) hk2 h21 ⟨l2, l4, l21⟩ ?_ hX
      simp +contextual only [go_sem, ↓reduceIte, q2]
theorem l1109d {ks : List K} {S0 : St} {R B b2 b3 c6 m : Nat} {d : Kd} {k : Str} {a b mi ma : Int} {r : Rd} {e : Env} {s : St} {X : Cond × Rd}
    (IH : ∀ n, n < m → RdOk n) (hm : 2 * r.l.length + 2 ≤ m) (hN : r.l.length ≤ 2 ^ 19)
    (h : Df S0 R B b2 b3 c6 d [.str k, .int .i64 a, .int .i64 b, .int .i64 mi, .int .i64 ma, .str [], .nils] r e s)
    (hX : (br (!(usesOf d).kids) (Cond.mk k a b mi ma (pwordIf (usesOf d).pat r).1 true [], (pwordIf (usesOf d).pat r).2)
      (withK (Cond.mk k a b mi ma (pwordIf (usesOf d).pat r).1 true []) (pkids m (k == sNot) (ptake [40] (pwordIf (usesOf d).pat r).2)).1,
        br (decide ((pkids m (k == sNot) (ptake [40] (pwordIf (usesOf d).pat r).2)).2.bad < 0)) (ptake [41] (pkids m (k == sNot) (ptake [40] (pwordIf (usesOf d).pat r).2)).2) (pkids m (k == sNot) (ptake [40] (pwordIf (usesOf d).pat r).2)).2)) = X) :
    okQ (fun v s' => CR S0 R B X v s') (go U (finB U [.cell 2 78]) ks r1109_d e s) := by
  obtain ⟨inp, frm, gd, ⟨l1, l2, l3, l4, l5, l6, l7, l8⟩, h2, h3, h6, q0, q2, q3, q5, q6⟩ := h
  have sf := sf_wordIf (usesOf d).pat r
  have hsl := sf.len
  cases hp : (usesOf d).pat with
  | false =>
    have hw : pwordIf false r = ([], r) := rfl
    rw [hp, hw] at hX
    simp +contextual only [go_sem, ↓reduceIte, r1109_d, q3, h3, cells9, hp]
    refine l1109e IH hm hN ⟨inp, frm, gd, ⟨l1, l2, l3, l4, l5, l6, l7, l8⟩, h2, h3, h6, ?_, ?_, ?_, ?_, ?_⟩ hX
    all_goals simp +contextual only [go_sem, ↓reduceIte, q0, q2, q3, q5, q6]
  | true =>
    have hw : pwordIf true r = pword r := rfl
    rw [hp, hw] at hX
    rw [hp, hw] at sf hsl
    obtain ⟨s1, p1, p2, p3⟩ := c1161 inp frm.fr
    have o1 : ∀ j c, s.get j = some c → j ≠ R → s1.get j = some c := fun j c g1 g2 => by rw [p3.get j (st_lt frm.fr g1) g2]; exact g1
    have h61 := o1 _ _ h6 (by omega)
    have l61 := st_lt p3.fr h61
    simp +contextual only [go_sem, ↓reduceIte, r1109_d, q0, q3, q6, h3, cells9, hp, ck, p1, h61]
    refine l1109e (p := (pword r).1) IH (by omega) (by omega) ⟨p2.mono (by rw [next_put]; omega) ?_ ?_, (frm.trans p3).put _ (.inr l1) l61, gd.sf sf, ⟨l1, l2, l3, l4, l5, l6, l7, l8⟩, ?_, ?_, ?_, ?_, ?_, ?_, ?_, ?_⟩ hX
    · rw [get_put, if_neg (by omega)]
    · rw [get_put, if_neg (by omega)]
    · rw [get_put, if_neg (by omega)]; exact o1 _ _ h2 (by omega)
    · rw [get_put, if_neg (by omega)]; exact o1 _ _ h3 (by omega)
    · rw [get_put, if_pos rfl]
    all_goals simp +contextual only [go_sem, ↓reduceIte, q0, q2, q3, q5, q6]
/-! # The whole of a condition -/

def usF (u : Uses) : Nat → Bool
  | 0 => u.a
  | 1 => u.b
  | 2 => u.mi
  | _ => u.ma
theorem l1109c {ks : List K} {S0 : St} {R B b2 b3 c6 m : Nat} {d : Kd} {k : Str} {r : Rd} {e : Env} {s : St} {X : Cond × Rd}
    (IH : ∀ n, n < m → RdOk n) (hm : 2 * r.l.length + 2 ≤ m) (hN : r.l.length ≤ 2 ^ 19)
    (h : Df S0 R B b2 b3 c6 d (cells6 k (fun _ => 0)) r e s)
    (hX : (br (!(usesOf d).kids) (pflds k (usesOf d) r)
      (withK (pflds k (usesOf d) r).1 (pkids m (k == sNot) (ptake [40] (pflds k (usesOf d) r).2)).1,
        br (decide ((pkids m (k == sNot) (ptake [40] (pflds k (usesOf d) r).2)).2.bad < 0)) (ptake [41] (pkids m (k == sNot) (ptake [40] (pflds k (usesOf d) r).2)).2) (pkids m (k == sNot) (ptake [40] (pflds k (usesOf d) r).2)).2)) = X) :
    okQ (fun v s' => CR S0 R B X v s') (go U (finB U [.cell 2 78]) ks r1109_c e s) := by
  obtain ⟨inp, frm, gd, ⟨l1, l2, l3, l4, l5, l6, l7, l8⟩, h2, h3, h6, q0, q2, q3, q5, q6⟩ := h
  have l61 := st_lt frm.fr h6
  have l21 := st_lt frm.fr h2
  have l31 := st_lt frm.fr h3
  have h3' := h3
  simp only [cells9] at h3'
  simp (config := { maxSteps := 2000000 }) +contextual only [go_sem, ↓reduceIte, r1109_c, q3, q6, h3']
  generalize hB8 : (Blk.cells [.bool (usesOf d).a, .ptr c6 1, .bool (usesOf d).b, .ptr c6 2, .bool (usesOf d).mi, .ptr c6 3, .bool (usesOf d).ma, .ptr c6 4] 245 false 0 0) = B8
  have gn : ∀ x, x < s.next → (s.new B8).get x = s.get x := fun x hx => by rw [get_new, if_neg (by omega)]
  have frm1 : Frm R S0 (s.new B8) := frm.new _
  refine l1109a (Post := okQ _) (S0 := S0) (R := R) (B := B) (c6 := c6) (b8 := s.next) (k := k) (us := usF (usesOf d)) (r0 := r) ⟨inp.mono (by rw [next_new]; omega) (gn R inp.lr) (gn B inp.lb), frm1, gd, ⟨l1, frm.next, by omega, l7, l8⟩, (gn c6 l61).trans h6, ?_, ?_, ?_, ?_, ?_⟩ ?_
  · rw [get_new, if_pos rfl, ← hB8]; rfl
  · simp +contextual only [go_sem, ↓reduceIte, q0]
  · simp +contextual only [go_sem, ↓reduceIte]
  · simp +contextual only [go_sem, ↓reduceIte]; rfl
  · simp +contextual only [go_sem, ↓reduceIte]; rfl
  rintro e2 s2 ⟨inp2, frm2, gd2, _, hc2, _, u0, _, _, _⟩ ⟨k2, k3, k5, k6⟩ hs2
  rw [goN_sq]
  have sfl : (pnr (usF (usesOf d)) 4 0 r (fun _ => 0)).2.l.length ≤ r.l.length := ((sf_numIf (usesOf d).a r).trans ((sf_numIf (usesOf d).b _).trans ((sf_numIf (usesOf d).mi _).trans (sf_numIf (usesOf d).ma _)))).len
  have g2 := hs2 b2 _ ((gn b2 l21).trans h2) (by omega) (by omega)
  have g3 := hs2 b3 _ ((gn b3 l31).trans h3) (by omega) (by omega)
  refine l1109d (b2 := b2) (b3 := b3) (c6 := c6) (d := d) (k := k) (a := (pnr (usF (usesOf d)) 4 0 r (fun _ => 0)).1 0) (b := (pnr (usF (usesOf d)) 4 0 r (fun _ => 0)).1 1) (mi := (pnr (usF (usesOf d)) 4 0 r (fun _ => 0)).1 2) (ma := (pnr (usF (usesOf d)) 4 0 r (fun _ => 0)).1 3) IH (by omega) (by omega)
    ⟨inp2, frm2, gd2, ⟨l1, l2, l3, l4, l5, l6, l7, l8⟩, g2, g3, hc2, u0, ?_, ?_, ?_, ?_⟩ ?_
  · rw [k2]; simp +contextual only [go_sem, ↓reduceIte, q2]
  · rw [k3]; simp +contextual only [go_sem, ↓reduceIte, q3]
  · rw [k5]; simp +contextual only [go_sem, ↓reduceIte, q5]
  · rw [k6]; simp +contextual only [go_sem, ↓reduceIte, q6]
  · exact hX
theorem na1 (d : Kd) : noAgg (kSize d) = true := by cases d <;> rfl
theorem na2 (d : Kd) : noAgg (kStart d) = true := by cases d <;> rfl
theorem na3 (d : Kd) : noAgg (kStep d) = true := by cases d <;> rfl
theorem c1109 (n : Nat) : RdOk n := by
  induction n using Nat.strongRecOn with
  | ind n IH =>
    intro s R B r inp fr gd hn hN
    obtain ⟨n, rfl⟩ : ∃ q, n = q + 1 := ⟨n - 1, by omega⟩
    have lR := inp.lr
    have lB := inp.lb
    refine kept_ex k1109 (by kernel_rfl) (Q := fun v s' => CR s R B (pcond (n + 1) r) v s') ?_
    have n1 : s.next ≠ R := by omega
    have n2 : s.next ≠ B := by omega
    have inp1 : InP (s.new (.cells z7 78 false 0 0)) R B r := inp.mono (by rw [next_new]; omega) (by rw [get_new, if_neg n1]) (by rw [get_new, if_neg n2])
    have g0 := c1108 inp1
    simp only [z7] at g0
    have hlk := lookup_kinds1 r.pk
    rw [pcond]
    have frm2 : Frm R s (((s.new (.cells z7 78 false 0 0)).new (.cells [.bool false, .bool false, .bool false, .bool false, .bool false, .bool false, .nilfn, .nilfn, .nilfn] 220 false 0 0)).put (s.next + 1) (.cells (cells9 (kdOf r.pk)) 220 false 0 0)) := (((Frm.refl fr).new _).new _).put _ (.inr (by omega)) (by rw [next_new, next_new]; omega)
    have n3 : s.next + 1 ≠ R := by omega
    have n4 : s.next + 1 ≠ B := by omega
    have inp2 : InP (((s.new (.cells z7 78 false 0 0)).new (.cells [.bool false, .bool false, .bool false, .bool false, .bool false, .bool false, .nilfn, .nilfn, .nilfn] 220 false 0 0)).put (s.next + 1) (.cells (cells9 (kdOf r.pk)) 220 false 0 0)) R B r :=
      inp.mono (by rw [next_put, next_new, next_new]; omega) (by simp only [get_put, get_new, next_new, n1, n3, if_false]) (by simp only [get_put, get_new, next_new, n2, n4, if_false])
    cases hk : (kdOf r.pk).known with
    | false =>
      rw [Bool.not_false, br_true]
      obtain ⟨v3, s3, p1, p2, p3⟩ := c1158 inp2 frm2.fr
      have g2 : s3.get s.next = some (.cells z7 78 false 0 0) := by
        rw [p3.get s.next (by rw [next_put, next_new, next_new]; omega) n1, get_put, if_neg (by omega), get_new, if_neg (by rw [next_new]; omega), get_new, if_pos rfl]
      obtain ⟨vl, hR⟩ := p2.bad
      have hbad : decide ((pfail r).bad ≥ 0) = true := by
        rw [decide_eq_true_eq]
        unfold pfail
        cases hb : decide (r.bad < 0)
        · rw [decide_eq_false_iff_not] at hb; rw [br_false]; omega
        · rw [br_true]
          show (0 : Int) ≤ r.at_
          unfold Rd.at_; split <;> omega
      have g2' := g2
      simp only [z7] at g2'
      simp only [z7, cells9] at p1
      simp (config := { maxSteps := 2000000 }) +contextual only [go_sem, ↓reduceIte, r1109, ck, c156, g0, hlk, hk, kindV, na1, na2, na3, p1, hR, hbad, g2', br_true, okQ_some]
      exact retCR (c := C0) p2 (frm2.trans p3) ⟨Nat.le_refl _, lR, lB⟩ g2 .nil
    | true =>
      rw [Bool.not_true, br_false]
      obtain ⟨vl, hR⟩ := inp.bad
      have g2 : (((s.new (.cells z7 78 false 0 0)).new (.cells [.bool false, .bool false, .bool false, .bool false, .bool false, .bool false, .nilfn, .nilfn, .nilfn] 220 false 0 0)).put (s.next + 1) (.cells (cells9 (kdOf r.pk)) 220 false 0 0)).get s.next = some (.cells z7 78 false 0 0) := by
        rw [get_put, if_neg (by omega), get_new, if_neg (by rw [next_new]; omega), get_new, if_pos rfl]
      have g3 : (((s.new (.cells z7 78 false 0 0)).new (.cells [.bool false, .bool false, .bool false, .bool false, .bool false, .bool false, .nilfn, .nilfn, .nilfn] 220 false 0 0)).put (s.next + 1) (.cells (cells9 (kdOf r.pk)) 220 false 0 0)).get (s.next + 1) = some (.cells (cells9 (kdOf r.pk)) 220 false 0 0) := by
        rw [get_put, if_pos rfl]
      cases hb : decide (r.bad ≥ 0) with
      | true =>
        rw [br_true]
        have m1 : s.next + 1 ≠ s.next := by omega
        simp (config := { maxSteps := 2000000 }) +contextual only [go_sem, ↓reduceIte, r1109, ck, c156, g0, hlk, hk, kindV, na1, na2, na3, hR, hb, br_true, okQ_some, n1, n2, n3, n4, m1]
        exact retCR (c := C0) inp2 frm2 ⟨Nat.le_refl _, lR, lB⟩ g2 .nil
      | false =>
        rw [br_false]
        obtain ⟨s3, p1, p2, p3⟩ := c1159 inp2 frm2.fr
        have o3 : ∀ j c, (((s.new (.cells z7 78 false 0 0)).new (.cells [.bool false, .bool false, .bool false, .bool false, .bool false, .bool false, .nilfn, .nilfn, .nilfn] 220 false 0 0)).put (s.next + 1) (.cells (cells9 (kdOf r.pk)) 220 false 0 0)).get j = some c → j ≠ R → s3.get j = some c := fun j c h1 h2 => by rw [p3.get j (st_lt frm2.fr h1) h2]; exact h1
        have k2 := o3 _ _ g2 n1
        have k3 := o3 _ _ g3 n3
        have ln := p3.next
        rw [next_put, next_new, next_new] at ln
        obtain ⟨kne, _⟩ := known_ne hk
        have hln := gd.nx_len kne
        simp only [z7, cells9] at p1
        simp (config := { maxSteps := 2000000 }) +contextual only [go_sem, ↓reduceIte, r1109, ck, c156, g0, hlk, hk, kindV, na1, na2, na3, hR, hb, br_false, n1, n2, n3, n4, r1109_b, calv_fn, p1]
        have gn : ∀ x y, x < s3.next → ((s3.new y).put s3.next (.cells (cells6 r.pk (fun _ => 0)) 78 false 0 0)).get x = s3.get x := fun x y hx => by rw [get_put, if_neg (by omega), get_new, if_neg (by omega)]
        have sfn := sf_nx r
        refine l1109c (b2 := s.next) (b3 := s.next + 1) (c6 := s3.next) (d := kdOf r.pk) (k := r.pk) (r := r.nx) (m := n) (fun q hq => IH q (by omega)) (by omega) (by omega)
          ⟨p2.mono (by rw [next_put, next_new]; omega) (gn R _ p2.lr) (gn B _ p2.lb), ?_, gd.sf sfn, ⟨by omega, by omega, by omega, by omega, by omega, by omega, lR, lB⟩, (gn _ _ (by omega)).trans k2, (gn _ _ (by omega)).trans k3, by rw [get_put, if_pos rfl]; rfl, ?_, ?_, ?_, ?_, ?_⟩ rfl
        · exact ((frm2.trans p3).new _).put _ (.inr (by omega)) (by rw [next_new]; omega)
        all_goals simp +contextual only [go_sem, ↓reduceIte]
/-! # The program reads the steps -/

def cellsS (st : PS) (kv : AV) : List AV := cellsC st.cond kv ++ [.int .i64 st.times, .int .i64 st.within]
inductive SC (s : St) (P : Nat → Prop) : List PS → List AV → Prop
  | nil : SC s P [] []
  | cons {st : PS} {kv : AV} {l : List PS} {cs : List AV} : KK s P st.cond.kids kv → SC s P l cs → SC s P (st :: l) (cellsS st kv ++ cs)
theorem SC.mono {s s' : St} {P P' : Nat → Prop} (h : ∀ j c, P j → s.get j = some c → P' j ∧ s'.get j = some c) {l : List PS} {cs : List AV} (k : SC s P l cs) : SC s' P' l cs := by
  induction k with
  | nil => exact .nil
  | cons h1 _ ih => exact .cons (h1.mono h) ih
theorem SC.app {s : St} {P : Nat → Prop} {l : List PS} {cs : List AV} (k : SC s P l cs) {st : PS} {kv : AV} (h : KK s P st.cond.kids kv) : SC s P (l ++ [st]) (cs ++ cellsS st kv) := by
  induction k with
  | nil =>
    have := SC.cons h (SC.nil (s := s) (P := P))
    rw [List.append_nil] at this; exact this
  | cons h1 _ ih => rw [List.append_assoc]; exact .cons h1 ih
theorem take_ok {w : Str} {r : Rd} (h : decide ((ptake w r).bad ≥ 0) = false) (hw : w ≠ []) (gd : Gd r) : (ptake w r).l.length + 1 = r.l.length := by
  unfold ptake at *
  cases hq : r.pk != w with
  | true =>
    rw [hq, br_true, decide_eq_false_iff_not] at h
    exfalso
    apply h
    unfold pfail
    cases hb : decide (r.bad < 0)
    · rw [decide_eq_false_iff_not] at hb; rw [br_false]; omega
    · rw [br_true]
      show (0 : Int) ≤ r.at_
      unfold Rd.at_; split <;> omega
  | false =>
    rw [br_false]
    have hq : (r.pk == w) = true := by
      have : (r.pk != w) = !(r.pk == w) := rfl
      rw [this] at hq
      cases hh : r.pk == w
      · rw [hh] at hq; cases hq
      · rfl
    exact gd.nx_len (by rw [eq_of_beq hq]; exact hw)
def SP (lo n : Nat) (sv : AV) (j : Nat) : Prop := lo ≤ j ∧ sv ≠ .sl j 0 n none 9
structure Sf1 (S0 : St) (R B c3 lo : Nat) (s0 : St) (e0 : Env) (lines : Int) (L : List PS) (cs : List AV) (sv : AV) (r : Rd) (e : Env) (s : St) : Prop where
  inp : InP s R B r
  frm : Frm R S0 s
  gd : Gd r
  lt : S0.next ≤ c3 ∧ c3 < lo ∧ lo ≤ s.next ∧ R < S0.next ∧ B < S0.next
  hc3 : s.get c3 = some (.cells [.int .i64 lines, sv] 25 false 0 0)
  row : RowI s lo 113 9 L.length cs sv
  sc : SC s (SP lo L.length sv) L cs
  q0 : Env.get e 0 = .ptr R 0
  q3 : Env.get e 3 = .ptr c3 0
  q2 : Env.get e 2 = Env.get e0 2
  hs : ∀ x c, s0.get x = some c → x ≠ R → x ≠ c3 → x < lo → s.get x = some c
theorem l1046 {β : Type} {fin : Fl → β} {ks : List K} {Post : β → Prop} {S0 : St} {R B c3 lo m N : Nat} {lines : Int} {r0 : Rd} {e0 : Env} {s0 : St} {X : List PS × Rd}
    (hm : r0.l.length < m) (hN : 2 * r0.l.length + 1 ≤ N) (hN2 : r0.l.length ≤ 2 ^ 19)
    (h : Sf1 S0 R B c3 lo s0 e0 lines [] [] .nils r0 e0 s0) (hX : psteps N m r0 = X)
    (hk : ∀ e s cs sv, Sf1 S0 R B c3 lo s0 e0 lines X.1 cs sv X.2 e s → Post (goN U fin ks e s)) :
    Post (goL U fin (.bk 0 :: ks) r1046_l0 e0 s0) := by
  refine loop_ex (σ := Nat × List PS × List AV × AV × Rd) (fun x => x.1) (fun x e s => Sf1 S0 R B c3 lo s0 e0 lines x.2.1 x.2.2.1 x.2.2.2.1 x.2.2.2.2 e s ∧ x.2.2.2.2.l.length < x.1 ∧ x.2.1.length + x.2.2.2.2.l.length ≤ r0.l.length ∧
    (x.2.1 ++ (psteps N x.1 x.2.2.2.2).1, (psteps N x.1 x.2.2.2.2).2) = X) (m, [], [], .nils, r0) ?_ ⟨h, hm, by simp only [List.length_nil]; omega, hX⟩
  rintro Lp ⟨m1, L, cs, sv, r⟩ e s ⟨⟨inp, frm, gd, ⟨lt1, lt2, lt3, lt4, lt5⟩, hc3, row, sc, q0, q3, q2, hs⟩, hm1, hN1, hX⟩ ih
  simp only at inp gd hc3 row sc hm1 hN1 hX
  obtain ⟨vl, hR⟩ := inp.bad
  obtain ⟨m1, rfl⟩ : ∃ q, m1 = q + 1 := ⟨m1 - 1, by omega⟩
  cases hb : decide (r.bad < 0) with
  | false =>
    have hge : decide (r.bad ≥ 0) = true := by
      rw [decide_eq_false_iff_not] at hb
      rw [decide_eq_true_eq]; omega
    rw [psteps, hge, br_true, List.append_nil] at hX
    simp only at hX
    simp +contextual only [go_sem, ↓reduceIte, r1046_l0, q0, hR, hb]
    rw [← hX] at hk
    refine hk _ _ cs sv ⟨inp, frm, gd, ⟨lt1, lt2, lt3, lt4, lt5⟩, hc3, row, sc, ?_, ?_, ?_, hs⟩
    all_goals simp +contextual only [go_sem, ↓reduceIte, q0, q2, q3]
  | true =>
    have hge : decide (r.bad ≥ 0) = false := by
      rw [decide_eq_true_eq] at hb
      rw [decide_eq_false_iff_not]; omega
    rw [psteps, hge, br_false] at hX
    simp only at hX
    obtain ⟨v1, s1, p1, p2, p3⟩ := c1106 inp frm.fr [59]
    have sf1 := sf_take [59] r
    have gd1 := gd.sf sf1
    have len1 := sf1.len
    have o1 : ∀ j c, s.get j = some c → j ≠ R → s1.get j = some c := fun j c h1 h2 => by rw [p3.get j (st_lt frm.fr h1) h2]; exact h1
    have g1 := c1108 p2
    obtain ⟨vl1, hR1⟩ := p2.bad
    have n1 := p3.next
    have frm1 := frm.trans p3
    have hc31 := o1 c3 _ hc3 (by omega)
    have row1 : RowI s1 lo 113 9 L.length cs sv := row.mono n1 fun j h1 h2 => p3.get j h2 (by omega)
    have sc1 : SC s1 (SP lo L.length sv) L cs := sc.mono fun j c h1 h2 => ⟨h1, o1 j c h2 (by have := h1.1; omega)⟩
    have hs1 : ∀ x c, s0.get x = some c → x ≠ R → x ≠ c3 → x < lo → s1.get x = some c := fun x c h1 h2 h3 h4 => o1 x c (hs x c h1 h2 h3 h4) h2
    have fin2 : ((ptake [59] r).pk == [] || decide ((ptake [59] r).bad ≥ 0)) = true → ∀ e', Env.get e' 0 = .ptr R 0 → Env.get e' 3 = .ptr c3 0 → Env.get e' 2 = Env.get e0 2 → Post (goN U fin ks e' s1) := fun hq e' u0 u3 u2 => by
      rw [hq, br_true, List.append_nil] at hX
      rw [← hX] at hk
      exact hk e' s1 cs sv ⟨p2, frm1, gd1, ⟨lt1, lt2, by omega, lt4, lt5⟩, hc31, row1, sc1, u0, u3, u2, hs1⟩
    cases hpk : (ptake [59] r).pk == [] with
    | true =>
      simp +contextual only [go_sem, ↓reduceIte, r1046_l0, q0, hR, hb, ck, p1, g1, hpk, gateV_false, gateR_false, gateC_false]
      refine fin2 (by rw [hpk]; rfl) _ ?_ ?_ ?_
      all_goals simp +contextual only [go_sem, ↓reduceIte, q0, q2, q3]
    | false =>
      cases hb1 : decide ((ptake [59] r).bad ≥ 0) with
      | true =>
        simp +contextual only [go_sem, ↓reduceIte, r1046_l0, q0, hR, hb, ck, p1, g1, hpk, hR1, hb1, gateV_true, gateR_true, gateC_true]
        refine fin2 (by rw [hpk, hb1]; rfl) _ ?_ ?_ ?_
        all_goals simp +contextual only [go_sem, ↓reduceIte, q0, q2, q3]
      | false =>
        rw [hpk, hb1] at hX
        simp only [Bool.or_false, br_false] at hX
        have len2 := take_ok hb1 (by simp) gd
        obtain ⟨v2, s2, c1, ⟨kv, rfl, c3k⟩, c4, c5⟩ := c1109 N s1 R B (ptake [59] r) p2 p3.fr gd1 (by omega) (by omega)
        generalize hc : pcond N (ptake [59] r) = cx at *
        obtain ⟨c, r2⟩ := cx
        simp only at c3k c4 hX c1
        have hcn : (pcond N (ptake [59] r)).2 = r2 := by rw [hc]
        have sf2 : Sf (ptake [59] r) r2 := by rw [← hcn]; exact (sf_cond N).1 _
        have gd2 := gd1.sf sf2
        have len3 := sf2.len
        have o2 : ∀ j x, s1.get j = some x → j ≠ R → s2.get j = some x := fun j x h1 h2 => by rw [c5.get j (st_lt p3.fr h1) h2]; exact h1
        have n2 := c5.next
        have frm2 := frm1.trans c5
        have hna := c3k.noAgg
        have hcl := c3k.cells
        have lR2 : R < s2.next := c4.lr
        have lB2 : B < s2.next := c4.lb
        have a1 : s2.next ≠ R := by omega
        have a2 : s2.next ≠ B := by omega
        have a3 : s2.next ≠ c3 := by omega
        have a4 : c3 ≠ s2.next := by omega
        -- the step's own block
        have put1 : ∀ (s : St) (w : List AV), s2.next < s.next → InP s R B r2 → InP (s.put s2.next (.cells w 113 false 0 0)) R B r2 := fun s w hl hp => hp.mono (by rw [next_put]; omega) (by rw [get_put, if_neg a1]) (by rw [get_put, if_neg a2])
        have frm3 : Frm R S0 ((s2.new (.cells [.str [], .int .i64 0, .int .i64 0, .int .i64 0, .int .i64 0, .str [], .nils, .int .i64 0, .int .i64 0] 113 false 0 0)).put s2.next (.cells (cellsS ⟨c, 0, 0⟩ kv) 113 false 0 0)) := (frm2.new _).put _ (.inr frm2.next) (by rw [next_new]; omega)
        have inp3 : InP ((s2.new (.cells [.str [], .int .i64 0, .int .i64 0, .int .i64 0, .int .i64 0, .str [], .nils, .int .i64 0, .int .i64 0] 113 false 0 0)).put s2.next (.cells (cellsS ⟨c, 0, 0⟩ kv) 113 false 0 0)) R B r2 :=
          c4.mono (by rw [next_put, next_new]; omega) (by rw [get_put, if_neg a1, get_new, if_neg a1]) (by rw [get_put, if_neg a2, get_new, if_neg a2])
        obtain ⟨s4, d1, d2, d3⟩ := c1110 inp3 frm3.fr sTimes 1 (gd2.sf (sf_nx r2)).pk
        have gs3 : ((s2.new (.cells [.str [], .int .i64 0, .int .i64 0, .int .i64 0, .int .i64 0, .str [], .nils, .int .i64 0, .int .i64 0] 113 false 0 0)).put s2.next (.cells (cellsS ⟨c, 0, 0⟩ kv) 113 false 0 0)).get s2.next = some (.cells (cellsS ⟨c, 0, 0⟩ kv) 113 false 0 0) := by rw [get_put, if_pos rfl]
        have gs4 : s4.get s2.next = some (.cells (cellsS ⟨c, 0, 0⟩ kv) 113 false 0 0) := by rw [d3.get s2.next (st_lt frm3.fr gs3) a1]; exact gs3
        have l4 := st_lt d3.fr gs4
        have sf3 := sf_opt sTimes 1 r2
        have gd3 := gd2.sf sf3
        have len4 := sf3.len
        generalize ht : popt sTimes 1 r2 = tx at *
        obtain ⟨tm, r3⟩ := tx
        simp only at d1 d2 hX sf3 gd3 len4
        have inp5 : InP (s4.put s2.next (.cells (cellsS ⟨c, tm, 0⟩ kv) 113 false 0 0)) R B r3 := d2.mono (by rw [next_put]; omega) (by rw [get_put, if_neg a1]) (by rw [get_put, if_neg a2])
        have frm5 : Frm R S0 (s4.put s2.next (.cells (cellsS ⟨c, tm, 0⟩ kv) 113 false 0 0)) := (frm3.trans d3).put _ (.inr frm2.next) l4
        obtain ⟨s6, f1, f2, f3⟩ := c1110 inp5 frm5.fr sWithin 0 (gd3.sf (sf_nx r3)).pk
        have gs5 : (s4.put s2.next (.cells (cellsS ⟨c, tm, 0⟩ kv) 113 false 0 0)).get s2.next = some (.cells (cellsS ⟨c, tm, 0⟩ kv) 113 false 0 0) := by rw [get_put, if_pos rfl]
        have gs6 : s6.get s2.next = some (.cells (cellsS ⟨c, tm, 0⟩ kv) 113 false 0 0) := by rw [f3.get s2.next (st_lt frm5.fr gs5) a1]; exact gs5
        have l6 := st_lt f3.fr gs6
        have sf4 := sf_opt sWithin 0 r3
        have gd4 := gd3.sf sf4
        have len5 := sf4.len
        generalize hw : popt sWithin 0 r3 = wx at *
        obtain ⟨wi, r4⟩ := wx
        simp only at f1 f2 hX sf4 gd4 len5
        -- what stood before stands
        have n4 := d3.next
        have n6 := f3.next
        rw [next_put, next_new] at n4
        rw [next_put] at n6
        have o6 : ∀ j x, s2.get j = some x → j ≠ R → s6.get j = some x := fun j x h1 h2 => by
          have hj := st_lt frm2.fr h1
          rw [f3.get j (by rw [next_put]; omega) h2, get_put, if_neg (by omega), d3.get j (by rw [next_put, next_new]; omega) h2, get_put, if_neg (by omega), get_new, if_neg (by omega)]
          exact h1
        have hc36 := o6 _ _ (o2 _ _ hc31 (by omega)) (by omega)
        have frm7 : Frm R S0 (s6.put s2.next (.cells (cellsS ⟨c, tm, wi⟩ kv) 113 false 0 0)) := (frm5.trans f3).put _ (.inr frm2.next) l6
        have inp7 : InP (s6.put s2.next (.cells (cellsS ⟨c, tm, wi⟩ kv) 113 false 0 0)) R B r4 := f2.mono (by rw [next_put]; omega) (by rw [get_put, if_neg a1]) (by rw [get_put, if_neg a2])
        have hcw : (cellsS ⟨c, tm, wi⟩ kv).all noAgg = true := by simp only [cellsS, cellsC, List.cons_append, List.nil_append, List.all_cons, List.all_nil, hna]; rfl
        have o8 : ∀ j x, s2.get j = some x → j ≠ R → ((s6.put s2.next (.cells (cellsS ⟨c, tm, wi⟩ kv) 113 false 0 0)).new (.cells (cellsS ⟨c, tm, wi⟩ kv) 113 false 0 0)).get j = some x := fun j x h1 h2 => by
          have hj := st_lt frm2.fr h1
          rw [get_new, if_neg (by rw [next_put]; omega), get_put, if_neg (by omega)]; exact o6 j x h1 h2
        have row8 : RowI ((s6.put s2.next (.cells (cellsS ⟨c, tm, wi⟩ kv) 113 false 0 0)).new (.cells (cellsS ⟨c, tm, wi⟩ kv) 113 false 0 0)) lo 113 9 L.length cs sv := by
          rcases row1 with q | ⟨k0, k1, b, k2, k3, k4, k5⟩
          · exact .inl q
          · exact .inr ⟨k0, k1, b, k2, by rw [next_new, next_put]; omega, k4, o8 b _ (o2 b _ k5 (by omega)) (by omega)⟩
        have hla := row1.lenA
        have hsn := row1.noAgg
        have hb1' : (L.length + 1) * 104 ≤ 1099511627776 := by omega
        have hb2' : L.length + 1 ≤ 1099511627776 := by omega
        obtain ⟨s9, q1, q2', q3', q4', q5'⟩ := row8.app2 (by rw [next_new, next_put]; omega) (m := 1) (new := cellsS ⟨c, tm, wi⟩ kv) (by omega) rfl hcw
        rw [next_new, next_put] at q1 q2' q3' q4'
        have fr9 : Fr s9 := q5' (frm7.fr.new _)
        have sc3 : sv ≠ .sl c3 0 L.length none 9 := row1.far (.inr lt2)
        have gc9 : s9.get c3 = some (.cells [.int .i64 lines, sv] 25 false 0 0) := by
          rw [q4' c3 (by omega) sc3]
          exact o8 _ _ (o2 _ _ hc31 (by omega)) (by omega)
        have hwi : sWithin = [119, 105, 116, 104, 105, 110] := rfl
        have hti : sTimes = [116, 105, 109, 101, 115] := rfl
        rw [hti] at d1
        rw [hwi] at f1
        simp only [cellsS, cellsC, List.cons_append, List.nil_append] at c1 d1 f1 gs4 gs6 q1
        have hhc3 := hc36
        simp (config := { maxSteps := 4000000 }) +contextual only [go_sem, ↓reduceIte, r1046_l0, q0, q3, hR, hb, ck, p1, g1, hpk, hR1, hb1, c1, hna, hcl, a1, a2, a3, a4, d1, gs4, f1, gs6, hc36, appK_some, Nat.reducePow, Nat.one_mul, hla, hsn, hb1', hb2', q1, gc9, gateV_true, gateR_true, gateC_true]
        have far9 : ∀ j, j < lo → sv ≠ .sl j 0 L.length none 9 := fun j hj => row1.far (.inr hj)
        have nn : s6.next < s9.next := by omega
        have o9 : ∀ j x, s2.get j = some x → j ≠ R → sv ≠ .sl j 0 L.length none 9 → s9.get j = some x := fun j x h1 h2 h3 => by
          have hj := st_lt frm2.fr h1
          rw [q4' j (by omega) h3]; exact o8 j x h1 h2
        have inp9 : InP s9 R B r4 := inp7.mono (by rw [next_put]; omega) (by rw [q4' R (by have := inp7.lr; rw [next_put] at this; omega) (far9 R (by omega)), get_new, if_neg (by have := inp7.lr; omega)]) (by rw [q4' B (by have := inp7.lb; rw [next_put] at this; omega) (far9 B (by omega)), get_new, if_neg (by have := inp7.lb; omega)])
        have lc9 : c3 < s9.next := by omega
        have frm9 : Frm R S0 s9 := by
          refine ⟨by have := frm2.next; omega, fun j h1 h2 => ?_, fr9⟩
          have := frm2.next
          rw [q4' j (by omega) (far9 j (by omega)), get_new, if_neg (by rw [next_put]; omega)]
          exact frm7.get j h1 h2
        refine ih (m1, L ++ [⟨c, tm, wi⟩], cs ++ cellsS ⟨c, tm, wi⟩ kv, .sl (s6.next + 1) 0 (L.length + 1) none 9, r4) _ _ (by simp only; omega) ⟨⟨inp9.mono (by rw [next_put]; omega) (by rw [get_put, if_neg (by omega)]) (by rw [get_put, if_neg (by omega)]), frm9.put _ (.inr lt1) lc9, gd4, ⟨lt1, lt2, by rw [next_put]; omega, lt4, lt5⟩, by rw [get_put, if_pos rfl], ?_, ?_, ?_, ?_, ?_, ?_⟩, by simp only; omega, by simp only [List.length_append, List.length_singleton]; omega, ?_⟩
        rotate_right
        · simp only
          rw [List.append_assoc]; exact hX
        rotate_right
        · intro x y h1 h2 h3 h4
          rw [get_put, if_neg (by omega)]
          exact o9 x y (o2 x y (hs1 x y h1 h2 h3 h4) h2) h2 (far9 x h4)
        · rw [List.length_append]
          exact q3'.mono (by rw [next_put]; omega) fun j h1 h2 => by rw [get_put, if_neg (by omega)]
        · rw [List.length_append]
          refine SC.app (sc1.mono fun j x h1 h2 => ?_) (c3k.mono fun j x h1 h2 => ?_)
          · have hj := st_lt p3.fr h2
            refine ⟨⟨h1.1, fun h3 => ?_⟩, ?_⟩
            · cases h3; omega
            · rw [get_put, if_neg (by have := h1.1; omega)]
              exact o9 j x (o2 j x h2 (by have := h1.1; omega)) (by have := h1.1; omega) h1.2
          · have hj := st_lt frm2.fr h2
            have h1 : s1.next ≤ j := h1
            refine ⟨⟨by omega, fun h3 => ?_⟩, ?_⟩
            · cases h3; omega
            · rw [get_put, if_neg (by omega)]
              exact o9 j x h2 (by omega) (row1.far (.inl h1))
        all_goals simp +contextual only [go_sem, ↓reduceIte, q0, q2, q3]
/-! # What was read, written out -/

mutual
def Cond.nm : Cond → Bool
  | .mk _ _ _ _ _ _ nl kids => nl && nmL kids
def nmL : List Cond → Bool
  | [] => true
  | c :: l => c.nm && nmL l
end
mutual
def Cond.dp : Cond → Nat
  | .mk _ _ _ _ _ _ _ kids => dpL kids + 1
def dpL : List Cond → Nat
  | [] => 0
  | c :: l => max c.dp (dpL l)
end
theorem nm_withK (c : Cond) (l : List Cond) : (withK c l).nm = nmL l := by simp [withK, Cond.nm]
theorem dp_withK (c : Cond) (l : List Cond) : (withK c l).dp = dpL l + 1 := by simp [withK, Cond.dp]
theorem nm_flds (k : Str) (u : Uses) (r : Rd) : (pflds k u r).1.nm = true ∧ (pflds k u r).1.dp = 1 := by simp [pflds, Cond.nm, Cond.dp, nmL, dpL]
theorem nmdp : ∀ n : Nat, (∀ r, (pcond n r).1.nm = true ∧ (pcond n r).1.dp ≤ n + 1) ∧ (∀ nt r, nmL (pkids n nt r).1 = true ∧ dpL (pkids n nt r).1 ≤ n + 1)
  | 0 => ⟨fun r => by rw [pcond]; simp [C0, Cond.nm, Cond.dp, nmL, dpL], fun nt r => by rw [pkids]; simp [nmL, dpL]⟩
  | n + 1 => by
    obtain ⟨ih1, ih2⟩ := nmdp n
    have hC : C0.nm = true ∧ C0.dp ≤ n + 1 + 1 := by simp [C0, Cond.nm, Cond.dp, nmL, dpL]
    refine ⟨fun r => ?_, fun nt r => ?_⟩
    · rw [pcond]
      cases (kdOf r.pk).known
      · exact hC
      simp only [Bool.not_true, br_false]
      cases decide (r.bad ≥ 0)
      · simp only [br_false]
        cases (usesOf (kdOf r.pk)).kids
        · have := nm_flds r.pk (usesOf (kdOf r.pk)) r.nx
          simp only [Bool.not_false, br_true]
          exact ⟨this.1, by omega⟩
        · simp only [Bool.not_true, br_false]
          have := ih2 (r.pk == sNot) (ptake [40] (pflds r.pk (usesOf (kdOf r.pk)) r.nx).2)
          rw [nm_withK, dp_withK]
          exact ⟨this.1, by omega⟩
      · exact hC
    · rw [pkids]
      cases decide (r.bad ≥ 0)
      · simp only [br_false]
        have h1 := ih1 r
        cases nt || (pcond n r).2.pk != [44]
        · have h2 := ih2 nt (pcond n r).2.nx
          simp only [br_false, nmL, dpL]
          rw [h1.1, h2.1]
          exact ⟨rfl, by omega⟩
        · simp only [br_true, nmL, dpL]
          rw [h1.1]
          exact ⟨rfl, by omega⟩
      · simp [br_true, nmL, dpL]
theorem grab_len {n o : Nat} (l : List AV) (h : l.length = n) (h0 : o = 0) : grab n o l = some l := by subst h0; rw [← h]; exact grab_all l
mutual
theorem frzK {s : St} {P : Nat → Prop} : ∀ {l : List Cond} {kv : AV} {d : Nat}, KK s P l kv → nmL l = true → 2 * dpL l + 1 ≤ d → frz U s d kv = some (encS true (encL l))
  | _, _, d, .nil, _, hd => by
    obtain ⟨d, rfl⟩ : ∃ q, d = q + 1 := ⟨d - 1, by omega⟩
    rfl
  | l, _, d, .row (cs := cs) (b := b) h1 h2 h3 h4, hn, hd => by
    obtain ⟨d, rfl⟩ : ∃ q, d = q + 1 := ⟨d - 1, by omega⟩
    have hl := frzC_len h4
    have hne : l ≠ [] := h1
    have hp : 1 ≤ dpL l := by
      obtain ⟨c, m, rfl⟩ := List.exists_cons_of_ne_nil h1
      cases c; simp [dpL, Cond.dp]; omega
    obtain ⟨d, rfl⟩ : ∃ q, d = q + 1 := ⟨d - 1, by omega⟩
    rw [frz_sl, h3, frzS_cells, grab_len cs hl rfl, ag_48, sz_48, frzT_agg, frzC h4 hn (by omega), fzK_some, show AV.fz (encL l) = encS true (encL l) by obtain ⟨c, m, rfl⟩ := List.exists_cons_of_ne_nil h1; rw [encL, encS_cons]]
theorem frzC {s : St} {P : Nat → Prop} : ∀ {l : List Cond} {cs : List AV} {d : Nat}, KC s P l cs → nmL l = true → 2 * dpL l ≤ d + 1 → mapO (frz U s (d + 1)) (chunksA true 7 l.length cs) = some (encL l)
  | _, _, d, .nil, _, _ => by rw [encL]; rfl
  | _, _, d, .cons (c := c) (kv := kv) (l := l) (cs := cs) h1 h2, hn, hd => by
    simp only [nmL, Bool.and_eq_true] at hn
    simp only [dpL] at hd
    have hc : c.dp = dpL c.kids + 1 := by cases c; rfl
    have hcn : nmL c.kids = true ∧ c.nl = true := by
      have := hn.1
      cases c
      simp only [Cond.nm, Bool.and_eq_true] at this
      exact ⟨this.2, this.1⟩
    obtain ⟨d, rfl⟩ : ∃ q, d = q + 1 := ⟨d - 1, by omega⟩
    have ih1 := frzK (d := d + 1) h1 hcn.1 (by omega)
    have ih2 := frzC (d := d + 1) h2 hn.2 (by omega)
    have e1 : chunksA true 7 (c :: l).length (cellsC c kv ++ cs) = .agg (cellsC c kv) :: chunksA true 7 l.length cs := by
      rw [List.length_cons, chunks_agg]
      rfl
    have e2 : frz U s (d + 1 + 1) (.agg (cellsC c kv)) = some (encC c) := by
      rw [encC_cells]
      have : mapO (frz U s (d + 1)) (cellsC c kv) = some c.cells := by
        have f1 : ∀ t, frz U s (d + 1) (.str t) = some (.str t) := fun _ => rfl
        have f2 : ∀ n, frz U s (d + 1) (.int .i64 n) = some (.int .i64 n) := fun _ => rfl
        simp only [cellsC, Cond.cells, mapO_cons, mapO_nil, ih1, hcn.2, f1, f2]
        rfl
      show (match mapO (frz U s (d + 1)) (cellsC c kv) with | some cs' => some (AV.agg cs') | none => none) = _
      rw [this]
    rw [e1, mapO_cons, e2, ih2, encL]
    rfl
theorem frzC_len {s : St} {P : Nat → Prop} : ∀ {l : List Cond} {cs : List AV}, KC s P l cs → cs.length = l.length * 7
  | _, _, .nil => rfl
  | _, _, .cons h1 h2 => by rw [List.length_append, frzC_len h2, List.length_cons]; simp [cellsC]; omega
end

/-! ### The steps -/
def PS.st (p : PS) : Step := ⟨p.cond, p.times, p.within⟩
def encPS (l : List PS) : List AV := l.map fun p => encStep p.st
def StK (s : St) (P : Nat → Prop) (L : List PS) (sv : AV) : Prop := (L = [] ∧ sv = .nils) ∨ ∃ b cs, L ≠ [] ∧ sv = .sl b 0 L.length none 9 ∧ P b ∧ s.get b = some (.cells cs 113 false 0 0) ∧ SC s P L cs
theorem StK.mono {s s' : St} {P P' : Nat → Prop} (h : ∀ j c, P j → s.get j = some c → P' j ∧ s'.get j = some c) {L : List PS} {sv : AV} (k : StK s P L sv) : StK s' P' L sv := by
  rcases k with q | ⟨b, cs, h1, h2, h3, h4, h5⟩
  · exact .inl q
  · exact .inr ⟨b, cs, h1, h2, (h b _ h3 h4).1, (h b _ h3 h4).2, h5.mono h⟩
theorem StK.noAgg {s : St} {P : Nat → Prop} {L : List PS} {sv : AV} (k : StK s P L sv) : Go.Am.noAgg sv = true := by
  rcases k with ⟨_, rfl⟩ | ⟨b, cs, _, rfl, _⟩ <;> rfl
theorem StK.cells {s : St} {P : Nat → Prop} {L : List PS} {sv : AV} (k : StK s P L sv) : sv.cells = [sv] := by
  rcases k with ⟨_, rfl⟩ | ⟨b, cs, _, rfl, _⟩ <;> rfl
def okPS (D : Nat) (p : PS) : Prop := p.cond.nm = true ∧ p.cond.dp ≤ D
theorem ag113 : isAggT U 113 = some true := by kernel_rfl
theorem sz113 : size U 113 = some 9 := by kernel_rfl
theorem SC.len {s : St} {P : Nat → Prop} {l : List PS} {cs : List AV} (k : SC s P l cs) : cs.length = l.length * 9 := by
  induction k with
  | nil => rfl
  | cons _ _ ih => rw [List.length_append, ih, List.length_cons]; simp [cellsS, cellsC]; omega
theorem frzSC {s : St} {P : Nat → Prop} {D : Nat} {l : List PS} {cs : List AV} {d : Nat} (k : SC s P l cs) (hn : ∀ p ∈ l, okPS D p) (hd : 2 * D ≤ d) : mapO (frz U s (d + 1)) (chunksA true 9 l.length cs) = some (encPS l) := by
  induction k with
  | nil => rfl
  | @cons st kv l cs h1 h2 ih =>
    have hst := hn st (by simp)
    obtain ⟨c, tm, wi⟩ := st
    have hc : c.dp = dpL c.kids + 1 := by cases c; rfl
    have hcn : nmL c.kids = true ∧ c.nl = true := by
      have := hst.1
      cases c
      simp only [Cond.nm, Bool.and_eq_true] at this
      exact ⟨this.2, this.1⟩
    have hdp : c.dp ≤ D := hst.2
    have ih1 := frzK (d := d) h1 hcn.1 (by show 2 * dpL c.kids + 1 ≤ d; omega)
    have ih2 := ih (fun p hp => hn p (List.mem_cons_of_mem _ hp))
    have e1 : chunksA true 9 (PS.mk c tm wi :: l).length (cellsS ⟨c, tm, wi⟩ kv ++ cs) = .agg (cellsS ⟨c, tm, wi⟩ kv) :: chunksA true 9 l.length cs := by
      rw [List.length_cons, chunks_agg]
      rfl
    have e2 : frz U s (d + 1) (.agg (cellsS ⟨c, tm, wi⟩ kv)) = some (encStep (PS.mk c tm wi).st) := by
      obtain ⟨d, rfl⟩ : ∃ q, d = q + 1 := ⟨d - 1, by omega⟩
      have : mapO (frz U s (d + 1)) (cellsS ⟨c, tm, wi⟩ kv) = some [.str c.kind, .int .i64 c.a, .int .i64 c.b, .int .i64 c.mi, .int .i64 c.ma, .str c.pat, encS c.nl (encL c.kids), .int .i64 tm, .int .i64 wi] := by
        have f1 : ∀ t, frz U s (d + 1) (.str t) = some (.str t) := fun _ => rfl
        have f2 : ∀ n, frz U s (d + 1) (.int .i64 n) = some (.int .i64 n) := fun _ => rfl
        have ih1 : frz U s (d + 1) kv = some (encS true (encL c.kids)) := ih1
        simp only [cellsS, cellsC, List.cons_append, List.nil_append, mapO_cons, mapO_nil, ih1, hcn.2, f1, f2]
        rfl
      show (match mapO (frz U s (d + 1)) (cellsS ⟨c, tm, wi⟩ kv) with | some cs' => some (AV.agg cs') | none => none) = _
      rw [this]; rfl
    rw [e1, mapO_cons, e2, ih2]
    rfl
theorem frzSt {s : St} {P : Nat → Prop} {D : Nat} {L : List PS} {sv : AV} {d : Nat} (k : StK s P L sv) (hn : ∀ p ∈ L, okPS D p) (hd : 2 * D + 2 ≤ d) : frz U s d sv = some (encS true (encPS L)) := by
  obtain ⟨d, rfl⟩ : ∃ q, d = q + 1 + 1 := ⟨d - 2, by omega⟩
  rcases k with ⟨rfl, rfl⟩ | ⟨b, cs, h1, rfl, h3, h4, h5⟩
  · rfl
  · rw [frz_sl, h4, frzS_cells, grab_len cs h5.len rfl, ag113, sz113, frzT_agg, frzSC h5 hn (by omega), fzK_some]
    obtain ⟨c, m, rfl⟩ := List.exists_cons_of_ne_nil h1
    rfl
theorem psteps_ok (N : Nat) : ∀ (m : Nat) (r : Rd), ∀ p ∈ (psteps N m r).1, okPS (N + 1) p
  | 0, r, p, hp => by simp [psteps] at hp
  | m + 1, r, p, hp => by
    rw [psteps] at hp
    cases h1 : decide (r.bad ≥ 0) with
    | true => rw [h1, br_true] at hp; simp at hp
    | false =>
      rw [h1, br_false] at hp
      simp only at hp
      cases h2 : ((ptake [59] r).pk == [] || decide ((ptake [59] r).bad ≥ 0)) with
      | true => rw [h2, br_true] at hp; simp at hp
      | false =>
        rw [h2, br_false] at hp
        rcases List.mem_cons.1 hp with rfl | hp
        · exact (nmdp N).1 _
        · exact psteps_ok N m _ p hp
/-! ### The program -/
def plines (r : Rd) : Int × Rd := br (decide ((ptake sLines r).bad < 0)) (pnum (ptake sLines r)) (0, ptake sLines r)
structure PR (S0 : St) (R B : Nat) (lines : Int) (X : List PS × Rd) (v : AV) (s' : St) : Prop where
  ex : ∃ sv, v = .agg [.int .i64 lines, sv] ∧ StK s' (fun j => S0.next ≤ j) X.1 sv
  inp : InP s' R B X.2
  frm : Frm R S0 s'
theorem c1046 {s : St} {R B N m : Nat} {r : Rd} (inp : InP s R B r) (fr : Fr s) (gd : Gd r) (hm : r.l.length < m) (hN : 2 * r.l.length + 1 ≤ N) (hl : r.l.length ≤ 2 ^ 19) :
    ∃ v s', cal U 46 [.ptr R 0] s = some (v, s') ∧ PR s R B (plines r).1 (psteps N m (plines r).2) v s' := by
  refine kept_ex k1046 (by kernel_rfl) (Q := fun v s' => PR s R B (plines r).1 (psteps N m (plines r).2) v s') ?_
  have lR := inp.lr
  have lB := inp.lb
  have n1 : s.next ≠ R := by omega
  have n2 : s.next ≠ B := by omega
  have n3 : s.next + 1 ≠ R := by omega
  have n4 : s.next + 1 ≠ B := by omega
  have m1 : s.next + 1 ≠ s.next := by omega
  have frm2 : Frm R s ((s.new (.cells [.int .i64 0, .nils] 25 false 0 0)).new (.cells [.int .i64 0, .nils] 25 false 0 0)) := ((Frm.refl fr).new _).new _
  have inp2 : InP ((s.new (.cells [.int .i64 0, .nils] 25 false 0 0)).new (.cells [.int .i64 0, .nils] 25 false 0 0)) R B r := inp.mono (by rw [next_new, next_new]; omega) (by simp only [get_new, next_new, n1, n3, if_false]) (by simp only [get_new, next_new, n2, n4, if_false])
  have g2 : ((s.new (.cells [.int .i64 0, .nils] 25 false 0 0)).new (.cells [.int .i64 0, .nils] 25 false 0 0)).get s.next = some (.cells [.int .i64 0, .nils] 25 false 0 0) := by rw [get_new, if_neg (by rw [next_new]; omega), get_new, if_pos rfl]
  have g3 : ((s.new (.cells [.int .i64 0, .nils] 25 false 0 0)).new (.cells [.int .i64 0, .nils] 25 false 0 0)).get (s.next + 1) = some (.cells [.int .i64 0, .nils] 25 false 0 0) := by rw [get_new, next_new, if_pos rfl]
  obtain ⟨v1, s1, p1, p2, p3⟩ := c1106 inp2 frm2.fr sLines
  have p1 : cal U 106 [.ptr R 0, .str [108, 105, 110, 101, 115]] ((s.new (.cells [.int .i64 0, .nils] 25 false 0 0)).new (.cells [.int .i64 0, .nils] 25 false 0 0)) = some (v1, s1) := p1
  have o1 : ∀ j c, ((s.new (.cells [.int .i64 0, .nils] 25 false 0 0)).new (.cells [.int .i64 0, .nils] 25 false 0 0)).get j = some c → j ≠ R → s1.get j = some c := fun j c h1 h2 => by rw [p3.get j (st_lt frm2.fr h1) h2]; exact h1
  have h2 := o1 _ _ g2 n1
  have h3 := o1 _ _ g3 n3
  obtain ⟨vl1, hR1⟩ := p2.bad
  have gd1 := gd.sf (sf_take sLines r)
  have len1 := (sf_take sLines r).len
  have frm3 := frm2.trans p3
  have nx1 := p3.next
  rw [next_new, next_new] at nx1
  -- the end
  have fin : ∀ (lines : Int) (r2 : Rd) (e1 : Env) (s2 : St), (lines, r2) = plines r → InP s2 R B r2 → Frm R s s2 → Gd r2 → r2.l.length ≤ r.l.length → s2.get s.next = some (.cells [.int .i64 0, .nils] 25 false 0 0) → s2.get (s.next + 1) = some (.cells [.int .i64 lines, .nils] 25 false 0 0) →
      Env.get e1 0 = .ptr R 0 → Env.get e1 2 = .ptr s.next 0 → Env.get e1 3 = .ptr (s.next + 1) 0 →
      okQ (fun v s' => PR s R B (plines r).1 (psteps N m (plines r).2) v s') (goL U (finB U [.cell 2 25]) (.bk 0 :: .sq (.seq (.ops [⟨some 47, none, none, false, .ldn 2 (.t 3)⟩, ⟨none, none, none, false, .st 2 (.t 2) (.t 47)⟩]) .ret) :: []) r1046_l0 e1 s2) := by
    intro lines r2 e1 s2 hpl i2 f2 gd2 ln2 u1 u2 e0 e2 e3
    rw [← hpl]
    have l2 := st_lt f2.fr u2
    refine l1046 (Post := okQ _) (S0 := s) (R := R) (B := B) (c3 := s.next + 1) (lo := s2.next) (m := m) (N := N) (lines := lines) (r0 := r2) (e0 := e1) (s0 := s2) (X := psteps N m r2) (by omega) (by omega) (by omega)
      ⟨i2, f2, gd2, ⟨by omega, l2, Nat.le_refl _, lR, lB⟩, u2, RowI.nil _ _ _ _, .nil, e0, e3, rfl, fun x c h _ _ _ => h⟩ rfl ?_
    rintro e4 s4 cs sv ⟨i4, f4, gd4, ⟨t1, t2, t3, t4, t5⟩, hc4, row4, sc4, w0, w3, w2, hs4⟩
    have hb2 := hs4 s.next _ u1 n1 (by omega) (st_lt f2.fr u1)
    have st4 : StK s4 (fun j => s.next ≤ j ∧ j ≠ s.next) (psteps N m r2).1 sv := by
      rcases row4 with ⟨h0, rfl, rfl⟩ | ⟨h0, h1, bb, h4, h5, rfl, h6⟩
      · exact .inl ⟨List.length_eq_zero_iff.1 h0, rfl⟩
      · exact .inr ⟨bb, cs, by intro h; rw [h] at h0; simp at h0, rfl, ⟨by omega, by omega⟩, h6, sc4.mono fun j c g1 g2 => ⟨⟨by have := g1.1; omega, by have := g1.1; omega⟩, g2⟩⟩
    have hna := st4.noAgg
    have hcl := st4.cells
    rw [e2] at w2
    simp +contextual only [go_sem, ↓reduceIte, w2, w3, hc4, hb2, hna, hcl, okQ_some]
    refine ⟨⟨sv, rfl, st4.mono fun j x h1 h3 => ⟨h1.1, ?_⟩⟩, i4.mono (by rw [next_put]; omega) ?_ ?_, f4.put _ (.inr (Nat.le_refl _)) (by omega)⟩
    · rw [get_put, if_neg (fun h => h1.2 h.symm)]; exact h3
    · rw [get_put, if_neg n1]
    · rw [get_put, if_neg n2]
  cases hb : decide ((ptake sLines r).bad < 0) with
  | false =>
    have hpl : (0, ptake sLines r) = plines r := by unfold plines; rw [hb, br_false]
    simp (config := { maxSteps := 2000000 }) +contextual only [go_sem, ↓reduceIte, r1046, ck, p1, hR1, hb]
    refine fin 0 _ _ s1 hpl p2 frm3 gd1 (by omega) h2 h3 ?_ ?_ ?_
    all_goals simp +contextual only [go_sem, ↓reduceIte]
  | true =>
    have hpl : ((pnum (ptake sLines r)).1, (pnum (ptake sLines r)).2) = plines r := by unfold plines; rw [hb, br_true]
    obtain ⟨s5, d1, d2, d3⟩ := c1107 p2 p3.fr gd1.pk
    have h25 : s5.get s.next = some (.cells [.int .i64 0, .nils] 25 false 0 0) := by rw [d3.get s.next (st_lt p3.fr h2) n1]; exact h2
    have h35 : s5.get (s.next + 1) = some (.cells [.int .i64 0, .nils] 25 false 0 0) := by rw [d3.get (s.next + 1) (st_lt p3.fr h3) n3]; exact h3
    have l35 := st_lt d3.fr h35
    have sfn := sf_num (ptake sLines r)
    have lenn := sfn.len
    simp (config := { maxSteps := 2000000 }) +contextual only [go_sem, ↓reduceIte, r1046, ck, p1, hR1, hb, d1, h35]
    refine fin _ _ _ _ hpl (d2.mono (by rw [next_put]; omega) (by rw [get_put, if_neg n3]) (by rw [get_put, if_neg n4])) ((frm3.trans d3).put _ (.inr (by omega)) l35) (gd1.sf sfn) (by omega) (by rw [get_put, if_neg m1]; exact h25) (by rw [get_put, if_pos rfl]) ?_ ?_ ?_
    all_goals simp +contextual only [go_sem, ↓reduceIte]
end Go.Am
set_option linter.all false
namespace Go.Am
open Go
variable [MaxLen]
set_option maxRecDepth 100000
set_option maxHeartbeats 8000000
/-! # The reference reads the steps -/

inductive JSC (s : St) (P : Nat → Prop) : List PS → List AV → Prop
  | nil : JSC s P [] []
  | cons {st : PS} {kv : AV} {l : List PS} {cs : List AV} : JK s P st.cond.kids kv → JSC s P l cs → JSC s P (st :: l) (cellsS st kv ++ cs)
theorem JSC.mono {s s' : St} {P P' : Nat → Prop} (h : ∀ j c, P j → s.get j = some c → P' j ∧ s'.get j = some c) {l : List PS} {cs : List AV} (k : JSC s P l cs) : JSC s' P' l cs := by
  induction k with
  | nil => exact .nil
  | cons h1 _ ih => exact .cons (h1.mono h) ih
theorem JSC.app {s : St} {P : Nat → Prop} {l : List PS} {cs : List AV} (k : JSC s P l cs) {st : PS} {kv : AV} (h : JK s P st.cond.kids kv) : JSC s P (l ++ [st]) (cs ++ cellsS st kv) := by
  induction k with
  | nil =>
    have := JSC.cons h (JSC.nil (s := s) (P := P))
    rw [List.append_nil] at this; exact this
  | cons h1 _ ih => rw [List.append_assoc]; exact .cons h1 ih

/-- inside a step -/
structure Ts (S0 : St) (R en bs : Nat) (S2 : St) (c : Cond) (kv : AV) (e0 : Env) (tm wi : Int) (r : Rd) (e : Env) (s : St) : Prop where
  inp : InR s R en r
  frm : Frm R S0 s
  tx : Tx r
  lt : S0.next ≤ bs ∧ R < S0.next
  hbs : s.get bs = some (.cells (cellsS ⟨c, tm, wi⟩ kv) 109 false 0 0)
  q5 : Env.get e 5 = .ptr R 0
  q7 : Env.get e 7 = .ptr bs 0
  q6 : Env.get e 6 = Env.get e0 6
  q2 : Env.get e 2 = Env.get e0 2
  hs : ∀ j x, S2.get j = some x → j ≠ R → j ≠ bs → s.get j = some x
  nx : S2.next ≤ s.next
/-! # The reference's loop over the steps -/

theorem ris_lt {w : Str} {r : Rd} {en : Nat} (h : (rtake en w r).bad < 0) : ris w r = true := by
  cases h2 : ris w r with
  | true => rfl
  | false =>
    unfold rtake at h
    rw [h2, Bool.not_false, br_true] at h
    have := rfail_nn en r
    omega
theorem sr_opt (en : Nat) (w : Str) (o : Int) (r : Rd) : (ropt en w o r).2.l <:+ r.l := by
  unfold ropt
  cases ris w r
  · exact List.suffix_refl _
  · exact (sr_num en _).trans (sr_take en w r)
/-- between two steps -/
structure Rs1 (S0 : St) (R en c6 lo : Nat) (s0 : St) (e0 : Env) (lines : Int) (L : List PS) (cs : List AV) (sv : AV) (r : Rd) (e : Env) (s : St) : Prop where
  inp : InR s R en r
  frm : Frm R S0 s
  tx : Tx r
  lt : S0.next ≤ c6 ∧ c6 < lo ∧ lo ≤ s.next ∧ R < S0.next
  hc6 : s.get c6 = some (.cells [.int .i64 lines, sv] 31 false 0 0)
  row : RowI s lo 109 9 L.length cs sv
  sc : JSC s (SP lo L.length sv) L cs
  q5 : Env.get e 5 = .ptr R 0
  q6 : Env.get e 6 = .ptr c6 0
  q2 : Env.get e 2 = Env.get e0 2
  hs : ∀ x c, s0.get x = some c → x ≠ R → x ≠ c6 → x < lo → s.get x = some c
/-! # The program's tokens, one after another -/

theorem rng9 {e : Env} {s : St} {k : Nat} {b : Str} (h : Env.get e k = .str b) : opA U (execL U) e (.range 9 (.tmp k)) s = some (.ptr s.next 0, s.new (.iter b 0)) := by
  have h9 : U.und 9 = some .string := by kernel_rfl
  simp only [opA, eval, h, h9]
theorem nxt0 {e : Env} {s : St} {k r pos : Nat} (h : Env.get e k = .ptr r 0) (hs : s.get r = some (.iter [] pos)) : opA U (execL U) e (.next (.tmp k) true) s = some (.tup [.bool false], s) := by
  simp only [opA, eval, h, hs]
theorem nxt1 {e : Env} {s : St} {k r pos : Nat} {c : UInt8} {b : Str} (h : Env.get e k = .ptr r 0) (hs : s.get r = some (.iter (c :: b) pos)) :
    opA U (execL U) e (.next (.tmp k) true) s = some (.tup [.bool true, .int .i64 pos, .int .i32 ((decodeL (c :: b)).1 : Nat)], s.put r (.iter ((c :: b).drop (decodeL (c :: b)).2) (pos + (decodeL (c :: b)).2))) := by
  simp only [opA, eval, h, hs]
theorem calv_y (l : Nat) (args : List AV) (s : St) : calv U (.fn (.yield l) [] []) args s = yieldA (execL U) l args s := rfl
theorem c1105n (n : Nat) : calV U 105 [.int .i32 (n : Int)] = some (.bool (isW n)) := by
  rw [c1105]
  unfold isW
  have e : ∀ m : Nat, decide ((n : Int) ≥ m) = decide (n ≥ m) := fun m => by
    have : ((n : Int) ≥ m) = (n ≥ m) := by apply propext; omega
    simp only [this]
  have e' : ∀ m : Nat, decide ((n : Int) ≤ m) = decide (n ≤ m) := fun m => by
    have : ((n : Int) ≤ m) = (n ≤ m) := by apply propext; omega
    simp only [this]
  have h1 := e 97
  have h2 := e' 122
  have h3 := e 48
  have h4 := e' 57
  simp only [Int.cast_ofNat_Int] at h1 h2 h3 h4
  rw [h1, h2, h3, h4]
theorem slrs {S : Str} {b i : Nat} (h : b ≤ i) (h' : i ≤ S.length) : slRS (.str S) (some (.int .i64 (b : Int))) (some (.int .i64 (i : Int))) = some (.str (slc S b i)) := by
  simp [slRS, boundA, h, h', slc]
theorem slrs_end {S : Str} {b : Nat} (h : b ≤ S.length) : slRS (.str S) (some (.int .i64 (b : Int))) none = some (.str (slc S b S.length)) := by
  simp [slRS, boundA, h, slc]
theorem ptk_len (S : Str) : ∀ (f i : Nat) (bg : Option Nat), (ptk S f i bg).length ≤ 2 * f
  | 0, i, bg => by simp [ptk]
  | f + 1, i, bg => by
    have hf : ∀ j, (flush S bg j).length ≤ 1 := fun j => by cases bg <;> simp [flush]
    rw [ptk]
    cases S.drop i with
    | nil => have := hf S.length; simp only [List.length_append, List.length_singleton]; omega
    | cons c l =>
      simp only
      cases isW (decodeL (c :: l)).1
      · have := hf i
        have := ptk_len S f (i + (decodeL (c :: l)).2) none
        simp only [br_false, List.length_append]
        cases (decodeL (c :: l)).1 == 32 || (decodeL (c :: l)).1 == 10
        · simp only [br_false, List.length_singleton]; omega
        · simp only [br_true, List.length_nil]; omega
      · have := ptk_len S f (i + (decodeL (c :: l)).2) (some (bg.getD i))
        rw [br_true]; omega
theorem decode_le (c : UInt8) (l : Str) : 1 ≤ (decodeL (c :: l)).2 ∧ (decodeL (c :: l)).2 ≤ (c :: l).length := by
  have h0 : 1 ≤ (c :: l).length := by simp
  generalize c :: l = m at *
  unfold decodeL
  simp only
  repeat' split
  all_goals simp only [Bool.and_eq_true, decide_eq_true_eq] at *
  all_goals omega
def bgI : Option Nat → Int
  | none => -1
  | some b => b
/-- what stands while the tokens are gone through -/
structure Lt (S : Str) (l a R B b it k0 : Nat) (ck : Blk) (env : Env) (f i : Nat) (bg : Option Nat) (T : List Tok) (e : Env) (s : St) : Prop where
  y : InY s l a R B env T
  e0 : Env.get e 0 = .fn (.yield l) [] []
  e1 : Env.get e 1 = .ptr b 0
  e3 : Env.get e 3 = .int .i64 (bgI bg)
  e7 : Env.get e 7 = .ptr it 0
  sb : s.get b = some (.cells [.str S] 9 false 0 0)
  si : s.get it = some (.iter (S.drop i) i)
  sk : s.get k0 = some ck
  bgo : ∀ x, bg = some x → x ≤ i ∧ x ≤ S.length
  fu : S.length < f + i
  ile : i ≤ S.length
  tk : T ++ ptk S f i bg = ptoks S
theorem ptoks_len (S : Str) : (ptoks S).length ≤ 2 * (S.length + 1) := ptk_len S _ 0 none
/-- one token more -/
theorem Lt.more {S : Str} {l a R B b it k0 : Nat} {ck : Blk} {env : Env} {T : List Tok} {s : St} (y : InY s l a R B env T) (hS : S.length ≤ 5000) (hbR : b ≠ R) (hiR : it ≠ R) {t : Tok} {U' : List Tok} (ht : T ++ t :: U' = ptoks S)
    (sb : s.get b = some (.cells [.str S] 9 false 0 0)) {x : Blk} (si : s.get it = some x) (hx : ∀ c, x ≠ .cells c 94 false 0 0) (hkR : k0 ≠ R) (hck : ∀ c, ck ≠ .cells c 94 false 0 0) (sk : s.get k0 = some ck) :
    ∃ s', yieldA (execL U) l [.agg [.int .i64 t.off, .str t.txt]] s = some (.bool true, s') ∧ InY s' l a R B env (T ++ [t]) ∧ s'.get b = some (.cells [.str S] 9 false 0 0) ∧ s'.get it = some x ∧ s.next ≤ s'.next ∧ s'.get k0 = some ck := by
  have hl := ptoks_len S
  rw [← ht] at hl
  have hlen : (T ++ [t]).length < 2 ^ 30 := by simp at hl ⊢; omega
  obtain ⟨s', h1, h2, h3, h4⟩ := y_round y t hlen
  have lt : ∀ j y, s.get j = some y → j < s.next := fun j z h => by
    rcases Nat.lt_or_ge j s.next with h5 | h5
    · exact h5
    · rw [y.fr j h5] at h; cases h
  exact ⟨s', h1, h2, h4 b _ (lt _ _ sb) hbR sb (by intro x h; cases h), h4 it _ (lt _ _ si) hiR si hx, h3, h4 k0 _ (lt _ _ sk) hkR sk hck⟩
theorem bg_lt (bg : Option Nat) : decide (bgI bg < 0) = bg.isNone := by
  cases bg
  · rfl
  · exact decide_eq_false (by simp only [bgI]; omega)
theorem bg_ge (bg : Option Nat) : decide (bgI bg ≥ 0) = bg.isSome := by
  cases bg
  · rfl
  · simp [bgI]
theorem l104 {β : Type} {fin : Fl → β} {ks : List K} {Post : β → Prop} {S : Str} {l a R B b it k0 : Nat} {ck : Blk} {env : Env} (hS : S.length ≤ 5000) (hbR : b ≠ R) (hiR : it ≠ R) (hbi : b ≠ it) (hil : it ≠ l) (hia : it ≠ a) (hiB : B ≤ it) (hkR : k0 ≠ R) (hki : it ≠ k0) (hck : ∀ c, ck ≠ .cells c 94 false 0 0)
    (hk : ∀ f i bg T e s, Lt S l a R B b it k0 ck env f i bg T e s → S.drop i = [] → Post (goN U fin ks e s)) {f i : Nat} {bg : Option Nat} {T : List Tok} {e : Env} {s : St} (h : Lt S l a R B b it k0 ck env f i bg T e s) :
    Post (goL U fin (.bk 0 :: ks) r1104_l0 e s) := by
  refine loop_ex (σ := Nat × Nat × Option Nat × List Tok) (fun x => x.1) (fun x e' s' => Lt S l a R B b it k0 ck env x.1 x.2.1 x.2.2.1 x.2.2.2 e' s') (f, i, bg, T) ?_ h
  rintro L ⟨f, i, bg, T⟩ e s ⟨y, e0, e1, e3, e7, sb, si, sk, bgo, fu, ile, tk⟩ ih
  simp only at y e3 si bgo fu ile tk
  cases hd : S.drop i with
  | nil =>
    rw [hd] at si
    have hn := nxt0 e7 si
    simp +contextual only [go_sem, ↓reduceIte, r1104_l0, hn]
    refine hk f i bg T _ _ ⟨y, ?_, ?_, ?_, ?_, sb, by rw [hd]; exact si, sk, bgo, fu, ile, tk⟩ hd
    all_goals simp +contextual only [go_sem, ↓reduceIte, e0, e1, e3, e7]
  | cons c m =>
    rw [hd] at si
    have hn := nxt1 e7 si
    have hi : i < S.length := by
      rcases Nat.lt_or_ge i S.length with h1 | h1
      · exact h1
      · rw [List.drop_eq_nil_of_le h1] at hd; cases hd
    obtain ⟨w1, w2⟩ := decode_le c m
    have hml : (c :: m).length = S.length - i := by rw [← hd, List.length_drop]
    obtain ⟨f, rfl⟩ : ∃ g, f = g + 1 := ⟨f - 1, by omega⟩
    rw [ptk, hd] at tk
    simp only at tk
    have hw := c1105n (decodeL (c :: m)).1
    have hdd : (c :: m).drop (decodeL (c :: m)).2 = S.drop (i + (decodeL (c :: m)).2) := by rw [← hd, List.drop_drop]
    have hio : (i + (decodeL (c :: m)).2 : Nat) ≤ S.length := by omega
    have yi : InY (s.put it (.iter (S.drop (i + (decodeL (c :: m)).2)) (i + (decodeL (c :: m)).2))) l a R B env T := by
      obtain ⟨q1, q2, q3, ⟨v, q4, q5⟩, q6, q7, q8⟩ := y
      have li : it < s.next := by
        rcases Nat.lt_or_ge it s.next with h5 | h5
        · exact h5
        · rw [q6 it h5] at si; cases si
      refine ⟨?_, q2, ?_, ⟨v, ?_, ?_⟩, q6.put li _, q7, q8⟩
      · rw [get_put, if_neg hil]; exact q1
      · rw [get_put, if_neg hia]; exact q3
      · rw [get_put, if_neg hiR]; exact q4
      · rcases q5 with q5 | ⟨k0, k1, bb, k2, k3, k4, k5⟩
        · exact .inl q5
        · refine .inr ⟨k0, k1, bb, k2, k3, k4, ?_⟩
          rw [get_put, if_neg ?_]
          · exact k5
          · rintro rfl
            rw [k5] at si; cases si
    rw [hdd] at hn
    generalize hr : (decodeL (c :: m)).1 = rn at *
    generalize hwd : (decodeL (c :: m)).2 = wd at *
    have sb2 : (s.put it (.iter (S.drop (i + wd)) (i + wd))).get b = some (.cells [.str S] 9 false 0 0) := by rw [get_put, if_neg (fun e => hbi e.symm)]; exact sb
    have si2 : (s.put it (.iter (S.drop (i + wd)) (i + wd))).get it = some (.iter (S.drop (i + wd)) (i + wd)) := by rw [get_put, if_pos rfl]
    have sk2 : (s.put it (.iter (S.drop (i + wd)) (i + wd))).get k0 = some ck := by rw [get_put, if_neg hki]; exact sk
    generalize s.put it (.iter (S.drop (i + wd)) (i + wd)) = s1 at *
    cases hiw : isW rn with
    | true =>
      rw [hiw] at hw
      rw [hiw, br_true] at tk
      cases bg with
      | none =>
        simp +contextual only [go_sem, ↓reduceIte, r1104_l0, hn, hw, e3, bg_lt, Option.isNone_none, br_true]
        refine ih (f, i + wd, some i, T) _ _ (by simp only; omega) ⟨yi, ?_, ?_, ?_, ?_, sb2, si2, sk2, fun x hx => ?_, by simp only; omega, hio, tk⟩
        rotate_right
        · cases hx; exact ⟨by simp only; omega, by omega⟩
        all_goals simp +contextual only [go_sem, ↓reduceIte, e0, e1, e3, e7]
        all_goals rfl
      | some b0 =>
        simp +contextual only [go_sem, ↓reduceIte, r1104_l0, hn, hw, e3, bg_lt, Option.isNone_some, br_false]
        refine ih (f, i + wd, some b0, T) _ _ (by simp only; omega) ⟨yi, ?_, ?_, ?_, ?_, sb2, si2, sk2, fun x hx => ?_, by simp only; omega, hio, tk⟩
        rotate_right
        · cases hx
          have := bgo b0 rfl
          exact ⟨by simp only; omega, this.2⟩
        all_goals simp +contextual only [go_sem, ↓reduceIte, e0, e1, e3, e7]
    | false =>
      rw [hiw] at hw
      rw [hiw, br_false] at tk
      have e32 : (((rn : Nat) : Int) == 32) = (rn == 32) := by
        rw [Bool.eq_iff_iff, beq_iff_eq, beq_iff_eq]; omega
      have e10 : (((rn : Nat) : Int) == 10) = (rn == 10) := by
        rw [Bool.eq_iff_iff, beq_iff_eq, beq_iff_eq]; omega
      have hw1 : IntKind.i64.wrap ((i : Int) + 1) = ((i + 1 : Nat) : Int) := by rw [wrap_i64 (by omega) (by omega)]; rfl
      have s3 := slrs (S := S) (b := i) (i := i + 1) (by omega) (by omega)
      have fin2 : ∀ (T' : List Tok) (s2 : St) (e' : Env), InY s2 l a R B env T' → s2.get b = some (.cells [.str S] 9 false 0 0) → s2.get it = some (.iter (S.drop (i + wd)) (i + wd)) → s2.get k0 = some ck → T' ++ ptk S f (i + wd) none = ptoks S →
          Env.get e' 0 = .fn (.yield l) [] [] → Env.get e' 1 = .ptr b 0 → Env.get e' 3 = .int .i64 (-1) → Env.get e' 7 = .ptr it 0 → Post (goL U fin (.bk 0 :: ks) L e' s2) := fun T' s2 e' y1 y2 y3 yk y4 y5 y6 y7 y8 =>
        ih (f, i + wd, none, T') _ _ (by simp only; omega) ⟨y1, y5, y6, y7, y8, y2, y3, yk, (fun x hx => by cases hx), by simp only; omega, hio, y4⟩
      cases bg with
      | none =>
        cases hsp : (rn == 32 || rn == 10) with
        | true =>
          rw [hsp] at tk
          rw [Bool.or_eq_true] at hsp
          rcases hsp with hsp | hsp
          · simp +contextual only [go_sem, ↓reduceIte, r1104_l0, hn, hw, e3, bg_ge, Option.isSome_none, br_false, e32, e10, hsp, br_true, gateV_false, gateR_false, gateC_false]
            refine fin2 T s1 _ yi sb2 si2 sk2 tk ?_ ?_ ?_ ?_
            all_goals simp +contextual only [go_sem, ↓reduceIte, e0, e1, e3, e7]
          · cases hsp2 : rn == 32
            · simp +contextual only [go_sem, ↓reduceIte, r1104_l0, hn, hw, e3, bg_ge, Option.isSome_none, br_false, e32, e10, hsp, hsp2, br_true, gateV_false, gateR_false, gateC_false]
              refine fin2 T s1 _ yi sb2 si2 sk2 tk ?_ ?_ ?_ ?_
              all_goals simp +contextual only [go_sem, ↓reduceIte, e0, e1, e3, e7]
            · simp +contextual only [go_sem, ↓reduceIte, r1104_l0, hn, hw, e3, bg_ge, Option.isSome_none, br_false, e32, e10, hsp, hsp2, br_true, gateV_false, gateR_false, gateC_false]
              refine fin2 T s1 _ yi sb2 si2 sk2 tk ?_ ?_ ?_ ?_
              all_goals simp +contextual only [go_sem, ↓reduceIte, e0, e1, e3, e7]
        | false =>
          rw [hsp] at tk
          rw [Bool.or_eq_false_iff] at hsp
          simp only [br_false, flush, List.nil_append, List.singleton_append] at tk
          obtain ⟨s4, y1, y2, y3, y4, y5, yk⟩ := Lt.more yi hS hbR hiR (t := ⟨i, slc S i (i + 1)⟩) tk sb2 si2 (by intro c h; cases h) hkR hck sk2
          simp +contextual only [go_sem, ↓reduceIte, r1104_l0, hn, hw, e0, e1, e3, bg_ge, Option.isSome_none, br_false, e32, e10, hsp.1, hsp.2, sb2, hw1, s3, calv_y, y1, gateV_false, gateR_false, gateC_false]
          refine fin2 _ s4 _ y2 y3 y4 yk (by rw [List.append_assoc]; exact tk) ?_ ?_ ?_ ?_
          all_goals simp +contextual only [go_sem, ↓reduceIte, e0, e1, e3, e7]
      | some b0 =>
        obtain ⟨bo1, bo2⟩ := bgo b0 rfl
        have s5 := slrs (S := S) (b := b0) (i := i) bo1 (by omega)
        simp only [flush] at tk
        rw [List.singleton_append] at tk
        obtain ⟨s6, x1, x2, x3, x4, x5, xk⟩ := Lt.more yi hS hbR hiR (t := ⟨b0, slc S b0 i⟩) tk sb2 si2 (by intro c h; cases h) hkR hck sk2
        have e3' : Env.get e 3 = .int .i64 (b0 : Int) := e3
        have hge : decide ((b0 : Int) ≥ 0) = true := decide_eq_true (by omega)
        have tk2 : (T ++ [⟨b0, slc S b0 i⟩]) ++ (br (rn == 32 || rn == 10) [] [⟨i, slc S i (i + 1)⟩] ++ ptk S f (i + wd) none) = ptoks S := by rw [List.append_assoc]; exact tk
        cases hsp : (rn == 32 || rn == 10) with
        | true =>
          rw [hsp] at tk2
          rw [Bool.or_eq_true] at hsp
          rcases hsp with hsp | hsp
          · simp +contextual only [go_sem, ↓reduceIte, r1104_l0, hn, hw, e0, e1, e3', hge, br_false, e32, e10, hsp, br_true, sb2, s5, calv_y, x1, gateV_true, gateR_true, gateC_true]
            refine fin2 _ s6 _ x2 x3 x4 xk tk2 ?_ ?_ ?_ ?_
            all_goals simp +contextual only [go_sem, ↓reduceIte, e0, e1, e3, e7]
          · cases hsp2 : rn == 32
            · simp +contextual only [go_sem, ↓reduceIte, r1104_l0, hn, hw, e0, e1, e3', hge, br_false, e32, e10, hsp, hsp2, br_true, sb2, s5, calv_y, x1, gateV_true, gateR_true, gateC_true]
              refine fin2 _ s6 _ x2 x3 x4 xk tk2 ?_ ?_ ?_ ?_
              all_goals simp +contextual only [go_sem, ↓reduceIte, e0, e1, e3, e7]
            · simp +contextual only [go_sem, ↓reduceIte, r1104_l0, hn, hw, e0, e1, e3', hge, br_false, e32, e10, hsp, hsp2, br_true, sb2, s5, calv_y, x1, gateV_true, gateR_true, gateC_true]
              refine fin2 _ s6 _ x2 x3 x4 xk tk2 ?_ ?_ ?_ ?_
              all_goals simp +contextual only [go_sem, ↓reduceIte, e0, e1, e3, e7]
        | false =>
          rw [hsp] at tk2
          rw [Bool.or_eq_false_iff] at hsp
          simp only [br_false, List.singleton_append] at tk2
          obtain ⟨s4, y1, y2, y3, y4, y5, yk⟩ := Lt.more x2 hS hbR hiR (t := ⟨i, slc S i (i + 1)⟩) tk2 x3 x4 (by intro c h; cases h) hkR hck xk
          simp +contextual only [go_sem, ↓reduceIte, r1104_l0, hn, hw, e0, e1, e3', hge, br_false, e32, e10, hsp.1, hsp.2, sb2, x3, hw1, s3, s5, calv_y, x1, y1, gateV_true, gateR_true, gateC_true]
          refine fin2 _ s4 _ y2 y3 y4 yk (by rw [List.append_assoc]; exact tk2) ?_ ?_ ?_ ?_
          all_goals simp +contextual only [go_sem, ↓reduceIte, e0, e1, e3, e7]
/-- all tokens handed over -/
theorem c1104 {S : Str} {l a R B b k0 : Nat} {ck : Blk} {env : Env} {s : St} (hkR : k0 ≠ R) (hck : ∀ c, ck ≠ .cells c 94 false 0 0) (sk : s.get k0 = some ck) (hS : S.length ≤ 5000) (y : InY s l a R B env []) (hbR : b ≠ R) (hB : B ≤ s.next) (sb : s.get b = some (.cells [.str S] 9 false 0 0)) :
    ∃ v s', cal U 104 [.fn (.yield l) [] [], .ptr b 0] s = some (v, s') ∧ InY s' l a R B env (ptoks S) ∧ s.next ≤ s'.next ∧ s'.get k0 = some ck := by
  refine kept_ex k1104 (by kernel_rfl) (Q := fun _ s' => InY s' l a R B env (ptoks S) ∧ s.next ≤ s'.next ∧ s'.get k0 = some ck) ?_
  obtain ⟨lt1, lt2, lt3, lt4, _⟩ := y.lt
  have lb : b < s.next := by
    rcases Nat.lt_or_ge b s.next with h5 | h5
    · exact h5
    · rw [y.fr b h5] at sb; cases sb
  have lk0 : k0 < s.next := by
    rcases Nat.lt_or_ge k0 s.next with h5 | h5
    · exact h5
    · rw [y.fr k0 h5] at sk; cases sk
  have hrg := @rng9 _ (k := 6) (b := S)
  simp +contextual only [go_sem, ↓reduceIte, r1104, sb, hrg]
  have y0 : InY (s.new (.iter S 0)) l a R B env [] := by
    obtain ⟨q1, q2, q3, ⟨v, q4, q5⟩, q6, q7, q8⟩ := y
    refine ⟨?_, q2, ?_, ⟨v, ?_, ?_⟩, q6.new _, ⟨q7.1, q7.2.1, q7.2.2.1, by rw [next_new]; omega, q7.2.2.2.2⟩, q8⟩
    · rw [get_new, if_neg (by omega)]; exact q1
    · rw [get_new, if_neg (by omega)]; exact q3
    · rw [get_new, if_neg (by omega)]; exact q4
    · exact q5.mono (by rw [next_new]; omega) fun j h1 h2 => by rw [get_new, if_neg (by omega)]
  refine l104 (it := s.next) (k0 := k0) (ck := ck) hS hbR (by omega) (by omega) (by omega) (by omega) hB hkR (by omega) hck (Post := okQ _) ?_ (f := S.length + 1) (i := 0) (bg := none) (T := []) ⟨y0, ?_, ?_, ?_, ?_, by rw [get_new, if_neg (by omega)]; exact sb, by rw [get_new, if_pos rfl]; rfl, by rw [get_new, if_neg (by omega)]; exact sk, (fun x hx => by cases hx), by omega, by omega, rfl⟩
  rotate_left
  · simp +contextual only [go_sem, ↓reduceIte]
  · simp +contextual only [go_sem, ↓reduceIte]
  · simp +contextual only [go_sem, ↓reduceIte]; rfl
  · simp +contextual only [go_sem, ↓reduceIte]
  rintro f i bg T e s1 ⟨y, e0, e1, e3, e7, sb, si, sk1, bgo, fu, ile, tk⟩ hd
  obtain ⟨f, rfl⟩ : ∃ g, f = g + 1 := ⟨f - 1, by omega⟩
  have hnx : s.next < s1.next := by
    rcases Nat.lt_or_ge s.next s1.next with h5 | h5
    · exact h5
    · rw [y.fr _ h5] at si; cases si
  rw [ptk, hd] at tk
  simp only at tk
  cases bg with
  | none =>
    simp only [flush, List.nil_append] at tk
    obtain ⟨s4, y1, y2, y3, y4, y5, yk⟩ := Lt.more y hS hbR (by omega : s.next ≠ R) (t := ⟨S.length, []⟩) tk sb si (by intro c h; cases h) hkR hck sk1
    simp +contextual only [go_sem, ↓reduceIte, e0, e1, e3, bg_ge, Option.isSome_none, br_false, sb, calv_y, y1, okQ_some, gateV_false, gateR_false, gateC_false]
    rw [← tk]
    exact ⟨y2, by omega, yk⟩
  | some b0 =>
    obtain ⟨bo1, bo2⟩ := bgo b0 rfl
    have s5 := slrs_end (S := S) (b := b0) bo2
    simp only [flush] at tk
    rw [List.singleton_append] at tk
    obtain ⟨s6, x1, x2, x3, x4, x5, xk⟩ := Lt.more y hS hbR (by omega : s.next ≠ R) (t := ⟨b0, slc S b0 S.length⟩) tk sb si (by intro c h; cases h) hkR hck sk1
    have tk2 : (T ++ [⟨b0, slc S b0 S.length⟩]) ++ [⟨S.length, []⟩] = ptoks S := by rw [List.append_assoc]; exact tk
    obtain ⟨s4, y1, y2, y3, y4, y5, yk⟩ := Lt.more x2 hS hbR (by omega : s.next ≠ R) (t := ⟨S.length, []⟩) tk2 x3 x4 (by intro c h; cases h) hkR hck xk
    have e3' : Env.get e 3 = .int .i64 (b0 : Int) := e3
    have hge : decide ((b0 : Int) ≥ 0) = true := decide_eq_true (by omega)
    simp +contextual only [go_sem, ↓reduceIte, e0, e1, e3', hge, br_false, sb, x3, s5, calv_y, x1, y1, okQ_some, gateV_true, gateR_true, gateC_true]
    rw [← tk2]
    exact ⟨y2, by omega, yk⟩
theorem l90 (lines depth : Int) (nl : Bool) (kids : List Cond) (f2 : kids.length < 2 ^ 30) (hc : ∀ x ∈ kids, calV U 97 [.int .i64 lines, encC x, .int .i64 (IntKind.i64.wrap (depth + 1))] = some (.int .i64 (ckP lines x (IntKind.i64.wrap (depth + 1)))))
    (err : Int) {e : Env} {s : St} (h0 : Env.get e 0 = .int .i64 lines) (h2 : Env.get e 2 = .int .i64 depth) (h10 : Env.get e 10 = .int .i64 err) (h141 : Env.get e 141 = encS nl (encL kids)) (h142 : Env.get e 142 = .int .i64 kids.length) (h143 : Env.get e 143 = .int .i64 0) {ks : List K}
    (hk : ∀ e' s' x, Env.get e' 10 = .int .i64 x → goX U (finP U [.tmp 6]) ks 0 e' s' = some (.int .i64 x)) :
    goL U (finP U [.tmp 6]) ks r90_l0 e s = some (.int .i64 (ckPL lines kids (IntKind.i64.wrap (depth + 1)) err)) := by
  refine loop_to (σ := Nat × Int) (fun x => kids.length - x.1) (fun x => some (AV.int .i64 (ckPL lines (kids.drop x.1) (IntKind.i64.wrap (depth + 1)) x.2))) (fun x e s => x.1 ≤ kids.length ∧ Env.get e 0 = .int .i64 lines ∧ Env.get e 2 = .int .i64 depth ∧ Env.get e 10 = .int .i64 x.2 ∧ Env.get e 141 = encS nl (encL kids) ∧ Env.get e 142 = .int .i64 kids.length ∧ Env.get e 143 = .int .i64 x.1) (0, err) ?_ rfl ⟨Nat.zero_le _, h0, h2, h10, h141, h142, h143⟩
  clear h0 h2 h10 h141 h142 h143 err e s
  rintro L ⟨i, err⟩ e s ⟨hi, h0, h2, h10, h141, h142, h143⟩ IH
  simp only at hi h0 h2 h10 h141 h142 h143 IH ⊢
  by_cases hd : i < kids.length
  · have hx : (encL kids)[i]? = some (encC kids[i]) := by rw [encL_get, List.getElem?_eq_getElem hd]; rfl
    have hw := wrap_succ hd (by omega)
    have hci := hc kids[i] (List.getElem_mem hd)
    rw [encC_cells] at hx hci
    simp only [Cond.cells] at hx hci
    rw [encS_ne (encL_ne hd)] at h141
    simp +contextual only [go_sem, ↓reduceIte, r90_l0, h0, h2, h10, h141, h142, h143, nat_lt_dec, hd, hx, hci, noAgg_encS]
    rw [List.drop_eq_getElem_cons hd, ckPL]
    cases hb : err == 0
    · simp only [go_sem, ↓reduceIte, hw]
      refine IH (i + 1, _) _ _ (by simp only; omega) ⟨by simp only; omega, ?_, ?_, ?_, ?_, ?_, ?_⟩ <;> simp +contextual only [go_sem, ↓reduceIte, h0, h2, h10, h141, h142, h143, hw, encS_ne (encL_ne hd)]
    · simp only [go_sem, ↓reduceIte, hw]
      refine IH (i + 1, _) _ _ (by simp only; omega) ⟨by simp only; omega, ?_, ?_, ?_, ?_, ?_, ?_⟩ <;> simp +contextual only [go_sem, ↓reduceIte, h0, h2, h10, h141, h142, h143, hw, encS_ne (encL_ne hd)]
  · have : i = kids.length := by omega
    subst this
    simp +contextual only [go_sem, ↓reduceIte, r90_l0, h142, h143, nat_lt_dec, Nat.lt_irrefl]
    rw [List.drop_length, ckPL]
    exact hk _ _ _ (by simp +contextual only [go_sem, ↓reduceIte, h10])
theorem c90 (lines : Int) : ∀ c : Cond, c.fits → ∀ depth : Int, calV U 97 [.int .i64 lines, encC c, .int .i64 depth] = some (.int .i64 (ckP lines c depth)) := by
  intro c
  induction c using Cond.ind with
  | h kind a b mi ma pat nl kids ih =>
  intro hf depth
  rw [Cond.fits] at hf
  obtain ⟨f1, f2, f3⟩ := hf
  refine pure_go k90 (by kernel_rfl) (stills1 _ _ _) ?_
  have h157 := c157 (kdOf kind) kind a b mi ma pat nl kids
  have hs : stills [kSize (kdOf kind), kStart (kdOf kind), kStep (kdOf kind)] = true := by cases kdOf kind <;> rfl
  have hn : noAgg (kSize (kdOf kind)) = true ∧ noAgg (kStart (kdOf kind)) = true ∧ noAgg (kStep (kdOf kind)) = true := by cases kdOf kind <;> exact ⟨rfl, rfl, rfl⟩
  obtain ⟨n1, n2, n3⟩ := hn
  have hk1 := lookup_kinds1 kind
  rw [kindV] at h157 hk1
  rw [encC] at h157 ⊢
  rw [ckP]
  generalize kSize (kdOf kind) = A1 at *
  generalize kStart (kdOf kind) = A2 at *
  generalize kStep (kdOf kind) = A3 at *
  generalize hu : usesOf (kdOf kind) = u at *
  generalize hk : (kdOf kind).known = kn at *
  simp (config := { maxSteps := 4000000 }) +contextual only [go_sem, ↓reduceIte, r90, c156, hk1, h157, c116, c124, c158 _ _ f1, z89, cz89_2, cz89_7, lenL_encS, encL_len, n1, n2, n3, noAgg_encS, cells_encS, br_tt]
  obtain ⟨ua, ub, umi, uma, up, uk⟩ := u
  simp only
  cases up
  · simp only [br_true, br_false, brI_some]
    refine br_r fun _ => br_r fun _ => ?_
    cases hnot : kind == [110, 111, 116]
    all_goals
      simp only [go_sem, ↓reduceIte, br_true, br_false]
      refine l90 lines depth nl kids f2 (fun x hx => ih x hx (f3 x hx) _) _ ?_ ?_ ?_ ?_ ?_ ?_ ?_
      rotate_right 1
      · intro e' s' x h
        simp +contextual only [go_sem, ↓reduceIte, h]
      all_goals simp +contextual only [go_sem, ↓reduceIte, lenL_encS, encL_len]
      all_goals try rfl
  · simp only [br_true, br_false, brI_some]
    refine br_r fun _ => br_r fun _ => ?_
    cases hnot : kind == [110, 111, 116]
    all_goals
      simp only [go_sem, ↓reduceIte, br_true, br_false]
      refine l90 lines depth nl kids f2 (fun x hx => ih x hx (f3 x hx) _) _ ?_ ?_ ?_ ?_ ?_ ?_ ?_
      rotate_right 1
      · intro e' s' x h
        simp +contextual only [go_sem, ↓reduceIte, h]
      all_goals simp +contextual only [go_sem, ↓reduceIte, lenL_encS, encL_len]
      all_goals try rfl
def cpPL (lines : Int) : Nat → List Step → Int
  | _, [] => 0
  | i, s :: l => br (firstOf [ckP lines s.cond 1, within s.times 1 64, within s.within 0 255, br ((i : Int) == 0 && s.within != 0) 3 0] != 0) (firstOf [ckP lines s.cond 1, within s.times 1 64, within s.within 0 255, br ((i : Int) == 0 && s.within != 0) 3 0]) <| cpPL lines (i + 1) l
def cpP (p : Prog) : Int :=
  br (firstOf [within p.lines 1 16, br ((p.steps.length : Int) == 0) 12 0, br (decide ((p.steps.length : Int) > 8)) 5 0] != 0) (firstOf [within p.lines 1 16, br ((p.steps.length : Int) == 0) 12 0, br (decide ((p.steps.length : Int) > 8)) 5 0]) <| cpPL p.lines 0 p.steps
theorem get8 {s : St} (h : 8 < s.next) : (∀ k, (s.next + k = 8) = False) ∧ (s.next = 8) = False := ⟨fun k => by simp; omega, by simp; omega⟩

theorem c64 (p : Prog) (hf : p.fits) : calV U 47 [encP p] = some (.int .i64 (cpP p)) := by
  obtain ⟨lines, nl, steps⟩ := p
  obtain ⟨f1, f2⟩ := hf
  simp only at f1 f2
  refine pure_go k64 (by kernel_rfl) (by simp [stills, still_encP]) ?_
  rw [encP_eq, cpP]
  simp (config := { maxSteps := 2000000 }) +contextual only [go_sem, ↓reduceIte, r64, c88, c116, z89, cz89_3, lenL_encS, encSteps_len, cells_encS, noAgg_encS]
  simp only [brI_some]
  refine br_r fun _ => ?_
  refine loop_to (σ := Nat) (fun i => steps.length - i) (fun i => some (AV.int .i64 (cpPL lines i (steps.drop i)))) (fun i e s => i ≤ steps.length ∧ Env.get e 28 = .int .i64 i ∧ Env.get e 1 = .ptr 8 0 ∧ Env.get e 26 = encS nl (encSteps steps) ∧ Env.get e 27 = .int .i64 steps.length ∧ 8 < s.next ∧ Fr s ∧
    s.get 8 = some (.cells [.int .i64 lines, encS nl (encSteps steps)] 25 false 0 0)) 0 ?_ rfl ?_
  · rintro L i e s ⟨hi, h28, h1, h26, h27, hn, hfr, hs⟩ IH
    by_cases hd : i < steps.length
    · have hx : (encSteps steps)[i]? = some (encStep steps[i]) := by rw [encSteps_get, List.getElem?_eq_getElem hd]; rfl
      have hw := wrap_succ hd (by omega)
      obtain ⟨g8, g8'⟩ := get8 hn
      have hc := c90 lines steps[i].cond (f2 _ (List.getElem_mem hd)) 1
      rw [encS_ne (encSteps_ne hd)] at hs h26
      rw [encC_cells] at hc
      simp only [Cond.cells, encStep] at hx hc
      have hfk := hfr.at
      simp +contextual only [go_sem, ↓reduceIte, r64_l0, h28, h1, h26, h27, hs, nat_lt_dec, hd, encSteps_len, hx, hc, g8, g8', noAgg_encS, c124, c116, z89, cz89_4, hfk, Nat.add_assoc, Nat.left_eq_add]
      rw [List.drop_eq_getElem_cons hd, cpPL]
      simp only [brI_some]
      refine br_r fun _ => ?_
      simp only [hw]
      refine IH (i + 1) _ _ (by omega) ⟨by omega, ?_, ?_, ?_, ?_, ?_, ?_, ?_⟩
      case refine_6 =>
        repeat first | exact hfr | apply Fr.new | apply Fr.put | apply Fr.upto
        all_goals simp +contextual only [go_sem, ↓reduceIte]
        all_goals omega
      all_goals simp +contextual only [go_sem, ↓reduceIte, h28, h1, h26, h27, hs, hw, g8, g8', encS_ne (encSteps_ne hd)]
      all_goals omega
    · have : i = steps.length := by omega
      subst this
      simp +contextual only [go_sem, ↓reduceIte, r64_l0, h28, h27, nat_lt_dec, Nat.lt_irrefl]
      rw [List.drop_length, cpPL]
  · refine ⟨Nat.zero_le _, ?_, ?_, ?_, ?_, ?_, ?_, ?_⟩
    case refine_6 =>
      repeat first | exact Fr.own | apply Fr.new | apply Fr.put | apply Fr.upto
      all_goals simp +contextual only [go_sem, ↓reduceIte]
    all_goals simp +contextual only [go_sem, ↓reduceIte]
    all_goals rfl
/-! # Parse -/

theorem fits_flds {k : Str} {u : Uses} {r : Rd} (gd : Gd r) : (pflds k u r).1.fits := by
  simp only [pflds, Cond.fits]
  refine ⟨?_, by simp, by simp⟩
  have g4 := (((gd.sf (sf_numIf u.a r)).sf (sf_numIf u.b _)).sf (sf_numIf u.mi _)).sf (sf_numIf u.ma _)
  unfold pwordIf
  cases u.pat
  · show ([] : Str).length < _; simp
  · show (pword _).1.length < _
    unfold pword
    split
    · simp
    · rename_i c l e
      cases !letter c
      · simp only [br_false]; have := g4.pk; omega
      · simp [br]
theorem fits_withK {c : Cond} {l : List Cond} (h1 : c.fits) (h2 : l.length < 2 ^ 30) (h3 : ∀ x ∈ l, x.fits) : (withK c l).fits := by
  cases c
  simp only [withK, Cond.fits, Cond.pat] at *
  exact ⟨h1.1, h2, h3⟩
theorem pfits : ∀ n : Nat, n < 2 ^ 29 → (∀ r, Gd r → (pcond n r).1.fits) ∧ (∀ nt r, Gd r → (pkids n nt r).1.length ≤ n ∧ ∀ x ∈ (pkids n nt r).1, x.fits)
  | 0, _ => ⟨fun r _ => by rw [pcond]; simp [C0, Cond.fits], fun nt r _ => by rw [pkids]; simp⟩
  | n + 1, hn => by
    obtain ⟨ih1, ih2⟩ := pfits n (by omega)
    have hC : C0.fits := by simp [C0, Cond.fits]
    refine ⟨fun r gd => ?_, fun nt r gd => ?_⟩
    · rw [pcond]
      cases (kdOf r.pk).known
      · exact hC
      simp only [Bool.not_true, br_false]
      cases decide (r.bad ≥ 0)
      · simp only [br_false]
        have hf := fits_flds (k := r.pk) (u := usesOf (kdOf r.pk)) (gd.sf (sf_nx r))
        cases (usesOf (kdOf r.pk)).kids
        · exact hf
        · simp only [Bool.not_true, br_false]
          have := ih2 (r.pk == sNot) (ptake [40] (pflds r.pk (usesOf (kdOf r.pk)) r.nx).2) (((gd.sf (sf_nx r)).sf (sf_flds _ _ _)).sf (sf_take _ _))
          exact fits_withK hf (by omega) this.2
      · exact hC
    · rw [pkids]
      cases decide (r.bad ≥ 0)
      · simp only [br_false]
        have h1 := ih1 r gd
        cases nt || (pcond n r).2.pk != [44]
        · have h2 := ih2 nt (pcond n r).2.nx ((gd.sf ((sf_cond n).1 r)).sf (sf_nx _))
          simp only [br_false, List.length_cons]
          refine ⟨by omega, fun x hx => ?_⟩
          rcases List.mem_cons.1 hx with rfl | hx
          · exact h1
          · exact h2.2 x hx
        · simp only [br_true, List.length_singleton, List.mem_singleton]
          exact ⟨by omega, fun x hx => by rw [hx]; exact h1⟩
      · simp [br_true]
theorem psteps_fits {N : Nat} (hN : N < 2 ^ 29) : ∀ (m : Nat) (r : Rd), Gd r → (psteps N m r).1.length ≤ m ∧ ∀ p ∈ (psteps N m r).1, p.cond.fits
  | 0, r, _ => by simp [psteps]
  | m + 1, r, gd => by
    rw [psteps]
    cases h1 : decide (r.bad ≥ 0) with
    | true => rw [br_true]; simp
    | false =>
      simp only [br_false]
      cases h2 : ((ptake [59] r).pk == [] || decide ((ptake [59] r).bad ≥ 0)) with
      | true => rw [br_true]; simp
      | false =>
        have g1 := gd.sf (sf_take [59] r)
        have hc := (pfits N hN).1 _ g1
        have := psteps_fits hN m (popt sWithin 0 (popt sTimes 1 (pcond N (ptake [59] r)).2).2).2 (((g1.sf ((sf_cond N).1 _)).sf (sf_opt _ _ _)).sf (sf_opt _ _ _))
        simp only [br_false, List.length_cons]
        refine ⟨by omega, fun x hx => ?_⟩
        rcases List.mem_cons.1 hx with rfl | hx
        · exact hc
        · exact this.2 x hx
theorem c1045 {S : Str} {s : St} : cal U 45 [.str S] s = some (.fn (.func 104) [] [.ptr s.next 0], s.new (.cells [.str S] 9 false 0 0)) := by
  refine kept_go k1045 (by kernel_rfl) ?_
  simp +contextual only [go_sem, ↓reduceIte, r1045]
/-- the loop over the tokens -/
theorem rf9 {S : Str} {e : Env} {s : St} {a R b : Nat} (hS : S.length ≤ 5000) (e16 : Env.get e 16 = .fn (.func 104) [] [.ptr b 0]) (e5 : Env.get e 5 = .ptr a 0) (sa : s.get a = some (.cells [.ptr R 0] 86 false 0 0))
    (sR : s.get R = some (.cells [.nils, .int .i64 (-1)] 89 false 0 0)) (sb : s.get b = some (.cells [.str S] 9 false 0 0)) (fr : Fr s) (haR : a ≠ R) (hbR : b ≠ R) {k0 : Nat} {ck : Blk} (hkR : k0 ≠ R) (hck : ∀ c, ck ≠ .cells c 94 false 0 0) (sk : s.get k0 = some ck) :
    ∃ s', execL U q1009_0 e s = some (.norm, e, s') ∧ (∃ B, InP s' R B ⟨ptoks S, -1⟩) ∧ Fr s' ∧ s.next ≤ s'.next ∧ s'.get a = some (.cells [.ptr R 0] 86 false 0 0) ∧ s'.get k0 = some ck := by
  have la := st_lt fr sa
  have lR := st_lt fr sR
  have lb := st_lt fr sb
  have lk := st_lt fr sk
  have y : InY (s.new (.loop 0 none e [17] (rfA q1009_0) (rfB q1009_0))) s.next a R (s.next + 1) e [] :=
    ⟨by rw [get_new, if_pos rfl], e5, by rw [get_new, if_neg (by omega)]; exact sa, ⟨.nils, by rw [get_new, if_neg (by omega)]; exact sR, RowI.nil _ _ _ _⟩, fr.new _, ⟨by omega, by omega, by omega, by rw [next_new]; omega, haR, by omega, by omega⟩, by simp⟩
  obtain ⟨v, s', h1, h2, h3, h4⟩ := c1104 hkR hck (show (s.new (.loop 0 none e [17] (rfA q1009_0) (rfB q1009_0))).get k0 = some ck by rw [get_new, if_neg (by omega)]; exact sk) hS y hbR (by rw [next_new]; omega) (by rw [get_new, if_neg (by omega)]; exact sb)
  obtain ⟨w1, w2, w3, ⟨vl, w4, w5⟩, w6, w7, w8⟩ := h2
  rw [next_new] at h3
  have hx : (U.ext 104).isNone = true := by rw [U_ext]; rfl
  refine ⟨s'.put s.next .gone, ?_, ?_, w6.put (by omega) _, by rw [next_put]; omega, by rw [get_put, if_neg (by omega)]; exact w3, by rw [get_put, if_neg (by omega)]; exact h4⟩
  · rw [execL_eq, q1009_0_eq]
    simp only [stepA, eval, e16, hx, if_true, List.nil_append]
    have h1' : callF U (execL U) 104 ([AV.fn (.yield s.next) [] []] ++ [AV.ptr b 0]) (s.new (.loop 0 none e #[17].toList (rfA q1009_0) (rfB q1009_0))) = some (v, s') := h1
    rw [h1']
    simp only [w1, endLoopA]
    rfl
  · have hlen := ptoks_len S
    have hne := (ptoks_gd S hS (-1)).ne
    rcases w5 with ⟨h0, _, _⟩ | ⟨h0, k1, bb, k2, k3, rfl, k5⟩
    · exact absurd (List.length_eq_zero_iff.1 h0) hne
    · exact ⟨bb, ⟨[], by rw [get_put, if_neg (by omega)]; exact w4, by rw [get_put, if_neg (by omega)]; exact k5⟩, hne, by omega, by rw [next_put]; omega, by rw [next_put]; omega, by show (ptoks S).length < 2 ^ 30; omega⟩
/-! # Parse, the program's -/

def P0 : Prog := ⟨0, true, []⟩
/-- what Parse answers where the tokens lie in hand -/
def pprog (N m : Nat) (r : Rd) : Prog := ⟨(plines r).1, true, (psteps N m (plines r).2).1.map PS.st⟩
def pans (N m : Nat) (r : Rd) : Prog × Int × Int :=
  br (decide ((psteps N m (plines r).2).2.bad ≥ 0)) (P0, (psteps N m (plines r).2).2.bad, 25) <| br (cpP (pprog N m r) != 0) (P0, 0, cpP (pprog N m r)) (pprog N m r, 0, 0)
def encPA (x : Prog × Int × Int) : AV := .tup [encP x.1, .int .i64 x.2.1, .int .i64 x.2.2]
theorem encPS_eq : ∀ l : List PS, encPS l = encSteps (l.map PS.st)
  | [] => by rfl
  | p :: l => by show _ :: encPS l = _ :: encSteps (l.map PS.st); rw [encPS_eq l]
theorem encP_pr (lines : Int) (L : List PS) : encP ⟨lines, true, L.map PS.st⟩ = .agg [.int .i64 lines, encS true (encPS L)] := by rw [encP_eq, encPS_eq]
theorem call47 {s : St} {P : Nat → Prop} {D : Nat} {L : List PS} {sv : AV} {lines : Int} (k : StK s P L sv) (hn : ∀ p ∈ L, okPS D p) (hd : 2 * D + 3 ≤ 4000) (hf : (Prog.mk lines true (L.map PS.st)).fits) :
    callK U (calV U 47 [.agg [.int .i64 lines, sv]]) 47 [.agg [.int .i64 lines, sv]] s = some (.int .i64 (cpP ⟨lines, true, L.map PS.st⟩), s) := by
  have h := c64 _ hf
  rw [encP_pr] at h
  rcases k with ⟨rfl, rfl⟩ | ⟨b, cs, h1, rfl, h3, h4, h5⟩
  · rw [ck]
    exact calV_eq h s
  · have hz := frzSt (d := 3999) (.inr ⟨b, cs, h1, rfl, h3, h4, h5⟩ : StK s P L _) hn (by omega)
    rw [z_of (by kernel_rfl) s (by simp [stills, still])]
    have : mapO (frz U s 4000) [AV.agg [.int .i64 lines, .sl b 0 L.length none 9]] = some [.agg [.int .i64 lines, encS true (encPS L)]] := by
      have e : frz U s 4000 (AV.agg [.int .i64 lines, .sl b 0 L.length none 9]) = (match mapO (frz U s 3999) [.int .i64 lines, .sl b 0 L.length none 9] with | some cs' => some (AV.agg cs') | none => none) := rfl
      rw [mapO_cons, mapO_nil, e, mapO_cons, mapO_cons, mapO_nil, hz]
      rfl
    rw [this]
    exact cz_of h (by kernel_rfl) (by rw [← encP_pr]; simp [stills, still_encP]) rfl s
theorem sf_plines (r : Rd) : Sf r (plines r).2 := by
  unfold plines
  cases decide ((ptake sLines r).bad < 0)
  · exact sf_take _ r
  · exact (sf_take _ r).trans (sf_num _)
theorem c1009 {S : Str} (hS : S.length ≤ 300) : calV U 9 [.str S] = some (encPA (pans 1300 700 ⟨ptoks S, -1⟩)) := by
  refine pure_go k1009 (by kernel_rfl) rfl ?_
  have hl : decide ((S.length : Int) > 4096) = false := decide_eq_false (by omega)
  have hck := ck 45 [.str S]
  simp (config := { maxSteps := 2000000 }) +contextual only [go_sem, ↓reduceIte, r1009, hl, hck, c1045]
  refine raw_step (Post := fun x => x = some (encPA (pans 1300 700 ⟨ptoks S, -1⟩))) (Q := fun e' s' => (Env.get e' 5 = .ptr 10 0 ∧ Env.get e' 2 = .ptr 8 0) ∧ (∃ B, InP s' 9 B ⟨ptoks S, -1⟩) ∧ Fr s' ∧ 12 ≤ s'.next ∧ s'.get 10 = some (.cells [.ptr 9 0] 86 false 0 0) ∧ s'.get 8 = some (.cells [.int .i64 0, .nils] 25 false 0 0)) ?_ ?_
  · obtain ⟨s', h1, h2, h3, h4, h5, h6⟩ := rf9 (S := S) (a := 10) (R := 9) (b := 11) (k0 := 8) (ck := .cells [.int .i64 0, .nils] 25 false 0 0)
      (e := ((((((((((((((Tr.nil.set 0 (AV.str S)).set 2 (AV.ptr 8 0)).set 3 (AV.int IntKind.i64 0)).set 4 (AV.int IntKind.i64 0)).set 9 (AV.str S)).set 10 (AV.int IntKind.i64 ↑(List.length S))).set 11 (AV.bool false)).set 11 (AV.bool false)).set 13 (AV.agg [AV.nils, AV.int IntKind.i64 (-1)])).set 14 (AV.ptr 9 0)).set 5 (AV.ptr 10 0)).set 15 (AV.str S)).set 16 (AV.fn (Fn.func 104) [] [AV.ptr 11 0])) : Env))
      (s := ((((((ownSt U).new (Blk.cells [AV.int IntKind.i64 0, AV.nils] 25 false 0 0)).new (Blk.cells [AV.nils, AV.int IntKind.i64 (-1)] 89 false 0 0)).new (Blk.cells [AV.nilp] 86 false 0 0)).put 10 (Blk.cells [AV.ptr 9 0] 86 false 0 0)).new (Blk.cells [AV.str S] 9 false 0 0)))
      (by omega) (by simp +contextual only [go_sem, ↓reduceIte]) (by simp +contextual only [go_sem, ↓reduceIte]) (by simp +contextual only [go_sem, ↓reduceIte]) (by simp +contextual only [go_sem, ↓reduceIte]) (by simp +contextual only [go_sem, ↓reduceIte]) (by (repeat (first | exact Fr.own | apply Fr.new | apply Fr.put)) <;> simp +contextual only [go_sem, ↓reduceIte] <;> omega) (by omega) (by omega) (by omega) (by intro c h; cases h) (by simp +contextual only [go_sem, ↓reduceIte])
    exact ⟨_, s', h1, ⟨by simp +contextual only [go_sem, ↓reduceIte], by simp +contextual only [go_sem, ↓reduceIte]⟩, h2, h3, h4, h5, h6⟩
  rintro e' s1 ⟨⟨e5, e2⟩, ⟨B, inp⟩, fr1, n1, g10, g8⟩
  have gd := ptoks_gd S (by omega) (-1)
  have hlen := ptoks_len S
  obtain ⟨v, s2, p1, ⟨sv, rfl, st2⟩, inp2, frm2⟩ := c1046 (N := 1300) (m := 700) inp fr1 gd (by show (ptoks S).length < 700; omega) (by show 2 * (ptoks S).length + 1 ≤ 1300; omega) (by show (ptoks S).length ≤ 2 ^ 19; omega)
  have hna := st2.noAgg
  have hcl := st2.cells
  have h10 := (frm2.get 10 (by omega) (by omega)).trans g10
  have h8 := (frm2.get 8 (by omega) (by omega)).trans g8
  obtain ⟨pre, hR, _⟩ := inp2.ex
  have n2 := frm2.next
  obtain ⟨g8', g8''⟩ := get8 (s := s2) (by omega)
  have m9 : (s2.next = 9) = False := eq_false (by omega)
  have m10 : (s2.next = 10) = False := eq_false (by omega)
  have fr2 := frm2.fr
  have hfk := fr2.at
  cases hb : decide ((psteps 1300 700 (plines ⟨ptoks S, -1⟩).2).2.bad ≥ 0) with
  | true =>
    have hA : pans 1300 700 ⟨ptoks S, -1⟩ = (P0, (psteps 1300 700 (plines ⟨ptoks S, -1⟩).2).2.bad, 25) := by rw [pans, hb, br_true]
    rw [hA]
    simp (config := { maxSteps := 2000000 }) +contextual only [go_sem, ↓reduceIte, e5, e2, ck, p1, g10, h10, h8, hna, hcl, hR, g8', g8'', m9, m10, hb, go_drcU d1009_1, hfk]
    rfl
  | false =>
    have ok := psteps_ok 1300 700 (plines ⟨ptoks S, -1⟩).2
    have hfit : (pprog 1300 700 ⟨ptoks S, -1⟩).fits := by
      have := psteps_fits (N := 1300) (by omega) 700 (plines ⟨ptoks S, -1⟩).2 (gd.sf (sf_plines _))
      refine ⟨by show (List.map PS.st _).length < 2 ^ 30; rw [List.length_map]; omega, fun x hx => ?_⟩
      obtain ⟨p, h1, rfl⟩ := List.mem_map.1 hx
      exact this.2 p h1
    have st3 : StK ((s2.new (.cells [.int .i64 0, .nils] 25 false 0 0)).put s2.next (.cells [.int .i64 (plines ⟨ptoks S, -1⟩).1, sv] 25 false 0 0)) (fun _ => True) (psteps 1300 700 (plines ⟨ptoks S, -1⟩).2).1 sv :=
      st2.mono fun j c _ h => ⟨trivial, by rw [get_put, if_neg (by have := st_lt fr2 h; omega), get_new, if_neg (by have := st_lt fr2 h; omega)]; exact h⟩
    have hc := call47 st3 ok (by omega) hfit
    have st4 : StK (((s2.new (.cells [.int .i64 0, .nils] 25 false 0 0)).put s2.next (.cells [.int .i64 (plines ⟨ptoks S, -1⟩).1, sv] 25 false 0 0)).put 8 (.cells [.int .i64 (plines ⟨ptoks S, -1⟩).1, sv] 25 false 0 0)) (fun _ => True) (psteps 1300 700 (plines ⟨ptoks S, -1⟩).2).1 sv :=
      st2.mono fun j c hj h => ⟨trivial, by rw [get_put, if_neg (by omega), get_put, if_neg (by have := st_lt fr2 h; omega), get_new, if_neg (by have := st_lt fr2 h; omega)]; exact h⟩
    have hz := frzSt (d := 3998) st4 ok (by omega)
    simp (config := { maxSteps := 2000000 }) +contextual only [go_sem, ↓reduceIte, e5, e2, ck, p1, g10, h10, h8, hna, hcl, hR, g8', g8'', m9, m10, hb, hfk, hc, hz]
    rw [pans, hb, br_false]
    unfold pprog
    cases cpP ⟨(plines ⟨ptoks S, -1⟩).1, true, (psteps 1300 700 (plines ⟨ptoks S, -1⟩).2).1.map PS.st⟩ != 0
    · simp only [br_false, encPA, encP_pr]
    · rfl
/-! # What the reference read, written out -/

theorem agJ : isAggT U 106 = some true := by kernel_rfl
theorem szJ : size U 106 = some 7 := by kernel_rfl
theorem ag109 : isAggT U 109 = some true := by kernel_rfl
theorem sz109 : size U 109 = some 9 := by kernel_rfl
def StJ (s : St) (P : Nat → Prop) (L : List PS) (sv : AV) : Prop := (L = [] ∧ sv = .nils) ∨ ∃ b cs, L ≠ [] ∧ sv = .sl b 0 L.length none 9 ∧ P b ∧ s.get b = some (.cells cs 109 false 0 0) ∧ JSC s P L cs
theorem StJ.mono {s s' : St} {P P' : Nat → Prop} (h : ∀ j c, P j → s.get j = some c → P' j ∧ s'.get j = some c) {L : List PS} {sv : AV} (k : StJ s P L sv) : StJ s' P' L sv := by
  rcases k with q | ⟨b, cs, h1, h2, h3, h4, h5⟩
  · exact .inl q
  · exact .inr ⟨b, cs, h1, h2, (h b _ h3 h4).1, (h b _ h3 h4).2, h5.mono h⟩
theorem StJ.noAgg {s : St} {P : Nat → Prop} {L : List PS} {sv : AV} (k : StJ s P L sv) : Go.Am.noAgg sv = true := by
  rcases k with ⟨_, rfl⟩ | ⟨b, cs, _, rfl, _⟩ <;> rfl
theorem StJ.cells {s : St} {P : Nat → Prop} {L : List PS} {sv : AV} (k : StJ s P L sv) : sv.cells = [sv] := by
  rcases k with ⟨_, rfl⟩ | ⟨b, cs, _, rfl, _⟩ <;> rfl
theorem JSC.len {s : St} {P : Nat → Prop} {l : List PS} {cs : List AV} (k : JSC s P l cs) : cs.length = l.length * 9 := by
  induction k with
  | nil => rfl
  | cons _ _ ih => rw [List.length_append, ih, List.length_cons]; simp [cellsS, cellsC]; omega
end Go.Am
