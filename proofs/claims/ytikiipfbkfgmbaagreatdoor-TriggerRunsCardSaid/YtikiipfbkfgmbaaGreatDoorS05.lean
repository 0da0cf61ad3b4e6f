/- A part of the proof of a statement of this seat: the machine on which the program is read, and what it computes; for every input. -/
import Derived.Test.YtikiipfbkfgmbaaGreatDoorS04
set_option linter.all false
namespace Go.Am
open Go
variable [MaxLen]
set_option maxRecDepth 100000
set_option maxHeartbeats 4000000

/-! # Automata in order, and their runs -/
structure Auto.ok (a : Auto) : Prop where
  lines : 1 ≤ a.lines ∧ a.lines ≤ 4
  pos : 0 < a.next.length
  few : a.next.length ≤ 256
  fl : a.fires.length = a.next.length
  row : ∀ i (h : i < a.next.length), a.next[i].2.length = 2 ^ a.lines.toNat ∧ ∀ x ∈ a.next[i].2, 0 ≤ x ∧ x < (a.next.length : Int)
  frow : ∀ i (h : i < a.fires.length), a.fires[i].2.length = 2 ^ a.lines.toNat
theorem mOf_nat (n : Int) : mOf n = ((2 ^ n.toNat : Nat) : Int) := by unfold mOf; simp
theorem ckRows_zero {m : Nat} {n : Int} : ∀ {l : List (Bool × List Int)} {f : List (Bool × List Bool)}, l.length = f.length → ckRows m n l f = 0 →
    (∀ i (h : i < l.length), l[i].2.length = m ∧ ∀ x ∈ l[i].2, 0 ≤ x ∧ x < n) ∧ ∀ i (h : i < f.length), f[i].2.length = m
  | [], f, hl, _ => by
    have : f = [] := List.length_eq_zero_iff.1 hl.symm
    subst this
    exact ⟨fun i h => by simp at h, fun i h => by simp at h⟩
  | r :: l, [], hl, _ => by simp at hl
  | r :: l, g :: f, hl, h => by
    rw [ckRows] at h
    obtain ⟨h1, h⟩ := br_zeroH h (by decide)
    obtain ⟨h2, h⟩ := br_zeroH h (by decide)
    obtain ⟨i1, i2⟩ := ckRows_zero (by simpa using hl) h
    rw [Bool.or_eq_false_iff] at h1
    have e1 : r.2.length = m := by have := h1.1; simp at this; omega
    have e2 : g.2.length = m := by have := h1.2; simp at this; omega
    have e3 : ∀ x ∈ r.2, 0 ≤ x ∧ x < n := fun x hx => by
      have := outside_ok (by simpa using List.any_eq_false.1 h2 x hx : outside x 0 (n - 1) = false)
      omega
    refine ⟨fun i hi => ?_, fun i hi => ?_⟩
    · cases i with
      | zero => exact ⟨e1, e3⟩
      | succ i => simpa using i1 i (by simpa using hi)
    · cases i with
      | zero => exact e2
      | succ i => simpa using i2 i (by simpa using hi)
theorem Auto.ok_of {a : Auto} (h : ckA a = 0) : a.ok := by
  rw [ckA] at h
  obtain ⟨h1, h⟩ := br_zeroH h (by decide)
  obtain ⟨h2, h⟩ := br_zeroH h (by decide)
  obtain ⟨h3, h⟩ := br_zeroH h (by decide)
  obtain ⟨h4, h⟩ := br_zeroH h (by decide)
  have hl : 1 ≤ a.lines ∧ a.lines ≤ 4 := by
    simp only [outside, Bool.or_eq_false_iff, decide_eq_false_iff_not] at h1; omega
  have hf : a.fires.length = a.next.length := by simp at h4; omega
  rw [mOf_nat] at h
  obtain ⟨r1, r2⟩ := ckRows_zero hf.symm h
  exact ⟨hl, Nat.pos_of_ne_zero fun e => by rw [e] at h2; exact absurd h2 (by decide), by simp at h3; omega, hf, r1, r2⟩
def Auto.fa (a : Auto) : Fa where
  n := a.next.length
  m := 2 ^ a.lines.toNat
  nx s x := ((a.next.getD s (true, [])).2.getD x 0).toNat
  fr s x := (a.fires.getD s (true, [])).2.getD x false
theorem getD_at {A : Type} {l : List A} {i : Nat} {d : A} (h : i < l.length) : l.getD i d = l[i] := by
  rw [List.getD_eq_getElem?_getD, List.getElem?_eq_getElem h]; rfl
theorem Auto.ok.faok {a : Auto} (h : a.ok) : a.fa.ok := by
  refine ⟨h.pos, fun s x hs hx => ?_⟩
  have hs : s < a.next.length := hs
  have hx : x < 2 ^ a.lines.toNat := hx
  obtain ⟨r1, r2⟩ := h.row s hs
  show ((a.next.getD s (true, [])).2.getD x 0).toNat < a.next.length
  rw [getD_at hs, getD_at (show x < a.next[s].2.length by omega)]
  have := r2 _ (List.getElem_mem (show x < a.next[s].2.length by omega))
  omega
/-- what stands in the rows -/
theorem Auto.ok.nxAt {a : Auto} (h : a.ok) {s x : Nat} (hs : s < a.next.length) (hx : x < 2 ^ a.lines.toNat) : ixRA 1 (encS a.next[s].1 (ints a.next[s].2)) (.int .i64 (x : Int)) = some (.fp [.int .i64 ((a.fa.nx s x : Nat) : Int)] 0) := by
  obtain ⟨r1, r2⟩ := h.row s hs
  have hx' : x < a.next[s].2.length := by omega
  rw [ixa_intV hx']
  have e : a.fa.nx s x = (a.next[s].2[x]).toNat := by
    show ((a.next.getD s (true, [])).2.getD x 0).toNat = _
    rw [getD_at hs, getD_at hx']
  have := r2 _ (List.getElem_mem hx')
  rw [e, Int.toNat_of_nonneg this.1]
theorem Auto.ok.frAt {a : Auto} (h : a.ok) {s x : Nat} (hs : s < a.next.length) (hx : x < 2 ^ a.lines.toNat) : ixRA 1 (encS (a.fires[s]'(by rw [h.fl]; exact hs)).1 (bools (a.fires[s]'(by rw [h.fl]; exact hs)).2)) (.int .i64 (x : Int)) = some (.fp [.bool (a.fa.fr s x)] 0) := by
  have hs' : s < a.fires.length := by rw [h.fl]; exact hs
  have r1 := h.frow s hs'
  have hx' : x < a.fires[s].2.length := by omega
  rw [ixa_boolV hx']
  have e : a.fa.fr s x = a.fires[s].2[x] := by
    show (a.fires.getD s (true, [])).2.getD x false = _
    rw [getD_at hs', getD_at hx']
  rw [e]

/-- a signal of symbols below m -/
def sigOk (m : Nat) (l : List Int) : Prop := l.length ≤ 4096 ∧ ∀ x ∈ l, 0 ≤ x ∧ x < (m : Int)
theorem sigOk_of {lines : Int} {l : List Int} (h1 : lines ≤ 16) (h : ckSig lines l = 0) : sigOk (2 ^ lines.toNat) l := by
  unfold ckSig at h
  obtain ⟨q1, h⟩ := br_zeroH h (by decide)
  have q2 : anyOut lines l = false := by
    cases hb : anyOut lines l with
    | false => rfl
    | true => rw [hb] at h; exact absurd h (by decide)
  refine ⟨by simp at q1; omega, fun x hx => ?_⟩
  have := outside_ok (by simpa using List.any_eq_false.1 q2 x hx : outside x 0 (2 ^ lines.toNat - 1) = false)
  have e := mOf_nat lines
  unfold mOf at e
  omega
def symN (l : List Int) (t : Nat) : Nat := (l.getD t 0).toNat
theorem symN_at {m : Nat} {l : List Int} (h : sigOk m l) {nl : Bool} {t : Nat} (ht : t < l.length) : ixRA 1 (encS nl (ints l)) (.int .i64 (t : Int)) = some (.fp [.int .i64 ((symN l t : Nat) : Int)] 0) ∧ symN l t < m := by
  rw [ixa_intV ht]
  have e : symN l t = (l[t]).toNat := by unfold symN; rw [List.getD_eq_getElem?_getD, List.getElem?_eq_getElem ht]; rfl
  have := h.2 _ (List.getElem_mem ht)
  rw [e, Int.toNat_of_nonneg this.1]
  exact ⟨rfl, by omega⟩
/-- the times at which an automaton triggers, and its last state -/
def runF (A : Fa) (l : List Int) : Nat → Nat → Nat → List Int × Nat
  | 0, _, s => ([], s)
  | r + 1, t, s => (bif A.fr s (symN l t) then (t : Int) :: (runF A l r (t + 1) (A.nx s (symN l t))).1 else (runF A l r (t + 1) (A.nx s (symN l t))).1, (runF A l r (t + 1) (A.nx s (symN l t))).2)
theorem runF_len (A : Fa) (l : List Int) : ∀ (r t s : Nat), (runF A l r t s).1.length ≤ r
  | 0, _, _ => Nat.le_refl _
  | r + 1, t, s => by
    rw [runF]
    have := runF_len A l r (t + 1) (A.nx s (symN l t))
    cases A.fr s (symN l t) with
    | true => simp only [cond_true, List.length_cons]; omega
    | false => simp only [cond_false]; omega
theorem c123 (a : Auto) (hn : a.next.length ≤ 2 ^ 40) (hr : ∀ r ∈ a.next, r.2.length ≤ 2 ^ 40) (nl : Bool) (l : List Int) : calV U 123 [encA a, encS nl (ints l)] = some (.int .i64 (br (ckA a != 0) (ckA a) (ckSig a.lines l))) := by
  refine pure_go k123 (by kernel_rfl) (by simp [stills, still_encA, still_encS]) ?_
  have h58 := c58 a hn hr
  rw [encA_eq] at h58 ⊢
  unfold encN encFs at h58 ⊢
  have nn := noAgg_encS a.nNl (a.next.map encRow)
  have nf := noAgg_encS a.fNl (a.fires.map encFRow)
  have cn := cells_encS a.nNl (a.next.map encRow)
  have cf := cells_encS a.fNl (a.fires.map encFRow)
  cases h : ckA a != 0 with
  | true => simp (config := { maxSteps := 2000000 }) +contextual only [go_sem, ↓reduceIte, r123, nn, nf, cn, cf, h58, h]
  | false =>
    have ok := Auto.ok_of (by simpa using h : ckA a = 0)
    have h91 := c91 nl l a.lines (by have := ok.lines; omega) (by have := ok.lines; omega)
    have h0 : ckA a = 0 := by simpa using h
    rw [h0] at h58
    simp (config := { maxSteps := 2000000 }) +contextual only [go_sem, ↓reduceIte, r123, nn, nf, cn, cf, h58, h91]
end Go.Am

set_option linter.all false
namespace Go.Am
open Go
variable [MaxLen]
set_option maxRecDepth 100000
set_option maxHeartbeats 4000000

/-! # Run and Final, and the reference's Run -/
theorem c63 {a : Auto} (ha : a.ok) (nl : Bool) (l : List Int) (hl : sigOk (2 ^ a.lines.toNat) l) : calV U 63 [encA a, encS nl (ints l)] = some (.tup [encS true (ints (runF a.fa l l.length 0 0).1), .int .i64 (((runF a.fa l l.length 0 0).2 : Nat) : Int)]) := by
  have hlen := hl.1
  refine pure_go k63 (by kernel_rfl) (by simp [stills, still_encA, still_encS]) ?_
  rw [encA_eq]
  have nn := noAgg_encS a.nNl (a.next.map encRow)
  have nf := noAgg_encS a.fNl (a.fires.map encFRow)
  have cn := cells_encS a.nNl (a.next.map encRow)
  have cf := cells_encS a.fNl (a.fires.map encFRow)
  unfold encN encFs
  simp (config := { maxSteps := 2000000 }) +contextual only [go_sem, ↓reduceIte, r63, nn, nf, cn, cf]
  refine loop_to (σ := Nat) (fun i => l.length - i) (fun i => some (.tup [encS true (ints (runF a.fa l l.length 0 0).1), .int .i64 (((runF a.fa l l.length 0 0).2 : Nat) : Int)])) (fun i e s => i ≤ l.length ∧ Env.get e 1 = encS nl (ints l) ∧ Env.get e 2 = .ptr 8 0 ∧ Env.get e 8 = .int .i64 (i : Nat) ∧ 8 < s.next ∧ Fr s ∧
    s.get 8 = some (.cells [.int .i64 a.lines, encS a.nNl (a.next.map encRow), encS a.fNl (a.fires.map encFRow)] 72 false 0 0) ∧
    ∃ (st : Nat) (acc : List Int) (v : AV), Env.get e 6 = v ∧ Env.get e 7 = .int .i64 (st : Nat) ∧ st < a.next.length ∧ acc.length ≤ i ∧ RowI s 9 3 1 acc.length (ints acc) v ∧
      (acc ++ (runF a.fa l (l.length - i) i st).1, (runF a.fa l (l.length - i) i st).2) = runF a.fa l l.length 0 0) 0 ?_ rfl ?_
  · rintro L i e s ⟨hi, g1, g2, g8, nx, fr, gs, st, acc, v, g6, g7, hst, hacc, hv, hrun⟩ IH
    have hla := hv.lenA
    have hna := hv.noAgg
    by_cases hd : i < l.length
    · have hw := wrap_succ hd (by omega)
      obtain ⟨hx, hxm⟩ := symN_at hl (nl := nl) hd
      have r1 := ixa_rowI (nl := a.nNl) hst
      have r2 := ixa_rowB (nl := a.fNl) (show st < a.fires.length by rw [ha.fl]; exact hst)
      have r3 := ha.nxAt hst hxm
      have r4 := ha.frAt hst hxm
      have hlt := ha.faok.lt st (symN l i) hst hxm
      have hb1 : (acc.length + 1) * 8 ≤ 1099511627776 := by omega
      have hb2 : acc.length + 1 ≤ 1099511627776 := by omega
      rw [show l.length - i = (l.length - (i + 1)) + 1 by omega, runF] at hrun
      have hv0 : ∀ n, s.next ≤ n → RowI (s.upto n) 9 3 1 acc.length (ints acc) v := fun n hn => hv.mono (by rw [upto_next]; omega) fun j _ _ => upto_get _ _ _
      have hvS : ∀ n1 n2, s.next ≤ n2 → RowI ((s.upto n1).upto n2) 9 3 1 acc.length (ints acc) v := fun n1 n2 hn => hv.mono (by rw [upto_next]; omega) fun j _ _ => by rw [upto_get, upto_get]
      cases hf : a.fa.fr st (symN l i) with
      | false =>
        rw [hf] at hrun r4
        simp only [cond_false] at hrun
        simp (config := { maxSteps := 2000000 }) +contextual only [go_sem, ↓reduceIte, r63_l0, g1, g2, g6, g7, g8, gs, nat_lt_dec, hd, lenL_encS, ints_len, hx, r1, r2, r3, r4, hw]
        refine IH (i + 1) _ _ (by omega) ⟨by omega, ?_, ?_, ?_, by simp only [upto_next]; omega, (fr.upto (by omega)).upto (by rw [upto_next]; omega), by rw [upto_get, upto_get, gs], a.fa.nx st (symN l i), acc, v, ?_, ?_, hlt, by omega, hvS _ _ (by omega), hrun⟩
        all_goals simp +contextual only [go_sem, ↓reduceIte, g1, g2, g6, hw]
      | true =>
        rw [hf] at hrun r4
        simp only [cond_true] at hrun
        simp (config := { maxSteps := 2000000 }) +contextual only [go_sem, ↓reduceIte, r63_l0, g1, g2, g6, g7, g8, gs, nat_lt_dec, hd, lenL_encS, ints_len, hx, r1, r2, r3, r4, hw, appK_some, Nat.reducePow, Nat.one_mul, hla, hna, hb1, hb2]
        have hv1 : RowI ((s.upto (s.next + 11)).new (.cells [.int .i64 (i : Int)] 3 false 0 0)) 9 3 1 acc.length (ints acc) v := (hv0 (s.next + 11) (by omega)).mono (by rw [next_new]; omega) fun j _ hj => by rw [get_new, if_neg (by omega)]
        have hL1 : acc.length + 1 = (acc ++ [(i : Int)]).length := by simp
        have hI1 : ints acc ++ [.int .i64 (i : Int)] = ints (acc ++ [(i : Int)]) := by rw [ints, ints, List.map_append]; rfl
        obtain ⟨s1, f1, f2, f3, f4, f5⟩ := hv1.app2 (by rw [next_new, upto_next]; omega) (m := 1) (new := [.int .i64 (i : Int)]) (by omega) (by rfl) (by rfl)
        have gs1 : s1.get 8 = some (.cells [.int .i64 a.lines, encS a.nNl (a.next.map encRow), encS a.fNl (a.fires.map encFRow)] 72 false 0 0) := by
          rw [f4 8 (by rw [next_new, upto_next]; omega) (hv1.far (.inr (by omega))), get_new, upto_next, if_neg (by omega), upto_get, gs]
        have fr1 := f5 ((fr.upto (by omega)).new _)
        rw [next_new, upto_next] at f2
        rw [f1]
        rw [hI1, hL1] at f3
        simp (config := { maxSteps := 2000000 }) +contextual only [go_sem, ↓reduceIte, g1, g2, g7, g8, gs1, hx, r1, r3, hw]
        rw [List.append_cons] at hrun
        refine IH (i + 1) _ _ (by omega) ⟨by omega, ?_, ?_, ?_, by simp only [upto_next]; omega, fr1.upto (by omega), by rw [upto_get, gs1], a.fa.nx st (symN l i), acc ++ [(i : Int)], _, ?_, ?_, hlt, by rw [List.length_append]; simp; omega, f3.mono (by simp only [upto_next]; omega) (fun j _ _ => by rw [upto_get]), hrun⟩
        all_goals simp +contextual only [go_sem, ↓reduceIte, g1, g2, hw, hL1]
    · have : i = l.length := by omega
      subst this
      rw [Nat.sub_self, runF, List.append_nil] at hrun
      rw [← hrun]
      have hfz := hv.frz_ints 37
      simp +contextual only [go_sem, ↓reduceIte, r63_l0, g1, g6, g7, g8, nat_lt_dec, Nat.lt_irrefl, lenL_encS, ints_len, hna, hfz]
  · refine ⟨Nat.zero_le _, ?_, ?_, ?_, ?_, ?_, ?_, 0, [], .nils, ?_, ?_, ha.pos, Nat.zero_le _, RowI.nil _ _ _ _, rfl⟩
    case refine_5 =>
      repeat first | exact Fr.own | apply Fr.new | apply Fr.put | apply Fr.upto
      all_goals simp +contextual only [go_sem, ↓reduceIte]
    all_goals try simp +contextual only [go_sem, ↓reduceIte]
    all_goals rfl
end Go.Am

set_option linter.all false
namespace Go.Am
open Go
variable [MaxLen]
set_option maxRecDepth 100000
set_option maxHeartbeats 4000000

def chkRun (a : Auto) (l : List Int) : Int := br (ckA a != 0) (ckA a) (ckSig a.lines l)
theorem chkRun_ok {a : Auto} {l : List Int} (h : chkRun a l = 0) : a.ok ∧ sigOk (2 ^ a.lines.toNat) l := by
  unfold chkRun at h
  cases h1 : ckA a != 0 with
  | true => rw [h1, br_true] at h; rw [h] at h1; cases h1
  | false =>
    rw [h1, br_false] at h
    have ok := Auto.ok_of (by simpa using h1 : ckA a = 0)
    exact ⟨ok, sigOk_of (by have := ok.lines; omega) h⟩
def runP2 (a : Auto) (l : List Int) : AV :=
  bif chkRun a l != 0 then .tup [.nils, .int .i64 (chkRun a l)] else .tup [encS true (ints (runF a.fa l l.length 0 0).1), .int .i64 0]
def finP2 (a : Auto) (l : List Int) : AV :=
  bif chkRun a l != 0 then .tup [.int .i64 0, .int .i64 (chkRun a l)] else .tup [.int .i64 (((runF a.fa l l.length 0 0).2 : Nat) : Int), .int .i64 0]
theorem c57 (a : Auto) (hn : a.next.length ≤ 2 ^ 40) (hr : ∀ r ∈ a.next, r.2.length ≤ 2 ^ 40) (nl : Bool) (l : List Int) : calV U 57 [encA a, encS nl (ints l)] = some (runP2 a l) := by
  refine pure_go k57 (by kernel_rfl) (by simp [stills, still_encA, still_encS]) ?_
  have h123 := c123 a hn hr nl l
  rw [show br (ckA a != 0) (ckA a) (ckSig a.lines l) = chkRun a l from rfl] at h123
  rw [encA_eq] at h123 ⊢
  have nn := noAgg_encS a.nNl (a.next.map encRow)
  have nf := noAgg_encS a.fNl (a.fires.map encFRow)
  have cn := cells_encS a.nNl (a.next.map encRow)
  have cf := cells_encS a.fNl (a.fires.map encFRow)
  unfold encN encFs at h123 ⊢
  unfold runP2
  cases hc : chkRun a l != 0 with
  | true => simp (config := { maxSteps := 2000000 }) +contextual only [go_sem, ↓reduceIte, r57, nn, nf, cn, cf, h123, hc]
  | false =>
  have hc0 : chkRun a l = 0 := by simpa using hc
  obtain ⟨ha, hl⟩ := chkRun_ok hc0
  have hlen := hl.1
  rw [hc0] at h123
  simp (config := { maxSteps := 2000000 }) +contextual only [go_sem, ↓reduceIte, r57, nn, nf, cn, cf, h123, lenL_encS, ints_len, cond_false]
  refine loop_to (σ := Nat) (fun i => l.length - i) (fun i => some (.tup [encS true (ints (runF a.fa l l.length 0 0).1), .int .i64 0])) (fun i e s => i ≤ l.length ∧ Env.get e 2 = .ptr 8 0 ∧ Env.get e 17 = encS nl (ints l) ∧ Env.get e 18 = .int .i64 l.length ∧ Env.get e 19 = .int .i64 (i : Nat) ∧ 8 < s.next ∧ Fr s ∧
    s.get 8 = some (.cells [.int .i64 a.lines, encS a.nNl (a.next.map encRow), encS a.fNl (a.fires.map encFRow)] 69 false 0 0) ∧
    ∃ (st : Nat) (acc : List Int) (v : AV), Env.get e 8 = v ∧ Env.get e 7 = .int .i64 (st : Nat) ∧ st < a.next.length ∧ acc.length ≤ i ∧ RowI s 9 3 1 acc.length (ints acc) v ∧
      (acc ++ (runF a.fa l (l.length - i) i st).1, (runF a.fa l (l.length - i) i st).2) = runF a.fa l l.length 0 0) 0 ?_ rfl ?_
  · rintro L i e s ⟨hi, g2, g17, g18, g19, nx, fr, gs, st, acc, v, g8, g7, hst, hacc, hv, hrun⟩ IH
    have hla := hv.lenA
    have hna := hv.noAgg
    by_cases hd : i < l.length
    · have hw := wrap_succ hd (by omega)
      obtain ⟨hx, hxm⟩ := symN_at hl (nl := nl) hd
      have r1 := ixa_rowI (nl := a.nNl) hst
      have r2 := ixa_rowB (nl := a.fNl) (show st < a.fires.length by rw [ha.fl]; exact hst)
      have r3 := ha.nxAt hst hxm
      have r4 := ha.frAt hst hxm
      have hlt := ha.faok.lt st (symN l i) hst hxm
      have hb1 : (acc.length + 1) * 8 ≤ 1099511627776 := by omega
      have hb2 : acc.length + 1 ≤ 1099511627776 := by omega
      rw [show l.length - i = (l.length - (i + 1)) + 1 by omega, runF] at hrun
      cases hf : a.fa.fr st (symN l i) with
      | false =>
        rw [hf] at hrun r4
        simp only [cond_false] at hrun
        simp (config := { maxSteps := 2000000 }) +contextual only [go_sem, ↓reduceIte, r57_l0, g2, g7, g8, g17, g18, g19, gs, nat_lt_dec, hd, hx, r1, r2, r3, r4, hw]
        refine IH (i + 1) _ _ (by omega) ⟨by omega, ?_, ?_, ?_, ?_, nx, fr, gs, a.fa.nx st (symN l i), acc, v, ?_, ?_, hlt, by omega, hv, hrun⟩
        all_goals simp +contextual only [go_sem, ↓reduceIte, g2, g8, g17, g18, hw]
      | true =>
        rw [hf] at hrun r4
        simp only [cond_true] at hrun
        simp (config := { maxSteps := 2000000 }) +contextual only [go_sem, ↓reduceIte, r57_l0, g2, g7, g8, g17, g18, g19, gs, nat_lt_dec, hd, hx, r1, r2, r3, r4, hw, appK_some, Nat.reducePow, Nat.one_mul, hla, hna, hb1, hb2]
        have hv1 : RowI (s.new (.cells [.int .i64 (i : Int)] 3 false 0 0)) 9 3 1 acc.length (ints acc) v := hv.mono (by rw [next_new]; omega) fun j _ hj => by rw [get_new, if_neg (by omega)]
        have hL1 : acc.length + 1 = (acc ++ [(i : Int)]).length := by simp
        have hI1 : ints acc ++ [.int .i64 (i : Int)] = ints (acc ++ [(i : Int)]) := by rw [ints, ints, List.map_append]; rfl
        obtain ⟨s1, f1, f2, f3, f4, f5⟩ := hv1.app2 (by rw [next_new]; omega) (m := 1) (new := [.int .i64 (i : Int)]) (by omega) (by rfl) (by rfl)
        have gs1 : s1.get 8 = some (.cells [.int .i64 a.lines, encS a.nNl (a.next.map encRow), encS a.fNl (a.fires.map encFRow)] 69 false 0 0) := by
          rw [f4 8 (by rw [next_new]; omega) (hv1.far (.inr (by omega))), get_new, if_neg (by omega), gs]
        have fr1 := f5 (fr.new _)
        rw [next_new] at f2
        rw [f1]
        rw [hI1, hL1] at f3
        simp (config := { maxSteps := 2000000 }) +contextual only [go_sem, ↓reduceIte, g2, g7, g19, gs1, hx, r1, r3, hw]
        rw [List.append_cons] at hrun
        refine IH (i + 1) _ _ (by omega) ⟨by omega, ?_, ?_, ?_, ?_, by omega, fr1, gs1, a.fa.nx st (symN l i), acc ++ [(i : Int)], _, ?_, ?_, hlt, by rw [List.length_append]; simp; omega, f3, hrun⟩
        all_goals simp +contextual only [go_sem, ↓reduceIte, g2, g17, g18, hw, hL1]
    · have : i = l.length := by omega
      subst this
      rw [Nat.sub_self, runF, List.append_nil] at hrun
      rw [← hrun]
      have hfz := hv.frz_ints 37
      simp +contextual only [go_sem, ↓reduceIte, r57_l0, g7, g8, g18, g19, nat_lt_dec, Nat.lt_irrefl, hna, hfz]
  · refine ⟨Nat.zero_le _, ?_, ?_, ?_, ?_, ?_, ?_, ?_, 0, [], .nils, ?_, ?_, ha.pos, Nat.zero_le _, RowI.nil _ _ _ _, rfl⟩
    case refine_6 =>
      repeat first | exact Fr.own | apply Fr.new | apply Fr.put | apply Fr.upto
      all_goals simp +contextual only [go_sem, ↓reduceIte]
    all_goals try simp +contextual only [go_sem, ↓reduceIte]
    all_goals rfl
theorem c62 (a : Auto) (hn : a.next.length ≤ 2 ^ 40) (hr : ∀ r ∈ a.next, r.2.length ≤ 2 ^ 40) (nl : Bool) (l : List Int) : calV U 62 [encA a, encS nl (ints l)] = some (finP2 a l) := by
  refine pure_go k62 (by kernel_rfl) (by simp [stills, still_encA, still_encS]) ?_
  have h123 := c123 a hn hr nl l
  rw [show br (ckA a != 0) (ckA a) (ckSig a.lines l) = chkRun a l from rfl] at h123
  rw [encA_eq] at h123 ⊢
  have nn := noAgg_encS a.nNl (a.next.map encRow)
  have nf := noAgg_encS a.fNl (a.fires.map encFRow)
  have cn := cells_encS a.nNl (a.next.map encRow)
  have cf := cells_encS a.fNl (a.fires.map encFRow)
  unfold encN encFs at h123 ⊢
  unfold finP2
  cases hc : chkRun a l != 0 with
  | true => simp (config := { maxSteps := 2000000 }) +contextual only [go_sem, ↓reduceIte, r62, nn, nf, cn, cf, h123, hc]
  | false =>
  have hc0 : chkRun a l = 0 := by simpa using hc
  obtain ⟨ha, hl⟩ := chkRun_ok hc0
  have hlen := hl.1
  rw [hc0] at h123
  simp (config := { maxSteps := 2000000 }) +contextual only [go_sem, ↓reduceIte, r62, nn, nf, cn, cf, h123, lenL_encS, ints_len, cond_false]
  refine loop_to (σ := Nat) (fun i => l.length - i) (fun i => some (.tup [.int .i64 (((runF a.fa l l.length 0 0).2 : Nat) : Int), .int .i64 0])) (fun i e s => i ≤ l.length ∧ Env.get e 2 = .ptr 8 0 ∧ Env.get e 16 = encS nl (ints l) ∧ Env.get e 17 = .int .i64 l.length ∧ Env.get e 18 = .int .i64 (i : Nat) ∧
    s.get 8 = some (.cells [.int .i64 a.lines, encS a.nNl (a.next.map encRow), encS a.fNl (a.fires.map encFRow)] 69 false 0 0) ∧
    ∃ (st : Nat), Env.get e 7 = .int .i64 (st : Nat) ∧ st < a.next.length ∧ (runF a.fa l (l.length - i) i st).2 = (runF a.fa l l.length 0 0).2) 0 ?_ rfl ?_
  · rintro L i e s ⟨hi, g2, g17, g18, g19, gs, st, g7, hst, hrun⟩ IH
    by_cases hd : i < l.length
    · have hw := wrap_succ hd (by omega)
      obtain ⟨hx, hxm⟩ := symN_at hl (nl := nl) hd
      have r1 := ixa_rowI (nl := a.nNl) hst
      have r3 := ha.nxAt hst hxm
      have hlt := ha.faok.lt st (symN l i) hst hxm
      rw [show l.length - i = (l.length - (i + 1)) + 1 by omega, runF] at hrun
      simp (config := { maxSteps := 2000000 }) +contextual only [go_sem, ↓reduceIte, r62_l0, g2, g7, g17, g18, g19, gs, nat_lt_dec, hd, hx, r1, r3, hw]
      refine IH (i + 1) _ _ (by omega) ⟨by omega, ?_, ?_, ?_, ?_, gs, a.fa.nx st (symN l i), ?_, hlt, hrun⟩
      all_goals simp +contextual only [go_sem, ↓reduceIte, g2, g17, g18, hw]
    · have : i = l.length := by omega
      subst this
      rw [Nat.sub_self, runF] at hrun
      rw [← hrun]
      simp +contextual only [go_sem, ↓reduceIte, r62_l0, g7, g18, g19, nat_lt_dec, Nat.lt_irrefl]
  · refine ⟨Nat.zero_le _, ?_, ?_, ?_, ?_, ?_, 0, ?_, ha.pos, rfl⟩
    all_goals try simp +contextual only [go_sem, ↓reduceIte]
    all_goals rfl
end Go.Am

set_option linter.all false
namespace Go.Am
open Go
variable [MaxLen]
set_option maxRecDepth 100000
set_option maxHeartbeats 4000000

/-! # Equal automata -/
theorem bne_bool (x : Bool) : binA U .neq 4 false (.bool x) (.bool x) = some (.bool false) := by cases x <;> kernel_rfl
theorem c60 (a b : Auto) (h1 : a.lines = b.lines) (h2 : a.next.length = b.next.length) (h3 : ∀ i (h : i < a.next.length) (h' : i < b.next.length), a.next[i].2 = b.next[i].2) (h4 : a.fires.length = b.fires.length)
    (h5 : ∀ i (h : i < a.fires.length) (h' : i < b.fires.length), a.fires[i].2 = b.fires[i].2) (n1 : a.next.length ≤ 2 ^ 40) (n2 : a.fires.length ≤ 2 ^ 40) (n3 : ∀ r ∈ a.next, r.2.length ≤ 2 ^ 40) (n4 : ∀ r ∈ a.fires, r.2.length ≤ 2 ^ 40) :
    calV U 60 [encA a, encA b] = some (.bool true) := by
  refine pure_go k60 (by kernel_rfl) (by simp [stills, still_encA]) ?_
  rw [encA_eq, encA_eq]
  have nn := noAgg_encS a.nNl (a.next.map encRow)
  have nf := noAgg_encS a.fNl (a.fires.map encFRow)
  have cn := cells_encS a.nNl (a.next.map encRow)
  have cf := cells_encS a.fNl (a.fires.map encFRow)
  have ln := lenL_encS a.nNl (a.next.map encRow)
  have lf := lenL_encS a.fNl (a.fires.map encFRow)
  have nn' := noAgg_encS b.nNl (b.next.map encRow)
  have nf' := noAgg_encS b.fNl (b.fires.map encFRow)
  have cn' := cells_encS b.nNl (b.next.map encRow)
  have cf' := cells_encS b.fNl (b.fires.map encFRow)
  have ln' := lenL_encS b.nNl (b.next.map encRow)
  have lf' := lenL_encS b.fNl (b.fires.map encFRow)
  rw [List.length_map] at ln lf ln' lf'
  rw [← h2] at ln'
  rw [← h4] at lf'
  have b1 : ((b.lines : Int) != b.lines) = false := by simp
  have b2 : ((a.next.length : Int) != a.next.length) = false := by simp
  have b3 : ((a.fires.length : Int) != a.fires.length) = false := by simp
  unfold encN encFs
  simp (config := { maxSteps := 2000000 }) +contextual only [go_sem, ↓reduceIte, r60, nn, nf, cn, cf, ln, lf, nn', nf', cn', cf', ln', lf', h1, b1, b2, b3]
  refine loop_to (σ := Nat) (fun i => a.next.length - i) (fun _ => some (.bool true)) (fun i e s => i ≤ a.next.length ∧ Env.get e 2 = .ptr 8 0 ∧ Env.get e 3 = .ptr 9 0 ∧ Env.get e 5 = .int .i64 (i : Nat) ∧ 9 < s.next ∧
    s.get 8 = some (.cells [.int .i64 b.lines, encS a.nNl (a.next.map encRow), encS a.fNl (a.fires.map encFRow)] 72 false 0 0) ∧ s.get 9 = some (.cells [.int .i64 b.lines, encS b.nNl (b.next.map encRow), encS b.fNl (b.fires.map encFRow)] 72 false 0 0)) 0 ?_ rfl ?_
  · rintro L i e s ⟨hi, g2, g3, g5, nx, gs, gs'⟩ IH
    by_cases hd : i < a.next.length
    · have hw := wrap_succ hd (by omega)
      have hd' : i < b.next.length := by omega
      have r1 := ixa_rowI (nl := a.nNl) hd
      have r2 := ixa_rowI (nl := b.nNl) hd'
      have h109 := c109 a.next[i].1 b.next[i].1 a.next[i].2 b.next[i].2 (by have := n3 _ (List.getElem_mem hd); omega)
      rw [h3 i hd hd', sameI_refl] at h109
      rw [h3 i hd hd'] at r1
      simp (config := { maxSteps := 2000000 }) +contextual only [go_sem, ↓reduceIte, r60_l0, g2, g3, g5, gs, gs', nat_lt_dec, hd, ln, r1, r2, h109, hw]
      refine IH (i + 1) _ _ (by omega) ⟨by omega, ?_, ?_, ?_, by rw [upto_next]; omega, by rw [upto_get, gs], by rw [upto_get, gs']⟩
      all_goals simp +contextual only [go_sem, ↓reduceIte, g2, g3, hw]
    · have : i = a.next.length := by omega
      subst this
      simp (config := { maxSteps := 2000000 }) +contextual only [go_sem, ↓reduceIte, r60_l0, g2, g5, gs, nat_lt_dec, Nat.lt_irrefl, ln]
      refine loop_to (σ := Nat) (fun i => a.fires.length - i) (fun _ => some (.bool true)) (fun i e s => i ≤ a.fires.length ∧ Env.get e 2 = .ptr 8 0 ∧ Env.get e 3 = .ptr 9 0 ∧ Env.get e 6 = .int .i64 (i : Nat) ∧ 9 < s.next ∧
        s.get 8 = some (.cells [.int .i64 b.lines, encS a.nNl (a.next.map encRow), encS a.fNl (a.fires.map encFRow)] 72 false 0 0) ∧ s.get 9 = some (.cells [.int .i64 b.lines, encS b.nNl (b.next.map encRow), encS b.fNl (b.fires.map encFRow)] 72 false 0 0)) 0 ?_ rfl ?_
      · clear g2 g3 g5 nx gs gs' IH
        rintro L i e s ⟨hi, g2, g3, g6, nx, gs, gs'⟩ IH
        by_cases hd : i < a.fires.length
        · have hw := wrap_succ hd (by omega)
          have hd' : i < b.fires.length := by omega
          have r1 := ixa_rowB (nl := a.fNl) hd
          have r2 := ixa_rowB (nl := b.fNl) hd'
          have hrl := n4 _ (List.getElem_mem hd)
          rw [h5 i hd hd'] at r1 hrl
          have l1 := lenL_encS a.fires[i].1 (bools b.fires[i].2)
          have l2 := lenL_encS b.fires[i].1 (bools b.fires[i].2)
          rw [bools_len] at l1 l2
          have b4 : ((b.fires[i].2.length : Int) != b.fires[i].2.length) = false := by simp
          simp (config := { maxSteps := 2000000 }) +contextual only [go_sem, ↓reduceIte, r60_l2, g2, g3, g6, gs, gs', nat_lt_dec, hd, lf, r1, r2, l1, l2, b4]
          refine loop_to (σ := Nat) (fun x => b.fires[i].2.length - x) (fun _ => some (.bool true)) (fun x e s => x ≤ b.fires[i].2.length ∧ Env.get e 2 = .ptr 8 0 ∧ Env.get e 3 = .ptr 9 0 ∧ Env.get e 6 = .int .i64 (i : Nat) ∧ Env.get e 7 = .int .i64 (x : Nat) ∧ 9 < s.next ∧
            s.get 8 = some (.cells [.int .i64 b.lines, encS a.nNl (a.next.map encRow), encS a.fNl (a.fires.map encFRow)] 72 false 0 0) ∧ s.get 9 = some (.cells [.int .i64 b.lines, encS b.nNl (b.next.map encRow), encS b.fNl (b.fires.map encFRow)] 72 false 0 0)) 0 ?_ rfl ?_
          · clear g2 g3 g6 nx gs gs'
            rintro L' x e s ⟨hx, g2, g3, g6, g7, nx, gs, gs'⟩ IH'
            by_cases hd2 : x < b.fires[i].2.length
            · have hw2 := wrap_succ hd2 (by omega)
              have q1 := ixa_boolV (nl := a.fires[i].1) hd2
              have q2 := ixa_boolV (nl := b.fires[i].1) hd2
              have q3 := bne_bool b.fires[i].2[x]
              simp (config := { maxSteps := 2000000 }) +contextual only [go_sem, ↓reduceIte, r60_l1, g2, g3, g6, g7, gs, gs', nat_lt_dec, hd2, r1, r2, l1, q1, q2, q3, hw2]
              refine IH' (x + 1) _ _ (by omega) ⟨by omega, ?_, ?_, ?_, ?_, by rw [upto_next]; omega, by rw [upto_get, gs], by rw [upto_get, gs']⟩
              all_goals simp +contextual only [go_sem, ↓reduceIte, g2, g3, g6, hw2]
            · have : x = b.fires[i].2.length := by omega
              subst this
              simp (config := { maxSteps := 2000000 }) +contextual only [go_sem, ↓reduceIte, r60_l1, g2, g3, g6, g7, gs, gs', nat_lt_dec, Nat.lt_irrefl, r1, l1, hw]
              refine IH (i + 1) _ _ (by omega) ⟨by omega, ?_, ?_, ?_, nx, gs, gs'⟩
              all_goals simp +contextual only [go_sem, ↓reduceIte, g2, g3, hw]
          · refine ⟨Nat.zero_le _, ?_, ?_, ?_, ?_, by simp only [upto_next]; omega, by simp only [upto_get, gs], by simp only [upto_get, gs']⟩
            all_goals simp +contextual only [go_sem, ↓reduceIte, g2, g3, g6]
            all_goals rfl
        · have : i = a.fires.length := by omega
          subst this
          simp (config := { maxSteps := 2000000 }) +contextual only [go_sem, ↓reduceIte, r60_l2, g2, g6, gs, nat_lt_dec, Nat.lt_irrefl, lf]
      · refine ⟨Nat.zero_le _, ?_, ?_, ?_, nx, gs, gs'⟩
        all_goals simp +contextual only [go_sem, ↓reduceIte, g2, g3]
        all_goals rfl
  · refine ⟨Nat.zero_le _, ?_, ?_, ?_, ?_, ?_, ?_⟩
    all_goals try simp +contextual only [go_sem, ↓reduceIte]
    all_goals rfl
/-- an automaton and an error are the expected ones -/
theorem c43_bad (e bad : Int) (h : bad ≠ 0) (he : e = bad) : calV U 43 [encA ⟨0, true, [], true, []⟩, .int .i64 e, .int .i64 bad, encA ⟨0, true, [], true, []⟩] = some (.bool true) := by
  refine pure_go k43 (by kernel_rfl) (by simp [stills, still_encA, still]) ?_
  have h60 := c60 ⟨0, true, [], true, []⟩ ⟨0, true, [], true, []⟩ rfl rfl (fun i h => by simp at h) rfl (fun i h => by simp at h) (by simp) (by simp) (by simp) (by simp)
  subst he
  have h1 : (e != 0) = true := by simpa using h
  rw [show encA ⟨0, true, [], true, []⟩ = .agg [.int .i64 0, .nils, .nils] from rfl] at h60 ⊢
  simp (config := { maxSteps := 2000000 }) +contextual only [go_sem, ↓reduceIte, r43, h60, h1, beq_self_eq_true]
theorem c43_ok (a b : Auto) (h : calV U 60 [encA a, encA b] = some (.bool true)) : calV U 43 [encA a, .int .i64 0, .int .i64 0, encA b] = some (.bool true) := by
  refine pure_go k43 (by kernel_rfl) (by simp [stills, still_encA, still]) ?_
  have nn := noAgg_encS a.nNl (a.next.map encRow)
  have nf := noAgg_encS a.fNl (a.fires.map encFRow)
  have cn := cells_encS a.nNl (a.next.map encRow)
  have cf := cells_encS a.fNl (a.fires.map encFRow)
  have nn' := noAgg_encS b.nNl (b.next.map encRow)
  have nf' := noAgg_encS b.fNl (b.fires.map encFRow)
  have cn' := cells_encS b.nNl (b.next.map encRow)
  have cf' := cells_encS b.fNl (b.fires.map encFRow)
  rw [encA_eq, encA_eq] at h ⊢
  unfold encN encFs at h ⊢
  simp (config := { maxSteps := 2000000 }) +contextual only [go_sem, ↓reduceIte, r43, h, nn, nf, cn, cf, nn', nf', cn', cf', beq_self_eq_true]
end Go.Am

set_option linter.all false
namespace Go.Am
open Go
variable [MaxLen]
set_option maxRecDepth 100000
set_option maxHeartbeats 4000000

/-! # Short automata; the first place of a number -/
def shortRows (n : Nat) : List (Bool × List Int) → Bool
  | [] => true
  | r :: l => bif decide ((r.2.length : Int) > n) then false else shortRows n l
def shortFs (n : Nat) : List (Bool × List Bool) → Bool
  | [] => true
  | r :: l => bif decide ((r.2.length : Int) > n) then false else shortFs n l
def shortA (a : Auto) (n : Int) : Bool :=
  bif (decide ((a.next.length : Int) > n) && decide ((a.next.length : Int) ≤ 256)) || (decide ((a.next.length : Int) > 258) || decide ((a.fires.length : Int) > 260)) then false else shortRows 18 a.next && shortFs 18 a.fires
theorem shortRows_ok {n : Nat} : ∀ {l : List (Bool × List Int)}, shortRows n l = true → ∀ r ∈ l, r.2.length ≤ n
  | [], _, r, h => by simp at h
  | x :: l, h, r, hr => by
    rw [shortRows] at h
    cases hd : decide ((x.2.length : Int) > n) with
    | true => rw [hd] at h; cases h
    | false =>
      rw [hd, cond_false] at h
      rcases List.mem_cons.1 hr with rfl | hr
      · simp at hd; omega
      · exact shortRows_ok h r hr
theorem l44 (a : Auto) (hN : a.next.length ≤ 258) (hF : a.fires.length ≤ 260) {e : Env} {s : St} (g2 : Env.get e 2 = .ptr 8 0) (g5 : Env.get e 5 = .int .i64 (0 : Nat)) (gs : s.get 8 = some (.cells [.int .i64 a.lines, encS a.nNl (a.next.map encRow), encS a.fNl (a.fires.map encFRow)] 72 false 0 0)) :
    goL U (finP U [.tmp 4]) [.bk 0, .sq (.seq (.seq (.ops [⟨some 6, none, none, false, .mov (.v (.int .i64 0))⟩]) (.block 2 (.loop r44_l1))) (.seq (.ops [⟨some 4, none, none, false, .mov (.v (.bool true))⟩]) .ret))] r44_l0 e s = some (.bool (shortRows 18 a.next && shortFs 18 a.fires)) := by
  have ln := lenL_encS a.nNl (a.next.map encRow)
  have lf := lenL_encS a.fNl (a.fires.map encFRow)
  rw [List.length_map] at ln lf
  refine loop_to (σ := Nat) (fun i => a.next.length - i) (fun i => some (.bool (shortRows 18 (a.next.drop i) && shortFs 18 a.fires))) (fun i e s => i ≤ a.next.length ∧ Env.get e 2 = .ptr 8 0 ∧ Env.get e 5 = .int .i64 (i : Nat) ∧
    s.get 8 = some (.cells [.int .i64 a.lines, encS a.nNl (a.next.map encRow), encS a.fNl (a.fires.map encFRow)] 72 false 0 0)) 0 ?_ rfl ⟨Nat.zero_le _, g2, g5, gs⟩
  clear g2 g5 gs
  rintro L i e s ⟨hi, g2, g5, gs⟩ IH
  by_cases hd : i < a.next.length
  · have hw := wrap_succ hd (by omega)
    have r1 := ixa_rowI (nl := a.nNl) hd
    have l1 := lenL_encS a.next[i].1 (ints a.next[i].2)
    rw [ints_len] at l1
    rw [List.drop_eq_getElem_cons hd, shortRows]
    cases h : decide ((a.next[i].2.length : Int) > (18 : Nat)) with
    | true =>
      have h : decide ((a.next[i].2.length : Int) > 18) = true := h
      simp (config := { maxSteps := 2000000 }) +contextual only [go_sem, ↓reduceIte, r44_l0, g2, g5, gs, nat_lt_dec, hd, ln, r1, l1, h, Bool.false_and, cond_true]
    | false =>
      have h : decide ((a.next[i].2.length : Int) > 18) = false := h
      simp (config := { maxSteps := 2000000 }) +contextual only [go_sem, ↓reduceIte, r44_l0, g2, g5, gs, nat_lt_dec, hd, ln, r1, l1, h, hw, cond_false]
      refine IH (i + 1) _ _ (by omega) ⟨by omega, ?_, ?_, gs⟩
      all_goals simp +contextual only [go_sem, ↓reduceIte, g2, hw]
  · have : i = a.next.length := by omega
    subst this
    rw [List.drop_length, shortRows, Bool.true_and]
    simp (config := { maxSteps := 2000000 }) +contextual only [go_sem, ↓reduceIte, r44_l0, g2, g5, gs, nat_lt_dec, Nat.lt_irrefl, ln]
    refine loop_to (σ := Nat) (fun i => a.fires.length - i) (fun i => some (.bool (shortFs 18 (a.fires.drop i)))) (fun i e s => i ≤ a.fires.length ∧ Env.get e 2 = .ptr 8 0 ∧ Env.get e 6 = .int .i64 (i : Nat) ∧
      s.get 8 = some (.cells [.int .i64 a.lines, encS a.nNl (a.next.map encRow), encS a.fNl (a.fires.map encFRow)] 72 false 0 0)) 0 ?_ rfl ?_
    · clear g2 g5 gs IH
      rintro L i e s ⟨hi, g2, g6, gs⟩ IH
      by_cases hd : i < a.fires.length
      · have hw := wrap_succ hd (by omega)
        have r1 := ixa_rowB (nl := a.fNl) hd
        have l1 := lenL_encS a.fires[i].1 (bools a.fires[i].2)
        rw [bools_len] at l1
        rw [List.drop_eq_getElem_cons hd, shortFs]
        cases h : decide ((a.fires[i].2.length : Int) > (18 : Nat)) with
        | true =>
          have h : decide ((a.fires[i].2.length : Int) > 18) = true := h
          simp (config := { maxSteps := 2000000 }) +contextual only [go_sem, ↓reduceIte, r44_l1, g2, g6, gs, nat_lt_dec, hd, lf, r1, l1, h, cond_true]
        | false =>
          have h : decide ((a.fires[i].2.length : Int) > 18) = false := h
          simp (config := { maxSteps := 2000000 }) +contextual only [go_sem, ↓reduceIte, r44_l1, g2, g6, gs, nat_lt_dec, hd, lf, r1, l1, h, hw, cond_false]
          refine IH (i + 1) _ _ (by omega) ⟨by omega, ?_, ?_, gs⟩
          all_goals simp +contextual only [go_sem, ↓reduceIte, g2, hw]
      · have : i = a.fires.length := by omega
        subst this
        simp (config := { maxSteps := 2000000 }) +contextual only [go_sem, ↓reduceIte, r44_l1, g2, g6, gs, nat_lt_dec, Nat.lt_irrefl, lf]
        rw [List.drop_length, shortFs]
    · refine ⟨Nat.zero_le _, ?_, ?_, gs⟩
      all_goals simp +contextual only [go_sem, ↓reduceIte, g2]
      all_goals rfl
theorem c44 (a : Auto) (n : Int) : calV U 44 [encA a, .int .i64 n] = some (.bool (shortA a n)) := by
  refine pure_go k44 (by kernel_rfl) (by simp [stills, still_encA, still]) ?_
  rw [encA_eq]
  have nn := noAgg_encS a.nNl (a.next.map encRow)
  have nf := noAgg_encS a.fNl (a.fires.map encFRow)
  have cn := cells_encS a.nNl (a.next.map encRow)
  have cf := cells_encS a.fNl (a.fires.map encFRow)
  have ln := lenL_encS a.nNl (a.next.map encRow)
  have lf := lenL_encS a.fNl (a.fires.map encFRow)
  rw [List.length_map] at ln lf
  unfold encN encFs shortA
  cases h1 : decide ((a.next.length : Int) > n) <;> cases h2 : decide ((a.next.length : Int) ≤ 256) <;> cases h3 : decide ((a.next.length : Int) > 258) <;> cases h4 : decide ((a.fires.length : Int) > 260)
  all_goals simp (config := { maxSteps := 2000000 }) +contextual only [go_sem, ↓reduceIte, r44, nn, nf, cn, cf, ln, lf, h1, h2, h3, h4]
  all_goals try rfl
  all_goals have hN : a.next.length ≤ 258 := by simp at h3; omega
  all_goals have hF : a.fires.length ≤ 260 := by simp at h4; omega
  all_goals clear h1 h2 h3 h4
  all_goals refine l44 a hN hF ?_ ?_ ?_
  all_goals try simp +contextual only [go_sem, ↓reduceIte]
  all_goals rfl
end Go.Am

set_option linter.all false
namespace Go.Am
open Go
variable [MaxLen]
set_option maxRecDepth 100000
set_option maxHeartbeats 4000000

/-! # Rows of numbers; the reference's classes -/
theorem opA_mks40 {ex : Ex} {a : Nat} {e : Env} {s : St} {n : Nat} (h : Env.get e a = .int .i64 (n : Int)) (hn : n ≤ 2 ^ 20) :
    opA U ex e (.makeSlice 40 (.tmp a) (.tmp a)) s = some (.sl s.next 0 n (some n) 1, s.new (.cells (ints (List.replicate n 0)) 3 false 0 0)) := by
  have h40 : U.und 40 = some (.slice 3) := by kernel_rfl
  have hz : zero U 3 = some (.int .i64 0) := by kernel_rfl
  have hi : (U.inf 3).map (fun i => (i.bytes, i.size)) = some (8, 1) := by kernel_rfl
  have e1 : ints (List.replicate n 0) = List.replicate n (.int .i64 0) := by simp [ints]
  cases hj : U.inf 3 with
  | none => rw [hj] at hi; cases hi
  | some j =>
    rw [hj] at hi
    simp only [Option.map_some, Option.some.injEq, Prod.mk.injEq] at hi
    obtain ⟨h1, h2⟩ := hi
    rw [e1, ← repeatL_one]
    simp only [opA, eval, h, h40, hj, hz]
    rw [if_pos ⟨by omega, by omega, by rw [h1]; omega, by omega, by rw [h2]; rfl, by omega⟩, h2]
    rfl
theorem opA_mks43 {ex : Ex} {a : Nat} {e : Env} {s : St} {n : Nat} (h : Env.get e a = .int .i64 (n : Int)) (hn : n ≤ 2 ^ 20) :
    opA U ex e (.makeSlice 43 (.tmp a) (.tmp a)) s = some (.sl s.next 0 n (some n) 1, s.new (.cells (bools (List.replicate n false)) 4 false 0 0)) := by
  have h40 : U.und 43 = some (.slice 4) := by kernel_rfl
  have hz : zero U 4 = some (.bool false) := by kernel_rfl
  have hi : (U.inf 4).map (fun i => (i.bytes, i.size)) = some (1, 1) := by kernel_rfl
  have e1 : bools (List.replicate n false) = List.replicate n (.bool false) := by simp [bools]
  cases hj : U.inf 4 with
  | none => rw [hj] at hi; cases hi
  | some j =>
    rw [hj] at hi
    simp only [Option.map_some, Option.some.injEq, Prod.mk.injEq] at hi
    obtain ⟨h1, h2⟩ := hi
    rw [e1, ← repeatL_one]
    simp only [opA, eval, h, h40, hj, hz]
    rw [if_pos ⟨by omega, by omega, by rw [h1]; omega, by omega, by rw [h2]; rfl, by omega⟩, h2]
    rfl
/-- numbers from 0 on -/
def nIs (l : List Nat) : List Int := l.map fun k : Nat => (k : Int)
def nats (l : List Nat) : List AV := ints (nIs l)
theorem nIs_len (l : List Nat) : (nIs l).length = l.length := by simp [nIs]
theorem nats_len (l : List Nat) : (nats l).length = l.length := by rw [nats, ints_len, nIs_len]
theorem nats_get {l : List Nat} {i : Nat} (h : i < l.length) : (nats l)[i]? = some (.int .i64 ((gt l i : Nat) : Int)) := by
  rw [nats, ints_get, nIs, List.getElem?_map, List.getElem?_eq_getElem h, gt_get h]; rfl
theorem nats_lay {l : List Nat} {i : Nat} (k : Nat) (h : i < l.length) : lay i [.int .i64 (k : Int)] (nats l) = some (nats (l.set i k)) := by
  rw [lay_set _ _ _ (by rw [nats_len]; exact h)]
  simp [nats, ints, nIs, List.map_set]
theorem nats_app (l : List Nat) (k : Nat) : nats l ++ [.int .i64 (k : Int)] = nats (l ++ [k]) := by simp [nats, ints, nIs]
theorem nats_rep (n : Nat) : ints (List.replicate n 0) = nats (List.replicate n 0) := by simp [nats, ints, nIs]
theorem bin_eqb (a b : Bool) : binA U .eql 4 false (.bool a) (.bool b) = some (.bool (a == b)) := by cases a <;> cases b <;> kernel_rfl
theorem ieqN (a b : Nat) : ((a : Int) == (b : Int)) = (a == b) := by rw [Bool.eq_iff_iff]; simp; omega
theorem ineN (a b : Nat) : ((a : Int) != (b : Int)) = (a != b) := by rw [bne, bne, ieqN]

/-- the same automaton, in a box -/
def boxA (a : Auto) (t : TypeId) : Blk := .cells [.int .i64 a.lines, encS a.nNl (a.next.map encRow), encS a.fNl (a.fires.map encFRow)] t false 0 0

theorem l106a {β : Type} {fin : Fl → β} {ks : List K} {Post : β → Prop} {a : Auto} (ha : a.ok) {L : List Nat} (hL : L.length = a.next.length) {u v b : Nat} (hu : u < a.next.length) (hv : v < a.next.length)
    {e : Env} {s : St} (g1 : Env.get e 1 = .ptr 8 0) (g4 : Env.get e 4 = .sl b 0 a.next.length (some a.next.length) 1) (g7 : Env.get e 7 = .int .i64 (u : Int)) (g8 : Env.get e 8 = .int .i64 (v : Int)) (g9 : Env.get e 9 = .bool true) (g10 : Env.get e 10 = .int .i64 (0 : Nat))
    (gs : s.get 8 = some (boxA a 72)) (gb : s.get b = some (.cells (nats L) 3 false 0 0)) (fr : Fr s)
    (hk : ∀ e' s', (∀ t : Nat, t < 9 → Env.get e' t = Env.get e t) → Env.get e' 9 = .bool (alk a.fa (gt L) u v) → (∀ j, s'.get j = s.get j) → s.next ≤ s'.next → Fr s' → Post (goN U fin ks e' s')) :
    Post (goL U fin (.bk 6 :: ks) r106_l0 e s) := by
  have hsh := bin_shl1 U 3 true .i64 (n := a.lines) (show 0 ≤ a.lines ∧ a.lines ≤ 16 by have := ha.lines; omega)
  have hm : (2 : Int) ^ a.lines.toNat = ((2 ^ a.lines.toNat : Nat) : Int) := by have := mOf_nat a.lines; unfold mOf at this; exact this
  rw [hm] at hsh
  have hm16 : 2 ^ a.lines.toNat ≤ 65536 := by have := pow_le16 a.lines (by have := ha.lines; omega); omega
  have hu' : u < a.fires.length := by rw [ha.fl]; exact hu
  have hv' : v < a.fires.length := by rw [ha.fl]; exact hv
  have r1 := ixa_rowI (nl := a.nNl) hu
  have r2 := ixa_rowB (nl := a.fNl) hu'
  have r3 := ixa_rowI (nl := a.nNl) hv
  have r4 := ixa_rowB (nl := a.fNl) hv'
  unfold boxA at gs
  refine loop_ex (σ := Nat) (fun x => 2 ^ a.lines.toNat - x) (fun x e' s' => x ≤ 2 ^ a.lines.toNat ∧ (∀ t : Nat, t < 9 → Env.get e' t = Env.get e t) ∧ Env.get e' 9 = .bool (alkN a.fa (gt L) u v x) ∧ Env.get e' 10 = .int .i64 (x : Nat) ∧ (∀ j, s'.get j = s.get j) ∧ s.next ≤ s'.next ∧ Fr s') 0 ?_
    ⟨Nat.zero_le _, fun _ _ => rfl, g9, g10, fun _ => rfl, Nat.le_refl _, fr⟩
  rintro Lp x e' s' ⟨hx, hold, q9, q10, hs, hnx, fr'⟩ IH
  have q1 := (hold 1 (by omega)).trans g1
  have q4 := (hold 4 (by omega)).trans g4
  have q7 := (hold 7 (by omega)).trans g7
  have q8 := (hold 8 (by omega)).trans g8
  have gs' := (hs 8).trans gs
  have gb' := (hs b).trans gb
  by_cases hd : x < 2 ^ a.lines.toNat
  · have hw := wrap_succ hd (by omega)
    have n1 := ha.nxAt hu hd
    have n2 := ha.nxAt hv hd
    have f1 := ha.frAt hu hd
    have f2 := ha.frAt hv hd
    have lt1 : a.fa.nx u x < a.next.length := ha.faok.lt u x hu hd
    have lt2 : a.fa.nx v x < a.next.length := ha.faok.lt v x hv hd
    have o1 := nats_get (l := L) (i := a.fa.nx u x) (by omega)
    have o2 := nats_get (l := L) (i := a.fa.nx v x) (by omega)
    have halk : alkN a.fa (gt L) u v (x + 1) = (alkN a.fa (gt L) u v x && (a.fa.fr u x == a.fa.fr v x && gt L (a.fa.nx u x) == gt L (a.fa.nx v x))) := rfl
    cases hA : alkN a.fa (gt L) u v x with
    | false =>
      rw [hA] at q9
      simp (config := { maxSteps := 2000000 }) +contextual only [go_sem, ↓reduceIte, r106_l0, q1, q4, q7, q8, q9, q10, gs', gb', hsh, nat_lt_dec, hd, hw]
      refine IH (x + 1) _ _ (by omega) ⟨by omega, fun t ht => ?_, ?_, ?_, fun j => by rw [upto_get, hs j], by rw [upto_next]; omega, fr'.upto (by omega)⟩
      · have hne : ∀ k : Nat, 9 ≤ k → (k = t) = False := fun k hk => by simp; omega
        simp +contextual only [go_sem, ↓reduceIte, hne]
        exact hold t ht
      · rw [halk, hA, Bool.false_and]
        simp +contextual only [go_sem, ↓reduceIte]
      · simp +contextual only [go_sem, ↓reduceIte, hw]
    | true =>
      rw [hA] at q9
      cases hB : (a.fa.fr u x == a.fa.fr v x) with
      | false =>
        simp (config := { maxSteps := 2000000 }) +contextual only [go_sem, ↓reduceIte, r106_l0, q1, q4, q7, q8, q9, q10, gs', gb', hsh, nat_lt_dec, hd, hw, r1, r2, r3, r4, f1, f2, n1, n2, bin_eqb, hB]
        refine IH (x + 1) _ _ (by omega) ⟨by omega, fun t ht => ?_, ?_, ?_, fun j => by rw [upto_get, hs j], by rw [upto_next]; omega, fr'.upto (by omega)⟩
        · have hne : ∀ k : Nat, 9 ≤ k → (k = t) = False := fun k hk => by simp; omega
          simp +contextual only [go_sem, ↓reduceIte, hne]
          exact hold t ht
        · rw [halk, hA, hB, Bool.false_and, Bool.and_false]
          simp +contextual only [go_sem, ↓reduceIte, ieqN]
        · simp +contextual only [go_sem, ↓reduceIte, hw]
      | true =>
        simp (config := { maxSteps := 2000000 }) +contextual only [go_sem, ↓reduceIte, r106_l0, q1, q4, q7, q8, q9, q10, gs', gb', hsh, nat_lt_dec, hd, hw, r1, r2, r3, r4, f1, f2, n1, n2, bin_eqb, hB, lt1, lt2, o1, o2, Nat.mul_one, ieqN]
        refine IH (x + 1) _ _ (by omega) ⟨by omega, fun t ht => ?_, ?_, ?_, fun j => by rw [upto_get, hs j], by rw [upto_next]; omega, fr'.upto (by omega)⟩
        · have hne : ∀ k : Nat, 9 ≤ k → (k = t) = False := fun k hk => by simp; omega
          simp +contextual only [go_sem, ↓reduceIte, hne]
          exact hold t ht
        · rw [halk, hA, hB, Bool.true_and, Bool.true_and]
          simp +contextual only [go_sem, ↓reduceIte, ieqN]
        · simp +contextual only [go_sem, ↓reduceIte, hw]
  · have : x = 2 ^ a.lines.toNat := by omega
    subst this
    simp (config := { maxSteps := 2000000 }) +contextual only [go_sem, ↓reduceIte, r106_l0, q1, q10, gs', hsh, nat_lt_dec, Nat.lt_irrefl]
    refine hk _ _ (fun t ht => ?_) ?_ hs hnx fr'
    · have hne : ∀ k : Nat, 9 ≤ k → (k = t) = False := fun k hk => by simp; omega
      simp +contextual only [go_sem, ↓reduceIte, hne]
      exact hold t ht
    · simp +contextual only [go_sem, ↓reduceIte, q9]
      rfl
end Go.Am

set_option linter.all false
namespace Go.Am
open Go
variable [MaxLen]
set_option maxRecDepth 100000
set_option maxHeartbeats 4000000

theorem l106b {β : Type} {fin : Fl → β} {ks : List K} {Post : β → Prop} {a : Auto} (ha : a.ok) {L N : List Nat} (hL : L.length = a.next.length) (hN : N.length = a.next.length) {u b c : Nat} (hu : u < a.next.length) (hbc : b ≠ c) (h8 : 8 ≠ c)
    {e : Env} {s : St} (g1 : Env.get e 1 = .ptr 8 0) (g4 : Env.get e 4 = .sl b 0 a.next.length (some a.next.length) 1) (g6 : Env.get e 6 = .sl c 0 a.next.length (some a.next.length) 1) (g7 : Env.get e 7 = .int .i64 (u : Int)) (g8 : Env.get e 8 = .int .i64 ((u : Int) - 1))
    (gs : s.get 8 = some (boxA a 72)) (gb : s.get b = some (.cells (nats L) 3 false 0 0)) (gc : s.get c = some (.cells (nats (N.set u u)) 3 false 0 0)) (hc : c < s.next) (fr : Fr s)
    (hk : ∀ e' s', (∀ t : Nat, t < 8 → Env.get e' t = Env.get e t) → s'.get c = some (.cells (nats (N.set u (cano a.fa (gt L) u))) 3 false 0 0) → (∀ j, j ≠ c → s'.get j = s.get j) → s.next ≤ s'.next → Fr s' → Post (goN U fin ks e' s')) :
    Post (goL U fin (.bk 4 :: ks) r106_l1 e s) := by
  have hfew := ha.few
  refine loop_ex (σ := Nat) (fun k => k) (fun k e' s' => k ≤ u ∧ (∀ t : Nat, t < 8 → Env.get e' t = Env.get e t) ∧ Env.get e' 8 = .int .i64 ((k : Int) - 1) ∧ (∀ j, j ≠ c → s'.get j = s.get j) ∧ s.next ≤ s'.next ∧ Fr s' ∧
      ∃ cur, s'.get c = some (.cells (nats (N.set u cur)) 3 false 0 0) ∧ scanD (alk a.fa (gt L) u) k cur = cano a.fa (gt L) u) u ?_
    ⟨Nat.le_refl _, fun _ _ => rfl, g8, fun _ _ => rfl, Nat.le_refl _, fr, u, gc, rfl⟩
  rintro Lp k e' s' ⟨hku, hold, q8, hs, hnx, fr', cur, qc, hcur⟩ IH
  have q1 := (hold 1 (by omega)).trans g1
  have q4 := (hold 4 (by omega)).trans g4
  have q6 := (hold 6 (by omega)).trans g6
  have q7 := (hold 7 (by omega)).trans g7
  have gs' := (hs 8 h8).trans gs
  have gb' := (hs b hbc).trans gb
  cases k with
  | zero =>
    have hn : decide (((0 : Nat) : Int) - 1 ≥ 0) = false := by decide
    simp (config := { maxSteps := 2000000 }) +contextual only [go_sem, ↓reduceIte, r106_l1, q8, hn]
    rw [scanD] at hcur
    refine hk _ _ (fun t ht => ?_) (by rw [qc, hcur]) hs hnx fr'
    have hne : ∀ k : Nat, 8 ≤ k → (k = t) = False := fun k hk => by simp; omega
    simp +contextual only [go_sem, ↓reduceIte, hne]
    exact hold t ht
  | succ k =>
    have hk1 : ((k + 1 : Nat) : Int) - 1 = (k : Int) := by omega
    rw [hk1] at q8
    have hn : decide ((k : Int) ≥ 0) = true := by simp
    have hw : IntKind.i64.wrap ((k : Int) - 1) = (k : Int) - 1 := by rw [wrap_i64] <;> omega
    simp (config := { maxSteps := 2000000 }) +contextual only [go_sem, ↓reduceIte, r106_l1, q8, hn]
    refine l106a (u := u) (v := k) (b := b) ha hL hu (by omega) ?_ ?_ ?_ ?_ ?_ ?_ gs' gb' fr' ?_
    case refine_7 =>
      intro e2 s2 hold2 a9 hs2 hnx2 fr2
      have p6 : Env.get e2 6 = .sl c 0 a.next.length (some a.next.length) 1 := by
        rw [hold2 6 (by omega)]
        simp +contextual only [go_sem, ↓reduceIte, q6]
      have p7 : Env.get e2 7 = .int .i64 (u : Int) := by
        rw [hold2 7 (by omega)]
        simp +contextual only [go_sem, ↓reduceIte, q7]
      have p8 : Env.get e2 8 = .int .i64 (k : Int) := by
        rw [hold2 8 (by omega)]
        simp +contextual only [go_sem, ↓reduceIte, q8]
      have pc : s2.get c = some (.cells (nats (N.set u cur)) 3 false 0 0) := (hs2 c).trans qc
      have hlay := nats_lay (l := N.set u cur) (i := u) k (by rw [List.length_set]; omega)
      rw [List.set_set] at hlay
      have holdT : ∀ t : Nat, t < 8 → Env.get e2 t = Env.get e t := fun t ht => by
        rw [hold2 t (by omega)]
        have hne : ∀ k : Nat, 8 ≤ k → (k = t) = False := fun k hk => by simp; omega
        simp +contextual only [go_sem, ↓reduceIte, hne]
        exact hold t ht
      rw [scanD] at hcur
      cases hA : alk a.fa (gt L) u k with
      | false =>
        rw [hA] at a9 hcur
        simp (config := { maxSteps := 2000000 }) +contextual only [go_sem, ↓reduceIte, a9, p8, hw]
        refine IH k _ _ (by omega) ⟨by omega, fun t ht => ?_, ?_, fun j hj => by rw [hs2 j, hs j hj], by omega, fr2, cur, pc, hcur⟩
        · have hne : ∀ k : Nat, 8 ≤ k → (k = t) = False := fun k hk => by simp; omega
          simp +contextual only [go_sem, ↓reduceIte, hne]
          exact holdT t ht
        · simp +contextual only [go_sem, ↓reduceIte]
      | true =>
        rw [hA] at a9 hcur
        simp (config := { maxSteps := 2000000 }) +contextual only [go_sem, ↓reduceIte, a9, p6, p7, p8, pc, hw, hu, hlay, Nat.mul_one]
        refine IH k _ _ (by omega) ⟨by omega, fun t ht => ?_, ?_, fun j hj => by rw [get_put, if_neg (fun e => hj e.symm), hs2 j, hs j hj], by rw [next_put]; omega, fr2.put (by omega) _, k, by rw [get_put, if_pos rfl], hcur⟩
        · have hne : ∀ k : Nat, 8 ≤ k → (k = t) = False := fun k hk => by simp; omega
          simp +contextual only [go_sem, ↓reduceIte, hne]
          exact holdT t ht
        · simp +contextual only [go_sem, ↓reduceIte]
    all_goals simp +contextual only [go_sem, ↓reduceIte, q1, q4, q7, q8]
    all_goals rfl

/-- the numbers of the next round, as a list -/
def nextL2 (A : Fa) (L : List Nat) : List Nat := (List.range A.n).map (cano A (gt L))
theorem nextL2_len (A : Fa) (L : List Nat) : (nextL2 A L).length = A.n := by simp [nextL2]
theorem nextL2_gt (A : Fa) (L : List Nat) {s : Nat} (h : s < A.n) : gt (nextL2 A L) s = cano A (gt L) s := by
  rw [gt_get (by rw [nextL2_len]; exact h)]
  simp [nextL2]
theorem l106c {β : Type} {fin : Fl → β} {ks : List K} {Post : β → Prop} {a : Auto} (ha : a.ok) {L : List Nat} (hL : L.length = a.next.length) {b c : Nat} (hbc : b ≠ c) (h8 : 8 ≠ c)
    {e : Env} {s : St} (g1 : Env.get e 1 = .ptr 8 0) (g3 : Env.get e 3 = .int .i64 a.next.length) (g4 : Env.get e 4 = .sl b 0 a.next.length (some a.next.length) 1) (g6 : Env.get e 6 = .sl c 0 a.next.length (some a.next.length) 1) (g7 : Env.get e 7 = .int .i64 (0 : Nat))
    (gs : s.get 8 = some (boxA a 72)) (gb : s.get b = some (.cells (nats L) 3 false 0 0)) (gc : s.get c = some (.cells (nats (List.replicate a.next.length 0)) 3 false 0 0)) (hc : c < s.next) (fr : Fr s)
    (hk : ∀ e' s', (∀ t : Nat, t < 7 → Env.get e' t = Env.get e t) → s'.get c = some (.cells (nats (nextL2 a.fa L)) 3 false 0 0) → (∀ j, j ≠ c → s'.get j = s.get j) → s.next ≤ s'.next → Fr s' → Post (goN U fin ks e' s')) :
    Post (goL U fin (.bk 2 :: ks) r106_l2 e s) := by
  have hfew := ha.few
  have hnl := nextL2_len a.fa L
  have hnl : (nextL2 a.fa L).length = a.next.length := hnl
  refine loop_ex (σ := Nat) (fun i => a.next.length - i) (fun i e' s' => i ≤ a.next.length ∧ (∀ t : Nat, t < 7 → Env.get e' t = Env.get e t) ∧ Env.get e' 7 = .int .i64 (i : Nat) ∧ (∀ j, j ≠ c → s'.get j = s.get j) ∧ s.next ≤ s'.next ∧ Fr s' ∧
      s'.get c = some (.cells (nats (part (nextL2 a.fa L) 0 a.next.length i)) 3 false 0 0)) 0 ?_
    ⟨Nat.zero_le _, fun _ _ => rfl, g7, fun _ _ => rfl, Nat.le_refl _, fr, by rw [gc]; unfold part; rw [List.take_zero, List.nil_append, Nat.sub_zero]⟩
  rintro Lp i e' s' ⟨hi, hold, q7, hs, hnx, fr', qc⟩ IH
  have q1 := (hold 1 (by omega)).trans g1
  have q3 := (hold 3 (by omega)).trans g3
  have q4 := (hold 4 (by omega)).trans g4
  have q6 := (hold 6 (by omega)).trans g6
  have gs' := (hs 8 h8).trans gs
  have gb' := (hs b hbc).trans gb
  by_cases hd : i < a.next.length
  · have hw := wrap_succ hd (by omega)
    have hw' : IntKind.i64.wrap ((i : Int) - 1) = (i : Int) - 1 := by rw [wrap_i64] <;> omega
    have hpl := part_len (nextL2 a.fa L) 0 hnl hi
    have hlay := nats_lay (l := part (nextL2 a.fa L) 0 a.next.length i) (i := i) i (by omega)
    simp (config := { maxSteps := 2000000 }) +contextual only [go_sem, ↓reduceIte, r106_l2, q3, q6, q7, qc, nat_lt_dec, hd, hlay, Nat.mul_one, hw']
    refine l106b (N := part (nextL2 a.fa L) 0 a.next.length i) (u := i) (b := b) (c := c) ha hL hpl hd hbc h8 ?_ ?_ ?_ ?_ ?_ ?_ ?_ ?_ ?_ ?_ ?_
    case refine_11 =>
      intro e2 s2 hold2 c2 hs2 hnx2 fr2
      have p7 : Env.get e2 7 = .int .i64 (i : Int) := by
        rw [hold2 7 (by omega)]
        simp +contextual only [go_sem, ↓reduceIte, q7]
      rw [next_put] at hnx2
      simp (config := { maxSteps := 2000000 }) +contextual only [go_sem, ↓reduceIte, p7, hw]
      have hset : (part (nextL2 a.fa L) 0 a.next.length i).set i (cano a.fa (gt L) i) = part (nextL2 a.fa L) 0 a.next.length (i + 1) := by
        rw [← part_set (nextL2 a.fa L) 0 hnl hd, ← gt_get (show i < (nextL2 a.fa L).length by omega), nextL2_gt _ _ hd]
      refine IH (i + 1) _ _ (by omega) ⟨by omega, fun t ht => ?_, ?_, fun j hj => by rw [hs2 j hj, get_put, if_neg (fun e => hj e.symm), hs j hj], by omega, fr2, by rw [c2, hset]⟩
      · have hne : ∀ k : Nat, 7 ≤ k → (k = t) = False := fun k hk => by simp; omega
        simp +contextual only [go_sem, ↓reduceIte, hne]
        rw [hold2 t (by omega)]
        simp +contextual only [go_sem, ↓reduceIte, hne]
        exact hold t ht
      · simp +contextual only [go_sem, ↓reduceIte]
    case refine_10 => exact fr'.put (by omega) _
    case refine_9 => rw [next_put]; omega
    case refine_8 => rw [get_put, if_pos rfl]
    case refine_7 => rw [get_put, if_neg (fun e => hbc e.symm), gb']
    case refine_6 => rw [get_put, if_neg (fun e => h8 e.symm), gs']
    all_goals simp +contextual only [go_sem, ↓reduceIte, q1, q4, q6, q7]
  · have : i = a.next.length := by omega
    subst this
    rw [part_full _ _ hnl] at qc
    simp (config := { maxSteps := 2000000 }) +contextual only [go_sem, ↓reduceIte, r106_l2, q3, q7, nat_lt_dec, Nat.lt_irrefl]
    refine hk _ _ (fun t ht => ?_) qc hs hnx fr'
    have hne : ∀ k : Nat, 7 ≤ k → (k = t) = False := fun k hk => by simp; omega
    simp +contextual only [go_sem, ↓reduceIte, hne]
    exact hold t ht
end Go.Am

set_option linter.all false
namespace Go.Am
open Go
variable [MaxLen]
set_option maxRecDepth 100000
set_option maxHeartbeats 4000000

/-! # The reference's classes, as the program of the reference finds them -/
def rclL (A : Fa) : Nat → List Nat → List Nat
  | 0, L => L
  | r + 1, L => bif nextL2 A L == L then L else rclL A r (nextL2 A L)
def clsL (A : Fa) : List Nat := rclL A (A.n + 1) (List.replicate A.n 0)
theorem cano_congr {A : Fa} (hA : A.ok) {f g : Nat → Nat} (h : ∀ s, s < A.n → f s = g s) {s : Nat} (hs : s < A.n) : cano A f s = cano A g s := by
  have hE : ∀ u v, u < A.n → v < A.n → (A.E f u v ↔ A.E g u v) := fun u v hu hv => by
    constructor
    · intro k x hx; exact ⟨(k x hx).1, by rw [← h _ (hA.lt u x hu hx), ← h _ (hA.lt v x hv hx)]; exact (k x hx).2⟩
    · intro k x hx; exact ⟨(k x hx).1, by rw [h _ (hA.lt u x hu hx), h _ (hA.lt v x hv hx)]; exact (k x hx).2⟩
  obtain ⟨a1, a2, a3⟩ := cano_spec A f s
  obtain ⟨b1, b2, b3⟩ := cano_spec A g s
  have x1 : ¬ cano A f s < cano A g s := fun hl => b3 _ hl ((hE s _ hs (by omega)).1 a2)
  have x2 : ¬ cano A g s < cano A f s := fun hl => a3 _ hl ((hE s _ hs (by omega)).2 b2)
  omega
theorem rclL_rel {A : Fa} (hA : A.ok) : ∀ (r : Nat) (L : List Nat) (f : Nat → Nat), L.length = A.n → (∀ s, s < A.n → gt L s = f s) → (rclL A r L).length = A.n ∧ ∀ s, s < A.n → gt (rclL A r L) s = rclF A r f s
  | 0, L, f, hl, h => ⟨hl, h⟩
  | r + 1, L, f, hl, h => by
    have hn : ∀ s, s < A.n → gt (nextL2 A L) s = cano A f s := fun s hs => by rw [nextL2_gt A L hs]; exact cano_congr hA h hs
    have e : (nextL2 A L == L) = same2 (cano A f) f A.n := by
      rw [Bool.eq_iff_iff, beq_iff_eq, same2_iff]
      constructor
      · intro e s hs
        rw [← hn s hs, ← h s hs, e]
      · intro k
        refine List.ext_getElem (by rw [nextL2_len, hl]) fun i h1 h2 => ?_
        rw [← gt_get h1, ← gt_get h2, hn i (by omega), h i (by omega)]
        exact k i (by omega)
    rw [rclL, rclF, e]
    cases same2 (cano A f) f A.n with
    | true => exact ⟨hl, h⟩
    | false => exact rclL_rel hA r _ _ (nextL2_len A L) hn
theorem clsL_len {A : Fa} (hA : A.ok) : (clsL A).length = A.n := (rclL_rel hA (A.n + 1) (List.replicate A.n 0) (fun _ => 0) (by simp) fun s hs => by rw [gt_get (by simp; exact hs)]; simp).1
theorem clsL_gt {A : Fa} (hA : A.ok) {s : Nat} (hs : s < A.n) : gt (clsL A) s = clsR A s := (rclL_rel hA (A.n + 1) (List.replicate A.n 0) (fun _ => 0) (by simp) fun s hs => by rw [gt_get (by simp; exact hs)]; simp).2 s hs
theorem sameI_eq : ∀ a b : List Nat, sameI (nIs a) (nIs b) = (a == b)
  | [], [] => rfl
  | x :: a, [] => rfl
  | [], y :: b => rfl
  | x :: a, y :: b => by
    have ih := sameI_eq a b
    show (bif (x : Int) != (y : Int) then false else sameI (nIs a) (nIs b)) = _
    rw [ih, ineN]
    show _ = (x == y && a == b)
    cases h : x == y <;> simp [bne, h]
theorem frz_slN {s : St} {b d n : Nat} {cap : Option Nat} {L : List Nat} (hL : L.length = n) (hg : s.get b = some (.cells (nats L) 3 false 0 0)) : frz U s (d + 2) (.sl b 0 n cap 1) = some (.fz (nats L)) := by
  have := frz_slI (d := d) (cap := cap) hg
  rw [nIs_len, hL] at this
  exact this
theorem z109 {args : List AV} {s : St} (h : stills args = false) : callK U (calV U 109 args) 109 args s = calZ U 109 (mapO (frz U s 40) args) s := z_of (by kernel_rfl) s h
theorem call109 {s : St} {b c n : Nat} {L N : List Nat} (hL : L.length = n) (hN : N.length = n) (hn : n < 2 ^ 40) (gb : s.get b = some (.cells (nats L) 3 false 0 0)) (gc : s.get c = some (.cells (nats N) 3 false 0 0)) :
    callK U (calV U 109 [.sl c 0 n (some n) 1, .sl b 0 n (some n) 1]) 109 [.sl c 0 n (some n) 1, .sl b 0 n (some n) 1] s = some (.bool (N == L), s) := by
  rw [z109 (by rfl), mapO_cons, frz_slN hN gc, mapO_cons, frz_slN hL gb, mapO_nil]
  have h := c109 false false (nIs N) (nIs L) (by rw [nIs_len]; omega)
  rw [encS_fz, encS_fz, sameI_eq] at h
  exact cz_of h (by kernel_rfl) rfl rfl s
theorem c106 {a : Auto} (ha : a.ok) : calV U 106 [encA a] = some (.fz (nats (clsL a.fa))) := by
  refine pure_go k106 (by kernel_rfl) (by simp [stills, still_encA]) ?_
  rw [encA_eq]
  have nn := noAgg_encS a.nNl (a.next.map encRow)
  have nf := noAgg_encS a.fNl (a.fires.map encFRow)
  have cn := cells_encS a.nNl (a.next.map encRow)
  have cf := cells_encS a.fNl (a.fires.map encFRow)
  have ln := lenL_encS a.nNl (a.next.map encRow)
  rw [List.length_map] at ln
  have hfew := ha.few
  have m1 := fun (e : Env) (s : St) (ex : Ex) (h : Env.get e 14 = .int .i64 (a.next.length : Int)) => @opA_mks40 _ ex 14 e s _ h (by omega)
  have m2 := fun (e : Env) (s : St) (ex : Ex) (h : Env.get e 21 = .int .i64 (a.next.length : Int)) => @opA_mks40 _ ex 21 e s _ h (by omega)
  unfold encN encFs
  simp (config := { maxSteps := 2000000 }) +contextual only [go_sem, ↓reduceIte, r106, nn, nf, cn, cf, ln, m1]
  refine loop_to (σ := Nat) (fun i => a.next.length + 1 - i) (fun _ => some (.fz (nats (clsL a.fa)))) (fun i e s => i ≤ a.next.length + 1 ∧ Env.get e 1 = .ptr 8 0 ∧ Env.get e 3 = .int .i64 a.next.length ∧ Env.get e 5 = .int .i64 (i : Nat) ∧ Fr s ∧ s.get 8 = some (boxA a 72) ∧
    ∃ b L, Env.get e 4 = .sl b 0 a.next.length (some a.next.length) 1 ∧ L.length = a.next.length ∧ 8 < b ∧ b < s.next ∧ s.get b = some (.cells (nats L) 3 false 0 0) ∧ rclL a.fa (a.next.length + 1 - i) L = clsL a.fa) 0 ?_ rfl ?_
  · rintro Lp i e s ⟨hi, g1, g3, g5, fr, gs, b, L, g4, hL, hb8, hbn, gb, hrun⟩ IH
    by_cases hd : i < a.next.length + 1
    · have hle : decide ((i : Int) ≤ (a.next.length : Int)) = true := by simp; omega
      have hw := wrap_succ hd (by omega)
      simp (config := { maxSteps := 2000000 }) +contextual only [go_sem, ↓reduceIte, r106_l3, g1, g3, g5, hle, m2]
      refine l106c (b := b) (c := s.next) (L := L) (Post := fun (x : Option AV) => x = some (AV.fz (nats (clsL a.fa)))) ha hL (by omega) (by omega) ?_ ?_ ?_ ?_ ?_ ?_ ?_ ?_ ?_ ?_ ?_
      case refine_11 =>
        intro e2 s2 hold2 c2 hs2 hnx2 fr2
        have p1 : Env.get e2 1 = .ptr 8 0 := by rw [hold2 1 (by omega)]; simp +contextual only [go_sem, ↓reduceIte, g1]
        have p3 : Env.get e2 3 = .int .i64 a.next.length := by rw [hold2 3 (by omega)]; simp +contextual only [go_sem, ↓reduceIte, g3]
        have p4 : Env.get e2 4 = .sl b 0 a.next.length (some a.next.length) 1 := by rw [hold2 4 (by omega)]; simp +contextual only [go_sem, ↓reduceIte, g4]
        have p5 : Env.get e2 5 = .int .i64 (i : Nat) := by rw [hold2 5 (by omega)]; simp +contextual only [go_sem, ↓reduceIte, g5]
        have p6 : Env.get e2 6 = .sl s.next 0 a.next.length (some a.next.length) 1 := by rw [hold2 6 (by omega)]; simp +contextual only [go_sem, ↓reduceIte]
        rw [next_new] at hnx2
        have gb2 : s2.get b = some (.cells (nats L) 3 false 0 0) := by rw [hs2 b (by omega), get_new, if_neg (by omega), gb]
        have gs2 : s2.get 8 = some (boxA a 72) := by rw [hs2 8 (by omega), get_new, if_neg (by omega), gs]
        have hcall := call109 hL (nextL2_len a.fa L) (by omega) gb2 c2
        rw [show a.next.length + 1 - i = (a.next.length + 1 - (i + 1)) + 1 by omega, rclL] at hrun
        cases hsm : (nextL2 a.fa L == L) with
        | true =>
          rw [hsm, cond_true] at hrun
          rw [hsm] at hcall
          have hz := frz_slN (d := 38) (cap := some a.next.length) hL gb2
          rw [hrun] at hz
          simp (config := { maxSteps := 2000000 }) +contextual only [go_sem, ↓reduceIte, p4, p6, hcall]
          rw [frz_sl] at hz
          exact hz
        | false =>
          rw [hsm, cond_false] at hrun
          rw [hsm] at hcall
          simp (config := { maxSteps := 2000000 }) +contextual only [go_sem, ↓reduceIte, p4, p5, p6, hcall, hw]
          refine IH (i + 1) _ _ (by omega) ⟨by omega, ?_, ?_, ?_, fr2, gs2, s.next, nextL2 a.fa L, ?_, nextL2_len a.fa L, by omega, by omega, c2, hrun⟩
          all_goals simp +contextual only [go_sem, ↓reduceIte, p1, p3]
      case refine_10 => exact fr.new _
      case refine_9 => rw [next_new]; omega
      case refine_8 => rw [get_new, if_pos rfl, nats_rep]
      case refine_7 => rw [get_new, if_neg (by omega), gb]
      case refine_6 => rw [get_new, if_neg (by omega), gs]
      all_goals simp +contextual only [go_sem, ↓reduceIte, g1, g3, g4]
      all_goals rfl
    · have : i = a.next.length + 1 := by omega
      subst this
      have hle : decide (((a.next.length + 1 : Nat) : Int) ≤ (a.next.length : Int)) = false := by simp; omega
      rw [Nat.sub_self, rclL] at hrun
      have hz := frz_slN (d := 38) (cap := some a.next.length) hL gb
      rw [hrun] at hz
      simp (config := { maxSteps := 2000000 }) +contextual only [go_sem, ↓reduceIte, r106_l3, g3, g4, g5, hle]
      rw [frz_sl] at hz
      exact hz
  · refine ⟨Nat.zero_le _, ?_, ?_, ?_, ?_, ?_, 9, List.replicate a.next.length 0, ?_, by simp, by omega, ?_, ?_, rfl⟩
    case refine_4 =>
      repeat first | exact Fr.own | apply Fr.new | apply Fr.put | apply Fr.upto
      all_goals try simp +contextual only [go_sem, ↓reduceIte]
    all_goals try simp +contextual only [go_sem, ↓reduceIte, nats_rep, boxA]
    all_goals first | rfl | omega
end Go.Am

set_option linter.all false
namespace Go.Am
open Go
variable [MaxLen]
set_option maxRecDepth 100000
set_option maxHeartbeats 4000000

/-! # The reference's minimal automaton: the first place of a number; rows that grow from one -/
def hasN (l : List Nat) (c : Nat) : Int := bif decide (idxN l c < l.length) then (idxN l c : Int) else -1
def hasF (c : Nat) : Nat → List Nat → Int
  | _, [] => -1
  | i, x :: l => bif x == c then (i : Int) else hasF c (i + 1) l
theorem hasF_eq (c : Nat) : ∀ (l : List Nat) (i : Nat), hasF c i l = bif decide (idxN l c < l.length) then ((i + idxN l c : Nat) : Int) else -1
  | [], i => by simp [hasF, idxN]
  | x :: l, i => by
    rw [hasF, idxN, hasF_eq c l (i + 1)]
    cases h : x == c with
    | true => simp
    | false =>
      simp only [cond_false, List.length_cons]
      by_cases hl : idxN l c < l.length
      · rw [decide_eq_true hl, decide_eq_true (by omega)]
        simp only [cond_true]; omega
      · rw [decide_eq_false hl, decide_eq_false (by omega)]
        rfl
theorem hasF_has (l : List Nat) (c : Nat) : hasF c 0 l = hasN l c := by rw [hasF_eq, hasN]; simp only [Nat.zero_add]
theorem c107 (l : List Nat) (c : Nat) (hl : l.length ≤ 2 ^ 40) : calV U 107 [.fz (nats l), .int .i64 (c : Int)] = some (.int .i64 (hasN l c)) := by
  refine pure_go k107 (by kernel_rfl) (by simp [stills, still]) ?_
  rw [← hasF_has]
  have ln : lenRL (.fz (nats l)) = some (.int .i64 l.length) := by rw [← encS_fz, lenL_encS, nats_len]
  simp (config := { maxSteps := 2000000 }) +contextual only [go_sem, ↓reduceIte, r107]
  refine loop_to (σ := Nat) (fun i => l.length - i) (fun i => some (AV.int .i64 (hasF c i (l.drop i)))) (fun i e s => i ≤ l.length ∧ Env.get e 0 = .fz (nats l) ∧ Env.get e 1 = .int .i64 (c : Int) ∧ Env.get e 5 = .int .i64 (i : Nat)) 0 ?_ rfl ?_
  · rintro L i e s ⟨hi, g0, g1, g5⟩ ih
    by_cases hd : i < l.length
    · have hx : ixRA 1 (.fz (nats l)) (.int .i64 (i : Int)) = some (.fp [.int .i64 ((gt l i : Nat) : Int)] 0) := by
        have := ixa_intV (nl := false) (l := nIs l) (i := i) (by rw [nIs_len]; exact hd)
        rw [encS_fz] at this
        rw [nats, this]
        simp [nIs, gt_get hd]
      have hw := wrap_succ hd (by omega)
      rw [List.drop_eq_getElem_cons hd, hasF, ← gt_get hd]
      cases hb : gt l i == c with
      | true => simp +contextual only [go_sem, ↓reduceIte, r107_l0, g0, g1, g5, nat_lt_dec, hd, ln, hx, ieqN, hb]
      | false =>
        simp +contextual only [go_sem, ↓reduceIte, r107_l0, g0, g1, g5, nat_lt_dec, hd, ln, hx, ieqN, hb, hw]
        refine ih (i + 1) _ _ (by omega) ⟨by omega, ?_, ?_, ?_⟩ <;> simp +contextual only [go_sem, ↓reduceIte, g0, g1, hw]
    · have : i = l.length := by omega
      subst this
      simp +contextual only [go_sem, ↓reduceIte, r107_l0, g0, g5, nat_lt_dec, Nat.lt_irrefl, ln]
      rw [List.drop_length, hasF]
  · refine ⟨Nat.zero_le _, ?_, ?_, ?_⟩ <;> simp +contextual only [go_sem, ↓reduceIte] <;> rfl
theorem z107 {args : List AV} {s : St} (h : stills args = false) : callK U (calV U 107 args) 107 args s = calZ U 107 (mapO (frz U s 40) args) s := z_of (by kernel_rfl) s h
theorem call107 {s : St} {b n : Nat} {cap : Option Nat} {L : List Nat} (hL : L.length = n) (hn : n ≤ 2 ^ 40) (gb : s.get b = some (.cells (nats L) 3 false 0 0)) (c : Nat) :
    callK U (calV U 107 [.sl b 0 n cap 1, .int .i64 (c : Int)]) 107 [.sl b 0 n cap 1, .int .i64 (c : Int)] s = some (.int .i64 (hasN L c), s) := by
  rw [z107 (by rfl), mapO_cons, frz_slN hL gb, mapO_cons, frz_int, mapO_nil]
  exact cz_of (c107 L c (by omega)) (by kernel_rfl) rfl rfl s
/-- one number more, on a row that is made or grown -/
theorem appN {s : St} {b n : Nat} {cap : Option Nat} {L : List Nat} (hL : L.length = n) (hc : cap = none ∨ cap = some n) (gb : s.get b = some (.cells (nats L) 3 false 0 0)) (hb : b < s.next) (k : Nat) :
    ∃ s1, appD 3 1 1 [.int .i64 (k : Int)] (.sl b 0 n cap 1) s = some (.sl s.next 0 (n + 1) none 1, s1) ∧ s1.next = s.next + 1 ∧ s1.get s.next = some (.cells (nats (L ++ [k])) 3 false 0 0) ∧ (∀ j, j ≠ b → j ≠ s.next → s1.get j = s.get j) ∧ (Fr s → Fr s1) := by
  have hcs : (nats L).length = n * 1 := by rw [nats_len, hL, Nat.mul_one]
  rcases hc with rfl | rfl
  · refine ⟨(s.put b .gone).new (.cells (nats L ++ [.int .i64 (k : Int)]) 3 false 0 0), by rw [appD_sl, gb, appS_cells hcs (by omega) rfl], rfl, ?_, fun j h1 h2 => ?_, fun hf => (hf.put hb _).new _⟩
    · rw [get_new, next_put, if_pos rfl, nats_app]
    · rw [get_new, next_put, if_neg (by omega), get_put, if_neg (by omega)]
  · refine ⟨s.new (.cells (nats L ++ [.int .i64 (k : Int)]) 3 false 0 0), ?_, rfl, ?_, fun j h1 h2 => ?_, fun hf => hf.new _⟩
    · have hg : s.cells b = some (nats L) := by rw [cells_get, gb]; rfl
      simp only [appD, hg]
      rw [← hcs, grab_all]
      simp only
      rw [if_neg (by omega)]
    · rw [get_new, if_pos rfl, nats_app]
    · rw [get_new, if_neg (by omega)]
theorem numRow_cons (κ : Nat → Nat) (c : Nat) (cs st : List Nat) : numRow κ (c :: cs) st = bif decide (idxN (st.map κ) (κ c) < st.length) then ((numRow κ cs st).1, idxN (st.map κ) (κ c) :: (numRow κ cs st).2) else ((numRow κ cs (st ++ [c])).1, st.length :: (numRow κ cs (st ++ [c])).2) := rfl
theorem idxN_app (c : Nat) : ∀ l : List Nat, ¬ idxN l c < l.length → idxN (l ++ [c]) c = l.length
  | [], _ => by simp [idxN]
  | x :: l, h => by
    rw [List.cons_append, idxN]
    rw [idxN] at h
    cases hx : x == c with
    | true => rw [hx] at h; simp at h
    | false =>
      rw [hx] at h
      simp only [cond_false, List.length_cons] at h ⊢
      rw [idxN_app c l (by omega)]
theorem hasN_in {l : List Nat} {c : Nat} (h : idxN l c < l.length) : hasN l c = ((idxN l c : Nat) : Int) := by rw [hasN, decide_eq_true h]; rfl
theorem hasN_out {l : List Nat} {c : Nat} (h : ¬ idxN l c < l.length) : hasN l c = -1 := by rw [hasN, decide_eq_false h]; rfl
end Go.Am

set_option linter.all false
namespace Go.Am
open Go
variable [MaxLen]
set_option maxRecDepth 100000
set_option maxHeartbeats 4000000

theorem ixa_natsF {l : List Nat} {i : Nat} (h : i < l.length) : ixRA 1 (.fz (nats l)) (.int .i64 (i : Int)) = some (.fp [.int .i64 ((gt l i : Nat) : Int)] 0) := by
  have := ixa_intV (nl := false) (l := nIs l) (i := i) (by rw [nIs_len]; exact h)
  rw [encS_fz] at this
  rw [nats, this]
  simp [nIs, gt_get h]
theorem bools_lay {l : List Bool} {i : Nat} (k : Bool) (h : i < l.length) : lay i [.bool k] (bools l) = some (bools (l.set i k)) := by
  rw [lay_set _ _ _ (by rw [bools_len]; exact h)]
  simp [bools, List.map_set]
/-- the classes of the states to which a class goes -/
def tgt (A : Fa) (q : Nat) : List Nat := (rowF A q).map (clsR A)
theorem tgt_len (A : Fa) (q : Nat) : (tgt A q).length = A.m := by simp [tgt, rowF]
theorem tgt_at (A : Fa) (q : Nat) {x : Nat} (h : x < A.m) : (tgt A q)[x]'(by rw [tgt_len]; exact h) = clsR A (A.nx q x) := by simp [tgt, rowF]
def frow (A : Fa) (q : Nat) : List Bool := (List.range A.m).map (A.fr q)
theorem frow_len (A : Fa) (q : Nat) : (frow A q).length = A.m := by simp [frow]
theorem frow_at (A : Fa) (q : Nat) {x : Nat} (h : x < A.m) : (frow A q)[x]'(by rw [frow_len]; exact h) = A.fr q x := by simp [frow]

theorem l41a {β : Type} {fin : Fl → β} {ks : List K} {Post : β → Prop} {a : Auto} (ha : a.ok) {L : List Nat} {i q b c f : Nat} {cap : Option Nat} (hq : q < a.next.length) (hcap : cap = none ∨ cap = some L.length) (hLn : ∀ z ∈ L, z < a.next.length) (hnd : (L.map id).Nodup) (hiL : i < L.length) (hLi : L[i]? = some q)
    (hbc : b ≠ c) (hbf : b ≠ f) (hcf : c ≠ f) (h8b : 8 ≠ b) (h8c : 8 ≠ c) (h8f : 8 ≠ f)
    {e : Env} {s : St} (g1 : Env.get e 1 = .ptr 8 0) (g3 : Env.get e 3 = .fz (nats (clsL a.fa))) (g4 : Env.get e 4 = .sl b 0 L.length cap 1) (g6 : Env.get e 6 = .int .i64 (i : Int)) (g7 : Env.get e 7 = .sl c 0 (2 ^ a.lines.toNat) (some (2 ^ a.lines.toNat)) 1) (g8 : Env.get e 8 = .sl f 0 (2 ^ a.lines.toNat) (some (2 ^ a.lines.toNat)) 1) (g9 : Env.get e 9 = .int .i64 (0 : Nat))
    (gs : s.get 8 = some (boxA a 72)) (gb : s.get b = some (.cells (nats L) 3 false 0 0)) (gc : s.get c = some (.cells (nats (List.replicate (2 ^ a.lines.toNat) 0)) 3 false 0 0)) (gf : s.get f = some (.cells (bools (List.replicate (2 ^ a.lines.toNat) false)) 4 false 0 0)) (nb : b < s.next) (nc : c < s.next) (nf : f < s.next) (fr : Fr s)
    (hk : ∀ e' s' b' cap', (∀ t : Nat, t < 9 → t ≠ 4 → Env.get e' t = Env.get e t) → Env.get e' 4 = .sl b' 0 (numRow id (tgt a.fa q) L).1.length cap' 1 → (cap' = none ∨ cap' = some (numRow id (tgt a.fa q) L).1.length) → (b' = b ∨ s.next ≤ b') → b' < s'.next → b' ≠ c → b' ≠ f →
      s'.get b' = some (.cells (nats (numRow id (tgt a.fa q) L).1) 3 false 0 0) → s'.get c = some (.cells (nats (numRow id (tgt a.fa q) L).2) 3 false 0 0) → s'.get f = some (.cells (bools (frow a.fa q)) 4 false 0 0) →
      (∀ j, j < s.next → j ≠ b → j ≠ c → j ≠ f → s'.get j = s.get j) → s.next ≤ s'.next → Fr s' → Post (goN U fin ks e' s')) :
    Post (goL U fin (.bk 2 :: ks) r41_l0 e s) := by
  have hfew := ha.few
  have hA := ha.faok
  have hm16 : 2 ^ a.lines.toNat ≤ 65536 := by have := pow_le16 a.lines (by have := ha.lines; omega); have := mOf_nat a.lines; unfold mOf at this; omega
  have hTl : (tgt a.fa q).length = 2 ^ a.lines.toNat := tgt_len a.fa q
  have hFl : (frow a.fa q).length = 2 ^ a.lines.toNat := frow_len a.fa q
  obtain ⟨_, _, _, hkl, _⟩ := numRow_nd (κ := id) (tgt a.fa q) L hnd
  have hkl : (numRow id (tgt a.fa q) L).2.length = 2 ^ a.lines.toNat := by rw [hkl, hTl]
  generalize hk2 : (numRow id (tgt a.fa q) L).2 = kf at *
  generalize hk1 : (numRow id (tgt a.fa q) L).1 = Lf at *
  have hq' : q < a.fires.length := by rw [ha.fl]; exact hq
  have r1 := ixa_rowI (nl := a.nNl) hq
  have r2 := ixa_rowB (nl := a.fNl) hq'
  unfold boxA at gs
  refine loop_ex (σ := Nat) (fun x => 2 ^ a.lines.toNat - x) (fun x e' s' => x ≤ 2 ^ a.lines.toNat ∧ (∀ t : Nat, t < 9 → t ≠ 4 → Env.get e' t = Env.get e t) ∧ Env.get e' 9 = .int .i64 (x : Nat) ∧
      s'.get c = some (.cells (nats (part kf 0 (2 ^ a.lines.toNat) x)) 3 false 0 0) ∧ s'.get f = some (.cells (bools (part (frow a.fa q) false (2 ^ a.lines.toNat) x)) 4 false 0 0) ∧
      (∀ j, j < s.next → j ≠ b → j ≠ c → j ≠ f → s'.get j = s.get j) ∧ s.next ≤ s'.next ∧ Fr s' ∧
      ∃ L' b' cap', numRow id ((tgt a.fa q).drop x) L' = (Lf, kf.drop x) ∧ (∀ j, j < L.length → L'[j]? = L[j]?) ∧ L.length ≤ L'.length ∧ (∀ z ∈ L', z < a.next.length) ∧ (L'.map id).Nodup ∧
        Env.get e' 4 = .sl b' 0 L'.length cap' 1 ∧ (cap' = none ∨ cap' = some L'.length) ∧ (b' = b ∨ s.next ≤ b') ∧ b' < s'.next ∧ s'.get b' = some (.cells (nats L') 3 false 0 0)) 0 ?_
    ⟨Nat.zero_le _, fun _ _ _ => rfl, g9, by rw [gc]; unfold part; rw [List.take_zero, List.nil_append, Nat.sub_zero], by rw [gf]; unfold part; rw [List.take_zero, List.nil_append, Nat.sub_zero], fun _ _ _ _ _ => rfl, Nat.le_refl _, fr,
      L, b, cap, by rw [List.drop_zero, List.drop_zero, ← hk1, ← hk2], fun _ _ => rfl, Nat.le_refl _, hLn, hnd, g4, hcap, .inl rfl, nb, gb⟩
  rintro Lp x e' s' ⟨hx, hold, q9, qc, qf, hs, hnx, fr', L', b', cap', hnum, hpre, hle, hLn', hnd', q4, hcap', hb', nb', qb⟩ IH
  have q1 := (hold 1 (by omega) (by omega)).trans g1
  have q3 := (hold 3 (by omega) (by omega)).trans g3
  have q6 := (hold 6 (by omega) (by omega)).trans g6
  have q7 := (hold 7 (by omega) (by omega)).trans g7
  have q8 := (hold 8 (by omega) (by omega)).trans g8
  have h8n : 8 < s.next := by
    refine Nat.lt_of_not_le fun h => ?_
    rw [fr 8 h] at gs
    cases gs
  have gs' := (hs 8 h8n h8b h8c h8f).trans gs
  have hbc' : b' ≠ c := by omega
  have hbf' : b' ≠ f := by omega
  have hL'n : L'.length ≤ a.next.length := nodup_few hnd' hLn'
  by_cases hd : x < 2 ^ a.lines.toNat
  · have hw := wrap_succ hd (by omega)
    have hxm : x < (tgt a.fa q).length := by omega
    have lt1 : a.fa.nx q x < a.next.length := hA.lt q x hq hd
    have n1 := ha.nxAt hq hd
    have f1 := ha.frAt hq hd
    have o1 := ixa_natsF (l := clsL a.fa) (i := a.fa.nx q x) (by rw [clsL_len hA]; exact lt1)
    rw [clsL_gt hA lt1] at o1
    have hTx : (tgt a.fa q)[x] = clsR a.fa (a.fa.nx q x) := tgt_at a.fa q hd
    have hzn : clsR a.fa (a.fa.nx q x) < a.next.length := Nat.lt_of_le_of_lt ((clsR_can a.fa).le _) lt1
    rw [List.drop_eq_getElem_cons hxm, hTx, List.drop_eq_getElem_cons (show x < kf.length by omega), numRow_cons, List.map_id] at hnum
    simp only [id] at hnum
    have hiL' : i < L'.length := by omega
    have hgi := nats_get (l := L') (i := i) hiL'
    have hLq : gt L' i = q := by
      have := hpre i hiL
      rw [hLi, List.getElem?_eq_getElem hiL'] at this
      rw [gt_get hiL']; exact Option.some.inj this
    rw [hLq] at hgi
    have hcall := fun (S : St) (h : S.get b' = some (.cells (nats L') 3 false 0 0)) => call107 (s := S) (cap := cap') (L := L') rfl (by omega) h (clsR a.fa (a.fa.nx q x))
    have hpk : (part kf 0 (2 ^ a.lines.toNat) x).length = 2 ^ a.lines.toNat := part_len kf 0 hkl hx
    have hpf : (part (frow a.fa q) false (2 ^ a.lines.toNat) x).length = 2 ^ a.lines.toNat := part_len (frow a.fa q) false hFl hx
    have hfs : (part (frow a.fa q) false (2 ^ a.lines.toNat) x).set x (a.fa.fr q x) = part (frow a.fa q) false (2 ^ a.lines.toNat) (x + 1) := by
      rw [← part_set (frow a.fa q) false hFl hd, frow_at a.fa q hd]
    have flay := bools_lay (l := part (frow a.fa q) false (2 ^ a.lines.toNat) x) (i := x) (a.fa.fr q x) (by omega)
    rw [hfs] at flay
    generalize hz : clsR a.fa (a.fa.nx q x) = z at *
    have x1 : (c = 8) = False := by simp; omega
    have x2 : (c = b') = False := by simp; omega
    have x3 : (c = f) = False := by simp; omega
    have x4 : (f = 8) = False := by simp; omega
    have x5 : (f = b') = False := by simp; omega
    have x6 : (f = c) = False := by simp; omega
    by_cases hin : idxN L' z < L'.length
    · rw [decide_eq_true hin] at hnum
      simp only [cond_true] at hnum
      have hrest : numRow id ((tgt a.fa q).drop (x + 1)) L' = (Lf, kf.drop (x + 1)) := by
        have h1 := congrArg Prod.fst hnum
        have h2 := congrArg Prod.snd hnum
        simp only [List.cons.injEq] at h1 h2
        exact Prod.ext h1 h2.2
      have hkx : kf[x] = idxN L' z := by
        have h2 := congrArg Prod.snd hnum
        simp only [List.cons.injEq] at h2
        exact h2.1.symm
      have klay := nats_lay (l := part kf 0 (2 ^ a.lines.toNat) x) (i := x) (idxN L' z) (by omega)
      rw [← hkx, part_set kf 0 hkl hd, hkx] at klay
      rw [hasN_in hin] at hcall
      have hneg : decide (((idxN L' z : Nat) : Int) < 0) = false := by simp
      simp (config := { maxSteps := 2000000 }) +contextual only [go_sem, ↓reduceIte, r41_l0, q1, q3, q4, q6, q7, q8, q9, gs', qb, qc, qf, nat_lt_dec, hd, lenL_encS, hiL', hgi, n1, f1, o1, r1, r2, hcall, hneg, klay, flay, hw, Nat.mul_one, x1, x2, x3, x4, x5, x6]
      refine IH (x + 1) _ _ (by omega) ⟨by omega, fun t ht h4 => ?_, ?_, ?_, ?_, fun j h1 h2 h3 h4 => ?_, ?_, ?_, L', b', cap', hrest, hpre, hle, hLn', hnd', ?_, hcap', hb', ?_, ?_⟩
      · have hne : ∀ k : Nat, 9 ≤ k → (k = t) = False := fun k hk => by simp; omega
        simp +contextual only [go_sem, ↓reduceIte, hne]
        exact hold t ht h4
      · simp +contextual only [go_sem, ↓reduceIte, hw]
      · simp +contextual only [go_sem, ↓reduceIte, x6]
      · simp +contextual only [go_sem, ↓reduceIte]
      · rw [get_put, if_neg (fun e => h4 e.symm), upto_get, get_put, if_neg (fun e => h3 e.symm), upto_get]
        exact hs j h1 h2 h3 h4
      · simp only [next_put, upto_next]; omega
      · exact (((fr'.upto (by omega)).put (by rw [upto_next]; omega) _).upto (by rw [next_put, upto_next]; omega)).put (by rw [upto_next]; omega) _
      · simp +contextual only [go_sem, ↓reduceIte, q4]
      · simp only [next_put, upto_next]; omega
      · simp +contextual only [go_sem, ↓reduceIte, x2, x5, qb]
    · rw [decide_eq_false hin] at hnum
      simp only [cond_false] at hnum
      have hrest : numRow id ((tgt a.fa q).drop (x + 1)) (L' ++ [z]) = (Lf, kf.drop (x + 1)) := by
        have h1 := congrArg Prod.fst hnum
        have h2 := congrArg Prod.snd hnum
        simp only [List.cons.injEq] at h1 h2
        exact Prod.ext h1 h2.2
      have hkx : kf[x] = L'.length := by
        have h2 := congrArg Prod.snd hnum
        simp only [List.cons.injEq] at h2
        exact h2.1.symm
      have hla : (L' ++ [z]).length = L'.length + 1 := by simp
      have hnd2 : ((L' ++ [z]).map id).Nodup := by
        rw [List.map_id] at hnd' ⊢
        rw [List.nodup_append]
        refine ⟨hnd', by simp, fun p hp r hr => ?_⟩
        rw [List.mem_singleton.1 hr]
        rintro rfl
        exact hin ((idxN_lt L' p).2 hp)
      have hLn2 : ∀ w ∈ L' ++ [z], w < a.next.length := fun w hw => by
        rcases List.mem_append.1 hw with h | h
        · exact hLn' w h
        · rw [List.mem_singleton.1 h]; exact hzn
      have hL'2 : (L' ++ [z]).length ≤ a.next.length := nodup_few hnd2 hLn2
      have klay := nats_lay (l := part kf 0 (2 ^ a.lines.toNat) x) (i := x) L'.length (by omega)
      rw [← hkx, part_set kf 0 hkl hd, hkx] at klay
      rw [hasN_out hin] at hcall
      have hneg : decide ((-1 : Int) < 0) = true := by decide
      have hb1 : (L'.length + 1) * 8 ≤ 1099511627776 := by omega
      have hb2 : L'.length + 1 ≤ 1099511627776 := by omega
      simp (config := { maxSteps := 2000000 }) +contextual only [go_sem, ↓reduceIte, r41_l0, q1, q3, q4, q6, q7, q8, q9, gs', qb, qc, qf, nat_lt_dec, hd, lenL_encS, hiL', hgi, n1, f1, o1, r1, r2, hcall, hneg, hw, Nat.mul_one, x1, x2, x3, x4, x5, x6, appK_some, Nat.reducePow, Nat.one_mul, lenA_sl, hb1, hb2]
      obtain ⟨s1, a1, a2, a3, a4, a5⟩ := appN (s := (s'.upto (s'.next + 15)).new (.cells [.int .i64 (z : Int)] 3 false 0 0)) (b := b') (cap := cap') (L := L') rfl hcap' (by rw [get_new, upto_next, if_neg (by omega), upto_get, qb]) (by rw [next_new, upto_next]; omega) z
      rw [next_new, upto_next] at a1 a2 a3 a4
      rw [a1]
      have old : ∀ j, j < s'.next → j ≠ b' → s1.get j = s'.get j := fun j h1 h2 => by rw [a4 j h2 (by omega), get_new, upto_next, if_neg (by omega), upto_get]
      have u8 := (old 8 (by omega) (by omega)).trans gs'
      have uc := (old c (by omega) (by omega)).trans qc
      have uf := (old f (by omega) (by omega)).trans qf
      have hcall2 := fun (S : St) (h : S.get (s'.next + 15 + 1) = some (.cells (nats (L' ++ [z])) 3 false 0 0)) => call107 (s := S) (cap := none) (L := L' ++ [z]) hla (by omega) h z
      have hidx := idxN_app z L' hin
      rw [hasN_in (show idxN (L' ++ [z]) z < (L' ++ [z]).length by omega), hidx] at hcall2
      have hgi2 := nats_get (l := L' ++ [z]) (i := i) (by omega)
      have hLq2 : gt (L' ++ [z]) i = q := by rw [gt_left hiL', hLq]
      rw [hLq2] at hgi2
      have y2 : (c = s'.next + 15 + 1) = False := by simp; omega
      have y5 : (f = s'.next + 15 + 1) = False := by simp; omega
      have hiL2 : i < L'.length + 1 := by omega
      simp (config := { maxSteps := 2000000 }) +contextual only [go_sem, ↓reduceIte, q1, q3, q6, q7, q8, q9, u8, uc, uf, a3, lenL_encS, hiL2, hgi2, f1, r1, r2, hcall2, klay, flay, hd, hw, Nat.mul_one, x1, x2, x3, x4, x5, x6, y2, y5]
      have fr1 := a5 ((fr'.upto (by omega)).new _)
      refine IH (x + 1) _ _ (by omega) ⟨by omega, fun t ht h4 => ?_, ?_, ?_, ?_, fun j h1 h2 h3 h4 => ?_, ?_, ?_, L' ++ [z], s'.next + 15 + 1, none, hrest, fun j hj => ?_, by omega, hLn2, hnd2, ?_, .inl rfl, .inr (by omega), ?_, ?_⟩
      · have hne : ∀ k : Nat, 9 ≤ k → (k = t) = False := fun k hk => by simp; omega
        have hne4 : (4 = t) = False := by simp; omega
        simp +contextual only [go_sem, ↓reduceIte, hne, hne4]
        exact hold t ht h4
      · simp +contextual only [go_sem, ↓reduceIte, hw]
      · simp +contextual only [go_sem, ↓reduceIte, x6]
      · simp +contextual only [go_sem, ↓reduceIte]
      · rw [get_put, if_neg (fun e => h4 e.symm), upto_get, get_put, if_neg (fun e => h3 e.symm), old j (by omega) (by omega)]
        exact hs j h1 h2 h3 h4
      · simp only [next_put, upto_next]; omega
      · exact (((fr1.put (by omega) _).upto (by rw [next_put]; omega)).put (by rw [upto_next]; omega) _)
      · rw [List.getElem?_append_left (by omega)]; exact hpre j hj
      · simp +contextual only [go_sem, ↓reduceIte, hla]
      · simp only [next_put, upto_next]; omega
      · simp +contextual only [go_sem, ↓reduceIte, y2, y5, a3]
  · have : x = 2 ^ a.lines.toNat := by omega
    subst this
    have hd0 : (tgt a.fa q).drop (2 ^ a.lines.toNat) = [] := by rw [← hTl, List.drop_length]
    rw [hd0] at hnum
    have hLf : L' = Lf := congrArg Prod.fst hnum
    subst hLf
    rw [part_full _ _ hkl] at qc
    rw [part_full _ _ hFl] at qf
    have lk : lenRL (.sl c 0 (2 ^ a.lines.toNat) (some (2 ^ a.lines.toNat)) 1) = some (.int .i64 ((2 ^ a.lines.toNat : Nat) : Int)) := rfl
    simp (config := { maxSteps := 2000000 }) +contextual only [go_sem, ↓reduceIte, r41_l0, q7, q9, nat_lt_dec, Nat.lt_irrefl]
    refine hk _ _ b' cap' (fun t ht h4 => ?_) ?_ hcap' hb' nb' hbc' hbf' qb qc qf hs hnx fr'
    · have hne : ∀ k : Nat, 9 ≤ k → (k = t) = False := fun k hk => by simp; omega
      simp +contextual only [go_sem, ↓reduceIte, hne]
      exact hold t ht h4
    · simp +contextual only [go_sem, ↓reduceIte, q4]
end Go.Am

set_option linter.all false
namespace Go.Am
open Go
variable [MaxLen]
set_option maxRecDepth 100000
set_option maxHeartbeats 4000000

/-! # The reference's minimal automaton -/
/-- one append to a row: what stands of another type stays -/
theorem RowI.appT {s : St} {B : Nat} {t : TypeId} {i : Nat} {cs : List AV} {v : AV} (h : RowI s B t 1 i cs v) (hB : B ≤ s.next) (x : AV) (hx : Go.Am.noAgg x = true) :
    ∃ s1, appD t 1 1 [x] v s = some (.sl s.next 0 (i + 1) none 1, s1) ∧ s1.next = s.next + 1 ∧ RowI s1 B t 1 (i + 1) (cs ++ [x]) (.sl s.next 0 (i + 1) none 1) ∧
      (∀ j c t' lo hi, s.get j = some (.cells c t' false lo hi) → j < s.next → t' ≠ t → s1.get j = some (.cells c t' false lo hi)) ∧ (∀ j, j < B → s1.get j = s.get j) ∧ (Fr s → Fr s1) := by
  obtain ⟨s1, a1, a2, a3, a4, a5⟩ := h.app2 hB (m := 1) (new := [x]) (by omega) rfl (by simp [hx])
  exact ⟨s1, a1, a2, a3, fun j c t' lo hi hj hlt hne => by rw [a4 j (by omega) (h.other hj hne), hj], fun j hj => a4 j (by omega) (h.far (.inr hj)), a5⟩
theorem RowI.keepT {s s' : St} {B : Nat} {t : TypeId} {i : Nat} {cs : List AV} {v : AV} (h : RowI s B t 1 i cs v) (hn : s.next ≤ s'.next) (hg : ∀ j c, s.get j = some (.cells c t false 0 0) → j < s.next → B ≤ j → s'.get j = some (.cells c t false 0 0)) : RowI s' B t 1 i cs v := by
  rcases h with ⟨h0, h1, h2⟩ | ⟨h0, h1, b, h2, h3, h4, h5⟩
  · exact .inl ⟨h0, h1, h2⟩
  · exact .inr ⟨h0, h1, b, h2, by omega, h4, hg b _ h5 h3 h2⟩
/-- a row in a block of its own -/
def BlkI (s : St) (b : Nat) (t : TypeId) (c : AV) (l : List AV) : Prop := ∃ j, c = .sl j 0 l.length (some l.length) 1 ∧ j < s.next ∧ j ≠ b ∧ 12 ≤ j ∧ s.get j = some (.cells l t false 0 0)
theorem BlkI.mono {s s' : St} {b b' : Nat} {t : TypeId} {c : AV} {l : List AV} (h : BlkI s b t c l) (hn : s.next ≤ s'.next) (hb : ∀ j, j < s.next → j ≠ b → j ≠ b') (hg : ∀ j, j < s.next → j ≠ b → 12 ≤ j → s.get j = some (.cells l t false 0 0) → s'.get j = some (.cells l t false 0 0)) : BlkI s' b' t c l := by
  obtain ⟨j, h1, h2, h3, h4, h5⟩ := h
  exact ⟨j, h1, by omega, hb j h2 h3, h4, hg j h2 h3 h4 h5⟩
theorem BlkI.frz {s : St} {b d : Nat} {c : AV} {l : List AV} {t : TypeId} (h : BlkI s b t c l) (hag : isAggT U t = some false) (hsz : size U t = some 1) (hna : l.all noAgg = true) (hf : mapO (Go.Am.frz U s d) l = some l) : Go.Am.frz U s (d + 1) c = some (.fz l) := by
  obtain ⟨j, rfl, _, _, _, h5⟩ := h
  rw [frz_sl, h5, frzS_cells, Nat.mul_one, grab_all, hag, hsz, frzT_one, if_pos hna, chunks_all, hf, fzK_some]
theorem mapO_idx {A : Type} {f : AV → Option AV} {g : A → AV} : ∀ {cs : List AV} {rs : List A}, cs.length = rs.length → (∀ j (h : j < cs.length) (h' : j < rs.length), f cs[j] = some (g rs[j])) → mapO f cs = some (rs.map g)
  | [], [], _, _ => rfl
  | c :: cs, r :: rs, hl, h => by
    have h0 := h 0 (by simp) (by simp)
    simp only [List.getElem_cons_zero] at h0
    have ih := mapO_idx (f := f) (g := g) (cs := cs) (rs := rs) (by simpa using hl) fun j h1 h2 => by
      have := h (j + 1) (by simpa using h1) (by simpa using h2)
      simpa using this
    rw [mapO_cons, h0, ih, List.map_cons]
    rfl
  | [], _ :: _, hl, _ => by simp at hl
  | _ :: _, [], hl, _ => by simp at hl
/-- the reference's minimal automaton, as data -/
def minAutR (a : Auto) : Auto := { lines := a.lines, nNl := true, next := (minR a.fa).map (fun x => (false, nIs x.2)), fNl := true, fires := (minR a.fa).map (fun x => (false, frow a.fa x.1)) }

theorem l41b {a : Auto} (ha : a.ok) {e : Env} {s : St} (g1 : Env.get e 1 = .ptr 8 0) (g2 : Env.get e 2 = .ptr 9 0) (g3 : Env.get e 3 = .fz (nats (clsL a.fa))) (g4 : Env.get e 4 = .sl 10 0 1 (some 1) 1) (g5 : Env.get e 5 = .ptr 11 0) (g6 : Env.get e 6 = .int .i64 (0 : Nat))
    (gs : s.get 8 = some (boxA a 72)) (g9 : s.get 9 = some (.cells [.int .i64 0, .nils, .nils] 72 false 0 0)) (gb : s.get 10 = some (.cells (nats [clsR a.fa 0]) 3 false 0 0)) (go : s.get 11 = some (.cells [.int .i64 a.lines, .nils, .nils] 72 false 0 0)) (nx : 12 ≤ s.next) (fr : Fr s) {ks : List K} {r : Option AV}
    (hk : ∀ e' s' v w, Env.get e' 5 = .ptr 11 0 → Env.get e' 2 = .ptr 9 0 → s'.get 11 = some (.cells [.int .i64 a.lines, v, w] 72 false 0 0) → s'.get 9 = some (.cells [.int .i64 0, .nils, .nils] 72 false 0 0) → noAgg v = true → noAgg w = true →
      (∀ S d, S.next = s'.next → (∀ j, j ≠ 9 → S.get j = s'.get j) → frz U S (d + 3) v = some (encS true ((minR a.fa).map fun x => AV.fz (nats x.2)))) → (∀ S d, S.next = s'.next → (∀ j, j ≠ 9 → S.get j = s'.get j) → frz U S (d + 3) w = some (encS true ((minR a.fa).map fun x => AV.fz (bools (frow a.fa x.1))))) → goN U (finP U [.cell 2 72]) ks e' s' = r) :
    goL U (finP U [.cell 2 72]) (.bk 0 :: ks) r41_l1 e s = r := by
  have hfew := ha.few
  have hA := ha.faok
  have hm16 : 2 ^ a.lines.toNat ≤ 65536 := by have := pow_le16 a.lines (by have := ha.lines; omega); have := mOf_nat a.lines; unfold mOf at this; omega
  have hsh := bin_shl1 U 3 true .i64 (n := a.lines) (show 0 ≤ a.lines ∧ a.lines ≤ 16 by have := ha.lines; omega)
  have hm : (2 : Int) ^ a.lines.toNat = ((2 ^ a.lines.toNat : Nat) : Int) := by have := mOf_nat a.lines; unfold mOf at this; exact this
  rw [hm] at hsh
  have h0n : clsR a.fa 0 < a.next.length := Nat.lt_of_le_of_lt ((clsR_can a.fa).le 0) ha.pos
  refine loop_ex (σ := Nat) (Post := fun (x : Option AV) => x = r) (fun i => a.next.length - i) (fun i e s => Env.get e 1 = .ptr 8 0 ∧ Env.get e 2 = .ptr 9 0 ∧ Env.get e 3 = .fz (nats (clsL a.fa)) ∧ Env.get e 5 = .ptr 11 0 ∧ Env.get e 6 = .int .i64 (i : Nat) ∧ s.get 8 = some (boxA a 72) ∧ s.get 9 = some (.cells [.int .i64 0, .nils, .nils] 72 false 0 0) ∧ 12 ≤ s.next ∧ Fr s ∧
      ∃ (L : List Nat) (b : Nat) (cap : Option Nat) (acc : List (Nat × List Nat)) (cN cF : List AV) (v w : AV), Env.get e 4 = .sl b 0 L.length cap 1 ∧ (cap = none ∨ cap = some L.length) ∧ s.get b = some (.cells (nats L) 3 false 0 0) ∧ b < s.next ∧ (b = 10 ∨ 12 ≤ b) ∧ (∀ z ∈ L, z < a.next.length) ∧ (L.map id).Nodup ∧
        s.get 11 = some (.cells [.int .i64 a.lines, v, w] 72 false 0 0) ∧ RowI s 12 40 1 i cN v ∧ RowI s 12 43 1 i cF w ∧ acc.length = i ∧ cN.length = i ∧ cF.length = i ∧
        (∀ j (h : j < acc.length) (h' : j < cN.length), BlkI s b 3 cN[j] (nats acc[j].2)) ∧ (∀ j (h : j < acc.length) (h' : j < cF.length), BlkI s b 4 cF[j] (bools (frow a.fa acc[j].1))) ∧
        i ≤ L.length ∧ acc ++ bfsN id (tgt a.fa) (a.next.length + 1 - i) i L = minR a.fa) 0 ?_
    ⟨g1, g2, g3, g5, g6, gs, g9, nx, fr, [clsR a.fa 0], 10, some 1, [], [], [], .nils, .nils, g4, .inr rfl, gb, by omega, .inl rfl, fun z hz => by rw [List.mem_singleton.1 hz]; exact h0n, by simp, go, RowI.nil _ _ _ _, RowI.nil _ _ _ _, rfl, rfl, rfl, fun j h => by simp at h, fun j h => by simp at h, Nat.zero_le _, rfl⟩
  clear g1 g2 g3 g4 g5 g6 gs g9 gb go nx fr e s
  rintro Lp i e s ⟨g1, g2, g3, g5, g6, gs, g9, nx, fr, L, b, cap, acc, cN, cF, v, w, g4, hcap, gb, nb, hb, hLn, hnd, go, hv, hw, hacc, hcN, hcF, hBN, hBF, hiL, hrun⟩ IH
  have hLlen : L.length ≤ a.next.length := nodup_few hnd hLn
  by_cases hd : i < L.length
  · have hwr := wrap_succ hd (by omega)
    have hq : L[i] < a.next.length := hLn _ (List.getElem_mem hd)
    have hLi : L[i]? = some L[i] := List.getElem?_eq_getElem hd
    rw [show a.next.length + 1 - i = (a.next.length + 1 - (i + 1)) + 1 by omega, bfsN, hLi] at hrun
    simp only at hrun
    generalize hqe : L[i] = q at *
    have gs' := gs
    unfold boxA at gs'
    have n8 : ∀ q, (s.next + q = 8) = False := fun q => by simp; omega
    have n8' : (s.next = 8) = False := by simp; omega
    have m1 := fun (e : Env) (s : St) (ex : Ex) (h : Env.get e 28 = .int .i64 ((2 ^ a.lines.toNat : Nat) : Int)) => @opA_mks40 _ ex 28 e s _ h (by omega)
    have m2 := fun (e : Env) (s : St) (ex : Ex) (h : Env.get e 32 = .int .i64 ((2 ^ a.lines.toNat : Nat) : Int)) => @opA_mks43 _ ex 32 e s _ h (by omega)
    simp (config := { maxSteps := 2000000 }) +contextual only [go_sem, ↓reduceIte, r41_l1, g1, g4, g6, gs', nat_lt_dec, hd, hsh, m1, m2, n8, n8']
    refine l41a (Post := fun (x : Option AV) => x = r) (a := a) (L := L) (i := i) (q := q) (b := b) (c := s.next) (f := s.next + 1) (cap := cap) ha hq hcap hLn hnd hd hLi (by omega) (by omega) (by omega) (by omega) (by omega) (by omega) ?_ ?_ ?_ ?_ ?_ ?_ ?_ ?_ ?_ ?_ ?_ ?_ ?_ ?_ ?_ ?_
    case refine_16 =>
      intro e2 s2 b2 cap2 hold2 p4 hcap2 hb2 nb2 hbc2 hbf2 qb2 qc2 qf2 hs2 hnx2 fr2
      simp only [next_new] at hnx2 hb2 hs2
      have E : ∀ t : Nat, t < 9 → t ≠ 4 → t ≠ 7 → t ≠ 8 → Env.get e2 t = Env.get e t := fun t h1 h4 h7 h8 => by
        rw [hold2 t h1 h4]
        have hne : ∀ k : Nat, 9 ≤ k → (k = t) = False := fun k hk => by simp; omega
        have hne7 : (7 = t) = False := by simp; omega
        have hne8 : (8 = t) = False := by simp; omega
        simp +contextual only [go_sem, ↓reduceIte, hne, hne7, hne8]
      have p1 := (E 1 (by omega) (by omega) (by omega) (by omega)).trans g1
      have p2 := (E 2 (by omega) (by omega) (by omega) (by omega)).trans g2
      have p3 := (E 3 (by omega) (by omega) (by omega) (by omega)).trans g3
      have p5 := (E 5 (by omega) (by omega) (by omega) (by omega)).trans g5
      have p6 := (E 6 (by omega) (by omega) (by omega) (by omega)).trans g6
      have p7 : Env.get e2 7 = .sl s.next 0 (2 ^ a.lines.toNat) (some (2 ^ a.lines.toNat)) 1 := by
        rw [hold2 7 (by omega) (by omega)]; simp +contextual only [go_sem, ↓reduceIte]
      have p8 : Env.get e2 8 = .sl (s.next + 1) 0 (2 ^ a.lines.toNat) (some (2 ^ a.lines.toNat)) 1 := by
        rw [hold2 8 (by omega) (by omega)]; simp +contextual only [go_sem, ↓reduceIte]
      have old : ∀ j, j < s.next → j ≠ b → s2.get j = s.get j := fun j h1 h2 => by
        rw [hs2 j (by omega) h2 (by omega) (by omega), get_new, next_new, if_neg (by omega), get_new, if_neg (by omega)]
      have u8 := (old 8 (by omega) (by omega)).trans gs
      have u9 := (old 9 (by omega) (by omega)).trans g9
      have u11 := (old 11 (by omega) (by omega)).trans go
      have typ : ∀ j c t', s.get j = some (.cells c t' false 0 0) → t' ≠ 3 → j ≠ b := fun j c t' h ht e => by
        rw [e, gb] at h; cases h; exact ht rfl
      have hv2 : RowI s2 12 40 1 i cN v := hv.keepT (by omega) fun j c h h1 _ => by rw [old j h1 (typ j c _ h (by decide))]; exact h
      have hw2 : RowI s2 12 43 1 i cF w := hw.keepT (by omega) fun j c h h1 _ => by rw [old j h1 (typ j c _ h (by decide))]; exact h
      have nbb : ∀ j, j < s.next → j ≠ b → j ≠ b2 := fun j h1 h2 => by omega
      have hBN2 : ∀ j (h : j < acc.length) (h' : j < cN.length), BlkI s2 b2 3 cN[j] (nats acc[j].2) := fun j h h' => (hBN j h h').mono (by omega) nbb fun j h1 h2 _ h5 => by rw [old j h1 h2]; exact h5
      have hBF2 : ∀ j (h : j < acc.length) (h' : j < cF.length), BlkI s2 b2 4 cF[j] (bools (frow a.fa acc[j].1)) := fun j h h' => (hBF j h h').mono (by omega) nbb fun j h1 h2 _ h5 => by rw [old j h1 h2]; exact h5
      have hTl : (tgt a.fa q).length = 2 ^ a.lines.toNat := tgt_len a.fa q
      obtain ⟨nd2, le2, _, kl2, _⟩ := numRow_nd (κ := id) (tgt a.fa q) L hnd
      have kl2 : (numRow id (tgt a.fa q) L).2.length = 2 ^ a.lines.toNat := by rw [kl2, hTl]
      have lt2 : ∀ z ∈ (numRow id (tgt a.fa q) L).1, z < a.next.length := by
        have := (numRow_rel (κ := id) (ρ := id) (Q := fun z => z < a.next.length) (fun _ _ _ _ => Iff.rfl) (tgt a.fa q) L (fun z hz => by
          obtain ⟨y, hy, rfl⟩ := List.mem_map.1 hz
          obtain ⟨x, hx, rfl⟩ := List.mem_map.1 hy
          exact Nat.lt_of_le_of_lt ((clsR_can a.fa).le _) (hA.lt q x hq (List.mem_range.1 hx))) hLn).2
        exact this
      have hbN : BlkI s2 b2 3 (.sl s.next 0 (2 ^ a.lines.toNat) (some (2 ^ a.lines.toNat)) 1) (nats (numRow id (tgt a.fa q) L).2) := ⟨s.next, by rw [nats_len, kl2], by omega, fun e => hbc2 e.symm, nx, qc2⟩
      have hbF : BlkI s2 b2 4 (.sl (s.next + 1) 0 (2 ^ a.lines.toNat) (some (2 ^ a.lines.toNat)) 1) (bools (frow a.fa q)) := ⟨s.next + 1, by rw [bools_len, frow_len]; rfl, by omega, fun e => hbf2 e.symm, by omega, qf2⟩
      generalize hLf : (numRow id (tgt a.fa q) L).1 = Lf at *
      generalize hkf : (numRow id (tgt a.fa q) L).2 = kf at *
      have la1 := hv2.lenA
      have la2 := hw2.lenA
      have hb1 : (i + 1) * 24 ≤ 1099511627776 := by omega
      have hb2 : i + 1 ≤ 1099511627776 := by omega
      simp (config := { maxSteps := 2000000 }) +contextual only [go_sem, ↓reduceIte, p5, p7, u11, appK_some, Nat.reducePow, Nat.one_mul, la1, hb1, hb2]
      -- the row of states
      generalize hcv : AV.sl s.next 0 (2 ^ a.lines.toNat) (some (2 ^ a.lines.toNat)) 1 = cv at *
      generalize hcw : AV.sl (s.next + 1) 0 (2 ^ a.lines.toNat) (some (2 ^ a.lines.toNat)) 1 = cw at *
      have hv3 : RowI (s2.new (.cells [cv] 40 false 0 0)) 12 40 1 i cN v := hv2.keepT (by rw [next_new]; omega) fun j c h h1 _ => by rw [get_new, if_neg (by omega)]; exact h
      have nacv : noAgg cv = true := by rw [← hcv]; rfl
      have nacw : noAgg cw = true := by rw [← hcw]; rfl
      have ccw : cw.cells = [cw] := by rw [← hcw]; rfl
      obtain ⟨s4, a1, a2, a3, a4, a5, a6⟩ := hv3.appT (by rw [next_new]; omega) cv nacv
      have fr4 := a6 (fr2.new _)
      rw [next_new] at a1 a2 a3 a4
      rw [a1]
      have v11 : s4.get 11 = some (.cells [.int .i64 a.lines, v, w] 72 false 0 0) := by rw [a5 11 (by omega), get_new, if_neg (by omega), u11]
      simp (config := { maxSteps := 2000000 }) +contextual only [go_sem, ↓reduceIte, p5, p8, v11, ccw, appK_some, Nat.reducePow, Nat.one_mul, la2, hb1, hb2]
      -- the row of triggers
      have prA : ∀ x j c t', j ≠ 11 → j < s2.next → s2.get j = some (.cells c t' false 0 0) → t' ≠ 40 → (s4.put 11 x).get j = some (.cells c t' false 0 0) := fun x j c t' h1 h2 h3 h4 => by
        rw [get_put, if_neg (fun e => h1 e.symm)]
        exact a4 j c t' 0 0 (by rw [get_new, if_neg (by omega)]; exact h3) (by omega) h4
      have hw5 : ∀ x, RowI ((s4.put 11 x).new (.cells [cw] 43 false 0 0)) 12 43 1 i cF w := fun x => hw2.keepT (by rw [next_new, next_put]; omega) fun j c h h1 h2 => by
        rw [get_new, next_put, if_neg (by omega)]
        exact prA x j c _ (by omega) h1 h (by decide)
      generalize hx1 : Blk.cells [.int .i64 a.lines, .sl (s2.next + 1) 0 (i + 1) none 1, w] 72 false 0 0 = X1 at *
      obtain ⟨s7, b1, c2, b3, b4, b5, b6⟩ := (hw5 X1).appT (by rw [next_new, next_put]; omega) cw nacw
      have fr7 := b6 ((fr4.put (by omega) _).new _)
      rw [next_new, next_put] at b1 c2 b3 b4
      rw [b1]
      have w11 : s7.get 11 = some (.cells [.int .i64 a.lines, .sl (s2.next + 1) 0 (i + 1) none 1, w] 72 false 0 0) := by rw [b5 11 (by omega), get_new, next_put, if_neg (by omega), get_put, if_pos rfl, hx1]
      simp (config := { maxSteps := 2000000 }) +contextual only [go_sem, ↓reduceIte, p5, p6, w11, hwr]
      have prB : ∀ y j c t', j ≠ 11 → j < s2.next → s2.get j = some (.cells c t' false 0 0) → t' ≠ 40 → t' ≠ 43 → (s7.put 11 y).get j = some (.cells c t' false 0 0) := fun y j c t' h1 h2 h3 h4 h5 => by
        rw [get_put, if_neg (fun e => h1 e.symm)]
        exact b4 j c t' 0 0 (by rw [get_new, next_put, if_neg (by omega)]; exact prA X1 j c t' h1 h2 h3 h4) (by omega) h5
      have low : ∀ y j, j < 11 → (s7.put 11 y).get j = s2.get j := fun y j hj => by
        rw [get_put, if_neg (by omega), b5 j (by omega), get_new, next_put, if_neg (by omega), get_put, if_neg (by omega), a5 j (by omega), get_new, if_neg (by omega)]
      have hvE : ∀ y, RowI (s7.put 11 y) 12 40 1 (i + 1) (cN ++ [cv]) (.sl (s2.next + 1) 0 (i + 1) none 1) := fun y => a3.keepT (by rw [next_put]; omega) fun j c h h1 h2 => by
        rw [get_put, if_neg (by omega)]
        exact b4 j c _ 0 0 (by rw [get_new, next_put, if_neg (by omega), get_put, if_neg (by omega)]; exact h) (by omega) (by decide)
      have hwE : ∀ y, RowI (s7.put 11 y) 12 43 1 (i + 1) (cF ++ [cw]) (.sl (s4.next + 1) 0 (i + 1) none 1) := fun y => b3.keepT (by rw [next_put]; omega) fun j c h h1 h2 => by
        rw [get_put, if_neg (by omega)]; exact h
      have blk3 : ∀ y c l, BlkI s2 b2 3 c l → BlkI (s7.put 11 y) b2 3 c l := fun y c l h => h.mono (by rw [next_put]; omega) (fun _ _ h => h) fun j h1 h2 h3 h5 => prB y j _ _ (by omega) h1 h5 (by decide) (by decide)
      have blk4 : ∀ y c l, BlkI s2 b2 4 c l → BlkI (s7.put 11 y) b2 4 c l := fun y c l h => h.mono (by rw [next_put]; omega) (fun _ _ h => h) fun j h1 h2 h3 h5 => prB y j _ _ (by omega) h1 h5 (by decide) (by decide)
      rw [List.append_cons] at hrun
      refine IH (i + 1) _ _ (by omega) ⟨?_, ?_, ?_, ?_, ?_, by rw [low _ 8 (by omega), u8], by rw [low _ 9 (by omega), u9], by rw [next_put]; omega, fr7.put (by omega) _, Lf, b2, cap2, acc ++ [(q, kf)], cN ++ [cv], cF ++ [cw], _, _, ?_, hcap2, prB _ _ _ _ (by omega) nb2 qb2 (by decide) (by decide), by rw [next_put]; omega, by omega, lt2, nd2, by rw [get_put, if_pos rfl], hvE _, hwE _, by simp [hacc], by simp [hcN], by simp [hcF], fun j h h' => ?_, fun j h h' => ?_, by omega, hrun⟩
      case refine_7 =>
        by_cases hj : j < acc.length
        · rw [List.getElem_append_left (by omega), List.getElem_append_left hj]
          exact blk3 _ _ _ (hBN2 j hj (by omega))
        · have hj : j = acc.length := by rw [List.length_append, List.length_singleton] at h; omega
          subst hj
          rw [List.getElem_append_right (by omega), List.getElem_append_right (by omega)]
          simp only [List.getElem_singleton]
          exact blk3 _ _ _ hbN
      case refine_8 =>
        by_cases hj : j < acc.length
        · rw [List.getElem_append_left (by omega), List.getElem_append_left hj]
          exact blk4 _ _ _ (hBF2 j hj (by omega))
        · have hj : j = acc.length := by rw [List.length_append, List.length_singleton] at h; omega
          subst hj
          rw [List.getElem_append_right (by omega), List.getElem_append_right (by omega)]
          simp only [List.getElem_singleton]
          exact blk4 _ _ _ hbF
      all_goals simp +contextual only [go_sem, ↓reduceIte, p1, p2, p3, p4, p5]
    case refine_15 => exact (fr.new _).new _
    case refine_14 => simp only [next_new]; omega
    case refine_13 => simp only [next_new]; omega
    case refine_12 => simp only [next_new]; omega
    case refine_11 => rw [get_new, next_new, if_pos rfl]
    case refine_10 => rw [get_new, next_new, if_neg (by omega), get_new, if_pos rfl, nats_rep]
    case refine_9 => rw [get_new, next_new, if_neg (by omega), get_new, if_neg (by omega), gb]
    case refine_8 => rw [get_new, next_new, if_neg (by omega), get_new, if_neg (by omega), gs]
    all_goals simp +contextual only [go_sem, ↓reduceIte, g1, g3, g4, g6]
    all_goals rfl
  · have hie : i = L.length := by omega
    have hno : bfsN id (tgt a.fa) (a.next.length + 1 - i) i L = [] := by
      rw [show a.next.length + 1 - i = (a.next.length - i) + 1 by omega, bfsN, List.getElem?_eq_none (by omega)]
    rw [hno, List.append_nil] at hrun
    have hle : decide ((i : Int) < (L.length : Int)) = false := by rw [nat_lt_dec]; simp; omega
    simp (config := { maxSteps := 2000000 }) +contextual only [go_sem, ↓reduceIte, r41_l1, g4, g6, hle]
    have keepS : ∀ S : St, S.next = s.next → (∀ j, j ≠ 9 → S.get j = s.get j) → RowI S 12 40 1 i cN v ∧ RowI S 12 43 1 i cF w ∧ (∀ j (h : j < acc.length) (h' : j < cN.length), BlkI S b 3 cN[j] (nats acc[j].2)) ∧ ∀ j (h : j < acc.length) (h' : j < cF.length), BlkI S b 4 cF[j] (bools (frow a.fa acc[j].1)) := fun S hn hg =>
      ⟨hv.keepT (by omega) fun j c h _ h2 => by rw [hg j (by omega)]; exact h, hw.keepT (by omega) fun j c h _ h2 => by rw [hg j (by omega)]; exact h,
        fun j h h' => (hBN j h h').mono (by omega) (fun _ _ h => h) fun j _ _ h3 h5 => by rw [hg j (by omega)]; exact h5, fun j h h' => (hBF j h h').mono (by omega) (fun _ _ h => h) fun j _ _ h3 h5 => by rw [hg j (by omega)]; exact h5⟩
    refine hk _ _ v w ?_ ?_ go g9 hv.noAgg hw.noAgg (fun S d hn hg => ?_) (fun S d hn hg => ?_)
    · simp +contextual only [go_sem, ↓reduceIte, g5]
    · simp +contextual only [go_sem, ↓reduceIte, g2]
    · obtain ⟨k1, k2, k3, k4⟩ := keepS S hn hg
      have k1 : RowI S 12 40 1 cN.length cN v := by rw [hcN]; exact k1
      have hna : cN.all noAgg = true := by
        rw [List.all_eq_true]
        intro x hx
        obtain ⟨j, hj, rfl⟩ := List.mem_iff_getElem.1 hx
        obtain ⟨_, e, _⟩ := k3 j (by omega) hj
        rw [e]; rfl
      rw [← hrun]
      exact k1.frz_one U ag_40 sz_40 hna (d := d + 2) (mapO_idx (by omega) fun j h h' => (k3 j h' h).frz ag_3 sz_3 (noAgg_ints _) (frz_ints _ _ _))
    · obtain ⟨k1, k2, k3, k4⟩ := keepS S hn hg
      have k2 : RowI S 12 43 1 cF.length cF w := by rw [hcF]; exact k2
      have hna : cF.all noAgg = true := by
        rw [List.all_eq_true]
        intro x hx
        obtain ⟨j, hj, rfl⟩ := List.mem_iff_getElem.1 hx
        obtain ⟨_, e, _⟩ := k4 j (by omega) hj
        rw [e]; rfl
      rw [← hrun]
      exact k2.frz_one U ag_43 sz_43 hna (d := d + 2) (mapO_idx (by omega) fun j h h' => (k4 j h' h).frz ag_4 sz_4 (noAgg_bools _) (frz_bools _ _ _))
theorem c41 {a : Auto} (ha : a.ok) : calV U 41 [encA a] = some (encA (minAutR a)) := by
  refine pure_go k41 (by kernel_rfl) (by simp [stills, still_encA]) ?_
  have h106 := c106 ha
  rw [encA_eq] at h106 ⊢
  have nn := noAgg_encS a.nNl (a.next.map encRow)
  have nf := noAgg_encS a.fNl (a.fires.map encFRow)
  have cn := cells_encS a.nNl (a.next.map encRow)
  have cf := cells_encS a.fNl (a.fires.map encFRow)
  have hA := ha.faok
  have o1 := ixa_natsF (l := clsL a.fa) (i := 0) (by rw [clsL_len hA]; exact ha.pos)
  rw [clsL_gt hA ha.pos] at o1
  have o1 : ixRA 1 (.fz (nats (clsL a.fa))) (.int .i64 0) = some (.fp [.int .i64 ((clsR a.fa 0 : Nat) : Int)] 0) := o1
  unfold encN encFs at h106 ⊢
  simp (config := { maxSteps := 2000000 }) +contextual only [go_sem, ↓reduceIte, r41, nn, nf, cn, cf, h106, o1]
  refine l41b ha ?_ ?_ ?_ ?_ ?_ ?_ ?_ ?_ ?_ ?_ ?_ ?_ ?_
  case refine_13 =>
    intro e' s' v w p5 p2 u11 u9 nav naw fv fw
    have hE : encA (minAutR a) = .agg [.int .i64 a.lines, encS true ((minR a.fa).map fun x => AV.fz (nats x.2)), encS true ((minR a.fa).map fun x => AV.fz (bools (frow a.fa x.1)))] := by
      rw [encA_eq, encN, encFs, minAutR]
      simp only [List.map_map]
      have e1 : ∀ x : Nat × List Nat, (encRow ∘ fun x : Nat × List Nat => (false, nIs x.2)) x = AV.fz (nats x.2) := fun x => by simp only [Function.comp, encRow, encS_fz]; rfl
      have e2 : ∀ x : Nat × List Nat, (encFRow ∘ fun x : Nat × List Nat => (false, frow a.fa x.1)) x = AV.fz (bools (frow a.fa x.1)) := fun x => by simp only [Function.comp, encFRow, encS_fz]
      rw [List.map_congr_left (fun x _ => e1 x), List.map_congr_left (fun x _ => e2 x)]
    have fv' := fun x => fv (s'.put 9 x) 36 (by rw [next_put]) fun j hj => by rw [get_put, if_neg (fun e => hj e.symm)]
    have fw' := fun x => fw (s'.put 9 x) 36 (by rw [next_put]) fun j hj => by rw [get_put, if_neg (fun e => hj e.symm)]
    rw [hE]
    simp (config := { maxSteps := 2000000 }) +contextual only [go_sem, ↓reduceIte, p5, p2, u11, u9, nav, naw, fv', fw']
  case refine_12 =>
    repeat first | exact Fr.own | apply Fr.new | apply Fr.put | apply Fr.upto
    all_goals simp +contextual only [go_sem, ↓reduceIte]
  all_goals simp +contextual only [go_sem, ↓reduceIte]
  all_goals rfl
end Go.Am

set_option linter.all false
namespace Go.Am
open Go
variable [MaxLen]
set_option maxRecDepth 100000
set_option maxHeartbeats 8000000

noncomputable def r104_l0 : RC := (.seq (.ops [⟨some 40, none, none, false, .bin .lss 3 false (.t 39) (.t 38)⟩]) (.seq (.cond (.t 40) .skip (.exit 2)) (.seq (.block 3 (.seq (.ops [⟨some 41, none, none, false, .ixa 1 (.t 37) (.t 39)⟩,
  ⟨some 42, none, none, false, .ld1 (.t 41)⟩,
  ⟨some 10, none, none, false, .mov (.t 42)⟩]) (.seq (.ops [⟨some 44, none, none, false, .mov (.t 4)⟩,
  ⟨some 45, none, none, false, .mov (.t 3)⟩,
  ⟨some 46, none, none, false, .mov (.t 10)⟩,
  ⟨some 47, none, none, false, .ixa 1 (.t 45) (.t 46)⟩,
  ⟨some 48, none, none, false, .ld1 (.t 47)⟩,
  ⟨some 49, none, none, false, .raw (.lookup 249 (.tmp 44) (.tmp 48) true)⟩,
  ⟨some 43, none, none, false, .mov (.t 49)⟩,
  ⟨some 50, none, none, false, .ext (.t 43) 0⟩,
  ⟨some 51, none, none, false, .ext (.t 43) 1⟩,
  ⟨some 11, none, none, false, .mov (.t 50)⟩,
  ⟨some 12, none, none, false, .mov (.t 51)⟩]) (.seq (.seq (.ops [⟨some 52, none, none, false, .mov (.t 12)⟩,
  ⟨some 53, none, none, false, .un .not (.t 52)⟩]) (.cond (.t 53) (.seq (.ops [⟨some 54, none, none, false, .mov (.t 5)⟩,
  ⟨some 55, none, none, false, .lenL (.t 54)⟩,
  ⟨some 11, none, none, false, .mov (.t 55)⟩]) (.seq (.ops [⟨some 56, none, none, false, .mov (.t 4)⟩,
  ⟨some 57, none, none, false, .mov (.t 3)⟩,
  ⟨some 58, none, none, false, .mov (.t 10)⟩,
  ⟨some 59, none, none, false, .ixa 1 (.t 57) (.t 58)⟩,
  ⟨some 60, none, none, false, .ld1 (.t 59)⟩,
  ⟨some 61, none, none, false, .mov (.t 11)⟩,
  ⟨none, none, none, false, .raw (.mapUpdate 249 (.tmp 56) (.tmp 60) (.tmp 61))⟩]) (.ops [⟨some 62, none, none, false, .mov (.t 5)⟩,
  ⟨some 63, none, none, false, .mov (.t 10)⟩,
  ⟨some 64, none, none, false, .bsl 3 1 1 [(.int .i64 0)] [(0, 1, (.t 63))]⟩,
  ⟨some 65, none, none, false, .app 3 1 8 (.t 62) (.t 64)⟩,
  ⟨some 5, none, none, false, .mov (.t 65)⟩]))) .skip)) (.ops [⟨some 66, none, none, false, .mov (.t 8)⟩,
  ⟨some 67, none, none, false, .mov (.t 11)⟩,
  ⟨some 68, none, none, false, .bsl 3 1 1 [(.int .i64 0)] [(0, 1, (.t 67))]⟩,
  ⟨some 69, none, none, false, .app 3 1 8 (.t 66) (.t 68)⟩,
  ⟨some 8, none, none, false, .mov (.t 69)⟩]))))) (.ops [⟨some 70, none, none, false, .bin .add 3 true (.t 39) (.v (.int .i64 1))⟩,
  ⟨some 39, none, none, false, .mov (.t 70)⟩]))))
noncomputable def q104_0 : Code := rawAt 104 0
theorem d104_0 : rcDrc U q104_0 = some (22, [(⟨some 71, none, none, false, .fa 1 (.t 6)⟩, none),
  (⟨some 72, none, none, false, .ld1 (.t 71)⟩, none),
  (⟨some 73, none, none, false, .mov (.t 8)⟩, none),
  (⟨some 74, none, some 3, false, .bsl 40 1 1 [.nils] [(0, 1, (.t 73))]⟩, none),
  (⟨some 75, none, none, true, .app 40 1 24 (.t 72) (.t 74)⟩, none),
  (⟨some 76, none, none, false, .fa 2 (.t 6)⟩, none),
  (⟨some 77, none, none, false, .ld1 (.t 76)⟩, some (0, 2)),
  (⟨some 78, none, none, false, .fa 2 (.t 1)⟩, none),
  (⟨some 79, none, none, false, .ld1 (.t 78)⟩, some (0, 1)),
  (⟨some 80, none, none, false, .mov (.t 5)⟩, none),
  (⟨some 81, none, none, false, .mov (.t 7)⟩, none),
  (⟨some 82, none, none, false, .ixa 1 (.t 80) (.t 81)⟩, none),
  (⟨some 83, none, none, false, .ld1 (.t 82)⟩, some (0, 1)),
  (⟨some 84, none, none, false, .ixa 1 (.t 79) (.t 83)⟩, none),
  (⟨some 85, none, none, false, .ld1 (.t 84)⟩, some (0, 1)),
  (⟨some 86, none, none, true, .call 173 [(.t 85)]⟩, none),
  (⟨some 87, none, some 16, false, .bsl 43 1 1 [.nils] [(0, 1, (.t 86))]⟩, none),
  (⟨some 88, none, none, true, .app 43 1 24 (.t 77) (.t 87)⟩, none),
  (⟨some 89, none, none, false, .fa 1 (.t 6)⟩, none),
  (⟨none, none, none, true, .st 1 (.t 89) (.t 75)⟩, none),
  (⟨some 90, none, none, false, .fa 2 (.t 6)⟩, none),
  (⟨none, none, none, true, .st 1 (.t 90) (.t 88)⟩, none)]) := by kernel_rfl
noncomputable def r104_l1 : RC := (.seq (.seq (.ops [⟨some 24, none, none, false, .mov (.t 7)⟩,
  ⟨some 25, none, none, false, .mov (.t 5)⟩,
  ⟨some 26, none, none, false, .lenL (.t 25)⟩,
  ⟨some 27, none, none, false, .bin .lss 3 false (.t 24) (.t 26)⟩]) (.cond (.t 27) .skip (.exit 0))) (.seq (.block 1 (.seq (.ops [⟨some 8, none, none, false, .mov (.v .nils)⟩]) (.seq (.seq (.drw 10 [⟨some 30, none, none, false, .fa 1 (.t 1)⟩,
  ⟨some 31, none, none, false, .ld1 (.t 30)⟩,
  ⟨some 32, none, none, false, .mov (.t 5)⟩,
  ⟨some 33, none, none, false, .mov (.t 7)⟩,
  ⟨some 34, none, none, false, .ixa 1 (.t 32) (.t 33)⟩,
  ⟨some 35, none, none, false, .ld1 (.t 34)⟩,
  ⟨some 36, none, none, false, .ixa 1 (.t 31) (.t 35)⟩,
  ⟨some 37, none, none, false, .ld1 (.t 36)⟩,
  ⟨some 38, none, none, false, .lenL (.t 37)⟩,
  ⟨some 39, none, none, false, .mov (.v (.int .i64 0))⟩]) (.block 2 (.loop r104_l0))) (.raw q104_0)))) (.ops [⟨some 28, none, none, false, .mov (.t 7)⟩,
  ⟨some 29, none, none, false, .bin .add 3 true (.t 28) (.v (.int .i64 1))⟩,
  ⟨some 7, none, none, false, .mov (.t 29)⟩])))
/-- strobe/trigger.minimal; results .cell 2 69 -/
noncomputable def r104 : RC := (.seq (.ops [⟨some 1, none, none, false, .box 69 (.t 0)⟩,
  ⟨some 2, none, none, false, .al [(.int .i64 0), .nils, .nils] 69⟩]) (.seq (.ops [⟨some 13, none, none, false, .ldn 3 (.t 1)⟩,
  ⟨some 14, none, none, false, .call 172 [(.t 13)]⟩,
  ⟨some 3, none, none, false, .mov (.t 14)⟩]) (.seq (.ops [⟨some 15, none, none, false, .raw (.makeMap 249 none)⟩,
  ⟨some 16, none, none, false, .mov (.t 3)⟩,
  ⟨some 17, none, none, false, .ixa 1 (.t 16) (.v (.int .i64 0))⟩,
  ⟨some 18, none, none, false, .ld1 (.t 17)⟩,
  ⟨none, none, none, false, .raw (.insert 249 (.tmp 15) (.tmp 18) (.const (.int .i64 0)))⟩,
  ⟨some 19, none, none, false, .mov (.t 15)⟩,
  ⟨some 4, none, none, false, .mov (.t 19)⟩]) (.seq (.ops [⟨some 20, none, none, false, .bsl 3 1 1 [(.int .i64 0)] [(0, 1, (.v (.int .i64 0)))]⟩,
  ⟨some 5, none, none, false, .mov (.t 20)⟩]) (.seq (.ops [⟨some 21, none, none, false, .fa 0 (.t 1)⟩,
  ⟨some 22, none, none, false, .ld1 (.t 21)⟩,
  ⟨some 23, none, none, false, .bld [(.int .i64 0), .nils, .nils] [(0, 1, (.t 22))]⟩,
  ⟨some 6, none, none, false, .al [(.int .i64 0), .nils, .nils] 69⟩,
  ⟨none, none, none, false, .st 3 (.t 6) (.t 23)⟩]) (.seq (.seq (.ops [⟨some 7, none, none, false, .mov (.v (.int .i64 0))⟩]) (.block 0 (.loop r104_l1))) (.seq (.ops [⟨some 91, none, none, false, .ldn 3 (.t 6)⟩,
  ⟨none, none, none, false, .st 3 (.t 2) (.t 91)⟩]) .ret)))))))
theorem k104 : fnRC 104 = some ([.cell 2 69], r104) := by kernel_rfl

noncomputable def q172_0 : Code := rawAt 172 0
theorem d172_0 : rcDrc U q172_0 = some (23, [(⟨some 47, none, none, false, .mov (.t 4)⟩, none),
  (⟨some 48, none, none, false, .mov (.t 5)⟩, none),
  (⟨some 49, none, none, false, .ixa 1 (.t 47) (.t 48)⟩, none),
  (⟨some 50, none, none, false, .ld1 (.t 49)⟩, some (0, 1)),
  (⟨some 51, none, none, false, .mov (.t 7)⟩, none),
  (⟨some 52, none, none, false, .mov (.t 5)⟩, none),
  (⟨some 53, none, none, false, .ixa 1 (.t 51) (.t 52)⟩, none),
  (⟨some 54, none, none, false, .ld1 (.t 53)⟩, some (0, 1)),
  (⟨some 55, none, none, false, .mov (.t 4)⟩, none),
  (⟨some 56, none, none, false, .mov (.t 5)⟩, none),
  (⟨some 57, none, none, false, .ixa 1 (.t 55) (.t 56)⟩, none),
  (⟨some 58, none, none, false, .ld1 (.t 57)⟩, none),
  (⟨some 59, none, none, false, .mov (.t 7)⟩, none),
  (⟨some 60, none, none, false, .mov (.t 5)⟩, none),
  (⟨some 61, none, none, false, .ixa 1 (.t 59) (.t 60)⟩, none),
  (⟨some 62, none, none, false, .ld1 (.t 61)⟩, none),
  (⟨some 63, none, none, false, .ixa 1 (.t 58) (.t 62)⟩, none),
  (⟨some 64, none, none, false, .ld1 (.t 63)⟩, none),
  (⟨some 65, none, none, false, .mov (.t 6)⟩, none),
  (⟨some 66, none, some 19, false, .bsl 3 1 1 [(.int .i64 0)] [(0, 1, (.t 65))]⟩, none),
  (⟨some 67, none, none, true, .app 3 1 8 (.t 64) (.t 66)⟩, none),
  (⟨some 68, none, none, false, .ixa 1 (.t 50) (.t 54)⟩, none),
  (⟨none, none, none, true, .st 1 (.t 68) (.t 67)⟩, none)]) := by kernel_rfl
noncomputable def r172_l0 : RC := (.seq (.ops [⟨some 43, none, none, false, .bin .lss 3 false (.t 42) (.t 41)⟩]) (.seq (.cond (.t 43) .skip (.exit 2)) (.seq (.block 3 (.seq (.ops [⟨some 44, none, none, false, .mov (.t 42)⟩,
  ⟨some 45, none, none, false, .ixa 1 (.t 40) (.t 42)⟩,
  ⟨some 46, none, none, false, .ld1 (.t 45)⟩,
  ⟨some 6, none, none, false, .mov (.t 44)⟩,
  ⟨some 7, none, none, false, .mov (.t 46)⟩]) (.raw q172_0))) (.ops [⟨some 69, none, none, false, .bin .add 3 true (.t 42) (.v (.int .i64 1))⟩,
  ⟨some 42, none, none, false, .mov (.t 69)⟩]))))
noncomputable def r172_l1 : RC := (.seq (.ops [⟨some 30, none, none, false, .bin .lss 3 false (.t 29) (.t 28)⟩]) (.seq (.cond (.t 30) .skip (.exit 0)) (.seq (.block 1 (.seq (.ops [⟨some 31, none, none, false, .mov (.t 29)⟩,
  ⟨some 5, none, none, false, .mov (.t 31)⟩]) (.seq (.ops [⟨some 32, none, none, false, .mov (.t 4)⟩,
  ⟨some 33, none, none, false, .mov (.t 5)⟩,
  ⟨some 34, none, none, false, .fa 1 (.t 1)⟩,
  ⟨some 35, none, none, false, .ld1 (.t 34)⟩,
  ⟨some 36, none, none, false, .lenL (.t 35)⟩,
  ⟨some 37, none, none, false, .raw (.makeSlice 66 (.tmp 36) (.tmp 36))⟩,
  ⟨some 38, none, none, false, .ixa 1 (.t 32) (.t 33)⟩,
  ⟨none, none, none, false, .st 1 (.t 38) (.t 37)⟩]) (.seq (.ops [⟨some 39, none, none, false, .fa 1 (.t 1)⟩,
  ⟨some 40, none, none, false, .ld1 (.t 39)⟩,
  ⟨some 41, none, none, false, .lenL (.t 40)⟩,
  ⟨some 42, none, none, false, .mov (.v (.int .i64 0))⟩]) (.block 2 (.loop r172_l0)))))) (.ops [⟨some 70, none, none, false, .bin .add 3 true (.t 29) (.v (.int .i64 1))⟩,
  ⟨some 29, none, none, false, .mov (.t 70)⟩]))))
noncomputable def r172_l2 : RC := (.seq (.ops [⟨some 77, none, none, false, .bin .lss 3 false (.t 76) (.t 75)⟩]) (.seq (.cond (.t 77) .skip (.exit 4)) (.seq (.block 5 (.seq (.ops [⟨some 78, none, none, false, .mov (.t 76)⟩,
  ⟨some 9, none, none, false, .mov (.t 78)⟩]) (.ops [⟨some 79, none, none, false, .mov (.t 8)⟩,
  ⟨some 80, none, none, false, .mov (.t 9)⟩,
  ⟨some 81, none, none, false, .bsl 3 1 1 [(.int .i64 0)] [(0, 1, (.t 80))]⟩,
  ⟨some 82, none, none, false, .app 3 1 8 (.t 79) (.t 81)⟩,
  ⟨some 8, none, none, false, .mov (.t 82)⟩]))) (.ops [⟨some 83, none, none, false, .bin .add 3 true (.t 76) (.v (.int .i64 1))⟩,
  ⟨some 76, none, none, false, .mov (.t 83)⟩]))))
noncomputable def r172_l3 : RC := (.seq (.ops [⟨some 138, none, none, false, .bin .lss 3 false (.t 137) (.t 136)⟩]) (.seq (.cond (.t 138) .skip (.exit 12)) (.seq (.block 13 (.seq (.ops [⟨some 139, none, none, false, .ixa 1 (.t 135) (.t 137)⟩,
  ⟨some 140, none, none, false, .ld1 (.t 139)⟩,
  ⟨some 17, none, none, false, .mov (.t 140)⟩]) (.seq (.ops [⟨some 141, none, none, false, .mov (.t 3)⟩,
  ⟨some 142, none, none, false, .mov (.t 17)⟩,
  ⟨some 143, none, none, false, .call 216 [(.t 141), (.t 142)]⟩]) (.cond (.t 143) (.ops [⟨some 144, none, none, false, .mov (.t 13)⟩,
  ⟨some 145, none, none, false, .mov (.t 3)⟩,
  ⟨some 146, none, none, false, .raw (.nilCheck (.tmp 145))⟩,
  ⟨some 147, none, none, false, .fa 2 (.t 146)⟩,
  ⟨some 148, none, none, false, .ld1 (.t 147)⟩,
  ⟨some 149, none, none, false, .mov (.t 17)⟩,
  ⟨some 150, none, none, false, .ixa 1 (.t 148) (.t 149)⟩,
  ⟨some 151, none, none, false, .ld1 (.t 150)⟩,
  ⟨some 152, none, none, false, .bsl 3 1 1 [(.int .i64 0)] [(0, 1, (.t 151))]⟩,
  ⟨some 153, none, none, false, .app 3 1 8 (.t 144) (.t 152)⟩,
  ⟨some 13, none, none, false, .mov (.t 153)⟩]) .skip)))) (.ops [⟨some 154, none, none, false, .bin .add 3 true (.t 137) (.v (.int .i64 1))⟩,
  ⟨some 137, none, none, false, .mov (.t 154)⟩]))))
noncomputable def r172_l4 : RC := (.seq (.ops [⟨some 126, none, none, false, .bin .lss 3 false (.t 125) (.t 124)⟩]) (.seq (.cond (.t 126) .skip (.exit 10)) (.seq (.block 11 (.seq (.ops [⟨some 127, none, none, false, .ixa 1 (.t 123) (.t 125)⟩,
  ⟨some 128, none, none, false, .ld1 (.t 127)⟩,
  ⟨some 15, none, none, false, .mov (.t 128)⟩]) (.seq (.ops [⟨some 129, none, none, false, .mov (.t 4)⟩,
  ⟨some 130, none, none, false, .mov (.t 12)⟩,
  ⟨some 131, none, none, false, .ixa 1 (.t 129) (.t 130)⟩,
  ⟨some 132, none, none, false, .ld1 (.t 131)⟩,
  ⟨some 133, none, none, false, .mov (.t 15)⟩,
  ⟨some 134, none, none, false, .ixa 1 (.t 132) (.t 133)⟩,
  ⟨some 135, none, none, false, .ld1 (.t 134)⟩,
  ⟨some 136, none, none, false, .lenL (.t 135)⟩,
  ⟨some 137, none, none, false, .mov (.v (.int .i64 0))⟩]) (.block 12 (.loop r172_l3))))) (.ops [⟨some 155, none, none, false, .bin .add 3 true (.t 125) (.v (.int .i64 1))⟩,
  ⟨some 125, none, none, false, .mov (.t 155)⟩]))))
noncomputable def r172_l5 : RC := (.seq (.ops [⟨some 159, none, none, false, .bin .lss 3 false (.t 158) (.t 157)⟩]) (.seq (.cond (.t 159) .skip (.exit 14)) (.seq (.block 15 (.seq (.ops [⟨some 160, none, none, false, .ixa 1 (.t 156) (.t 158)⟩,
  ⟨some 161, none, none, false, .ld1 (.t 160)⟩,
  ⟨some 19, none, none, false, .mov (.t 161)⟩]) (.seq (.ops [⟨some 162, none, none, false, .mov (.t 3)⟩,
  ⟨some 163, none, none, false, .mov (.t 19)⟩,
  ⟨some 164, none, none, false, .call 217 [(.t 162), (.t 163)]⟩,
  ⟨some 20, none, none, false, .mov (.t 164)⟩]) (.seq (.ops [⟨some 165, none, none, false, .mov (.t 20)⟩,
  ⟨some 166, none, none, false, .bin .geq 3 true (.t 165) (.v (.int .i64 0))⟩]) (.cond (.t 166) (.ops [⟨some 167, none, none, false, .mov (.t 8)⟩,
  ⟨some 168, none, none, false, .mov (.t 20)⟩,
  ⟨some 169, none, none, false, .bsl 3 1 1 [(.int .i64 0)] [(0, 1, (.t 168))]⟩,
  ⟨some 170, none, none, false, .app 3 1 8 (.t 167) (.t 169)⟩,
  ⟨some 8, none, none, false, .mov (.t 170)⟩]) .skip))))) (.ops [⟨some 171, none, none, false, .bin .add 3 true (.t 158) (.v (.int .i64 1))⟩,
  ⟨some 158, none, none, false, .mov (.t 171)⟩]))))
noncomputable def r172_l6 : RC := (.seq (.ops [⟨some 121, none, none, false, .bin .lss 3 false (.t 120) (.t 119)⟩]) (.seq (.cond (.t 121) .skip (.exit 8)) (.seq (.block 9 (.seq (.ops [⟨some 122, none, none, false, .mov (.t 120)⟩,
  ⟨some 12, none, none, false, .mov (.t 122)⟩]) (.seq (.ops [⟨some 13, none, none, false, .mov (.v .nils)⟩]) (.seq (.seq (.ops [⟨some 123, none, none, false, .mov (.t 11)⟩,
  ⟨some 124, none, none, false, .lenL (.t 123)⟩,
  ⟨some 125, none, none, false, .mov (.v (.int .i64 0))⟩]) (.block 10 (.loop r172_l4))) (.seq (.ops [⟨some 156, none, none, false, .mov (.t 13)⟩,
  ⟨some 157, none, none, false, .lenL (.t 156)⟩,
  ⟨some 158, none, none, false, .mov (.v (.int .i64 0))⟩]) (.block 14 (.loop r172_l5))))))) (.ops [⟨some 172, none, none, false, .bin .add 3 true (.t 120) (.v (.int .i64 1))⟩,
  ⟨some 120, none, none, false, .mov (.t 172)⟩]))))
noncomputable def r172_l7 : RC := (.seq (.seq (.ops [⟨some 84, none, none, false, .mov (.t 8)⟩,
  ⟨some 85, none, none, false, .lenL (.t 84)⟩,
  ⟨some 86, none, none, false, .bin .gtr 3 true (.t 85) (.v (.int .i64 0))⟩]) (.cond (.t 86) .skip (.exit 6))) (.block 7 (.seq (.ops [⟨some 87, none, none, false, .mov (.t 8)⟩,
  ⟨some 88, none, none, false, .mov (.t 8)⟩,
  ⟨some 89, none, none, false, .lenL (.t 88)⟩,
  ⟨some 90, none, none, false, .bin .sub 3 true (.t 89) (.v (.int .i64 1))⟩,
  ⟨some 91, none, none, false, .ixa 1 (.t 87) (.t 90)⟩,
  ⟨some 92, none, none, false, .ld1 (.t 91)⟩,
  ⟨some 10, none, none, false, .mov (.t 92)⟩]) (.seq (.ops [⟨some 93, none, none, false, .mov (.t 8)⟩,
  ⟨some 94, none, none, false, .mov (.t 8)⟩,
  ⟨some 95, none, none, false, .lenL (.t 94)⟩,
  ⟨some 96, none, none, false, .bin .sub 3 true (.t 95) (.v (.int .i64 1))⟩,
  ⟨some 97, none, none, false, .sll 1 (.t 93) none (some (.t 96))⟩,
  ⟨some 8, none, none, false, .mov (.t 97)⟩]) (.seq (.drw 21 [⟨some 98, none, none, false, .mov (.t 3)⟩,
  ⟨some 99, none, none, false, .raw (.nilCheck (.tmp 98))⟩,
  ⟨some 100, none, none, false, .fa 0 (.t 99)⟩,
  ⟨some 101, none, none, false, .ld1 (.t 100)⟩,
  ⟨some 102, none, none, false, .mov (.t 3)⟩,
  ⟨some 103, none, none, false, .raw (.nilCheck (.tmp 102))⟩,
  ⟨some 104, none, none, false, .fa 3 (.t 103)⟩,
  ⟨some 105, none, none, false, .ld1 (.t 104)⟩,
  ⟨some 106, none, none, false, .mov (.t 10)⟩,
  ⟨some 107, none, none, false, .ixa 1 (.t 105) (.t 106)⟩,
  ⟨some 108, none, none, false, .ld1 (.t 107)⟩,
  ⟨some 109, none, none, false, .mov (.t 3)⟩,
  ⟨some 110, none, none, false, .raw (.nilCheck (.tmp 109))⟩,
  ⟨some 111, none, none, false, .fa 4 (.t 110)⟩,
  ⟨some 112, none, none, false, .ld1 (.t 111)⟩,
  ⟨some 113, none, none, false, .mov (.t 10)⟩,
  ⟨some 114, none, none, false, .ixa 1 (.t 112) (.t 113)⟩,
  ⟨some 115, none, none, false, .ld1 (.t 114)⟩,
  ⟨some 116, none, none, false, .sll 1 (.t 101) (some (.t 108)) (some (.t 115))⟩,
  ⟨some 117, none, none, true, .call 215 [(.t 116)]⟩,
  ⟨some 11, none, none, false, .mov (.t 117)⟩]) (.seq (.ops [⟨some 118, none, none, false, .mov (.t 4)⟩,
  ⟨some 119, none, none, false, .lenL (.t 118)⟩,
  ⟨some 120, none, none, false, .mov (.v (.int .i64 0))⟩]) (.block 8 (.loop r172_l6))))))))
/-- strobe/trigger.classes; results .tmp 2 -/
noncomputable def r172 : RC := (.seq (.ops [⟨some 1, none, none, false, .box 69 (.t 0)⟩,
  ⟨some 2, none, none, false, .mov (.v .nils)⟩]) (.seq (.ops [⟨some 21, none, none, false, .ldn 3 (.t 1)⟩,
  ⟨some 22, none, none, false, .call 214 [(.t 21)]⟩,
  ⟨some 3, none, none, false, .mov (.t 22)⟩]) (.seq (.ops [⟨some 23, none, none, false, .fa 0 (.t 1)⟩,
  ⟨some 24, none, none, false, .ld1 (.t 23)⟩,
  ⟨some 25, none, none, false, .bin .shl 3 true (.v (.int .i64 1)) (.t 24)⟩,
  ⟨some 26, none, none, false, .raw (.makeSlice 283 (.tmp 25) (.tmp 25))⟩,
  ⟨some 4, none, none, false, .mov (.t 26)⟩]) (.seq (.seq (.ops [⟨some 27, none, none, false, .mov (.t 4)⟩,
  ⟨some 28, none, none, false, .lenL (.t 27)⟩,
  ⟨some 29, none, none, false, .mov (.v (.int .i64 0))⟩]) (.block 0 (.loop r172_l1))) (.seq (.ops [⟨some 8, none, none, false, .mov (.v .nils)⟩]) (.seq (.seq (.ops [⟨some 71, none, none, false, .mov (.t 3)⟩,
  ⟨some 72, none, none, false, .raw (.nilCheck (.tmp 71))⟩,
  ⟨some 73, none, none, false, .fa 3 (.t 72)⟩,
  ⟨some 74, none, none, false, .ld1 (.t 73)⟩,
  ⟨some 75, none, none, false, .lenL (.t 74)⟩,
  ⟨some 76, none, none, false, .mov (.v (.int .i64 0))⟩]) (.block 4 (.loop r172_l2))) (.seq (.block 6 (.loop r172_l7)) (.seq (.ops [⟨some 173, none, none, false, .mov (.t 3)⟩,
  ⟨some 174, none, none, false, .raw (.nilCheck (.tmp 173))⟩,
  ⟨some 175, none, none, false, .fa 2 (.t 174)⟩,
  ⟨some 176, none, none, false, .ld1 (.t 175)⟩,
  ⟨some 2, none, none, false, .mov (.t 176)⟩]) .ret))))))))
theorem k172 : fnRC 172 = some ([.tmp 2], r172) := by kernel_rfl

noncomputable def q214_0 : Code := rawAt 214 0
theorem d214_0 : rcDrc U q214_0 = some (11, [(⟨some 16, none, none, false, .fa 1 (.t 1)⟩, none),
  (⟨some 17, none, none, false, .ld1 (.t 16)⟩, none),
  (⟨some 18, none, none, false, .lenL (.t 17)⟩, none),
  (⟨some 19, none, some 3, false, .raw (.makeSlice 40 (.tmp 18) (.tmp 18))⟩, none),
  (⟨some 20, none, none, false, .fa 1 (.t 1)⟩, none),
  (⟨some 21, none, none, false, .ld1 (.t 20)⟩, some (0, 0)),
  (⟨some 22, none, none, false, .lenL (.t 21)⟩, some (0, 0)),
  (⟨some 23, none, some 7, false, .raw (.makeSlice 40 (.tmp 22) (.tmp 22))⟩, none),
  (⟨some 24, none, none, false, .bld [.nils, .nils, .nils, .nils, .nils, .nils] [(1, 1, (.t 19)), (2, 1, (.t 23))]⟩, none),
  (⟨some 25, none, some 9, false, .box 285 (.t 24)⟩, none),
  (⟨some 3, none, none, false, .mov (.t 25)⟩, none)]) := by kernel_rfl
noncomputable def r214_l0 : RC := (.seq (.ops [⟨some 38, none, none, false, .bin .lss 3 false (.t 37) (.t 36)⟩]) (.seq (.cond (.t 38) .skip (.exit 2)) (.seq (.block 3 (.seq (.ops [⟨some 39, none, none, false, .ixa 1 (.t 35) (.t 37)⟩,
  ⟨some 40, none, none, false, .ld1 (.t 39)⟩,
  ⟨some 10, none, none, false, .mov (.t 40)⟩]) (.ops [⟨some 41, none, none, false, .mov (.t 10)⟩,
  ⟨some 42, none, none, false, .call 244 [(.t 41)]⟩,
  ⟨some 43, none, none, false, .call 131 [(.t 8), (.t 42)]⟩]))) (.ops [⟨some 44, none, none, false, .bin .add 3 true (.t 37) (.v (.int .i64 1))⟩,
  ⟨some 37, none, none, false, .mov (.t 44)⟩]))))
noncomputable def r214_l1 : RC := (.seq (.ops [⟨some 31, none, none, false, .bin .lss 3 false (.t 30) (.t 29)⟩]) (.seq (.cond (.t 31) .skip (.exit 0)) (.seq (.block 1 (.seq (.ops [⟨some 32, none, none, false, .mov (.t 30)⟩,
  ⟨some 33, none, none, false, .ixa 1 (.t 28) (.t 30)⟩,
  ⟨some 34, none, none, false, .ld1 (.t 33)⟩,
  ⟨some 6, none, none, false, .mov (.t 32)⟩,
  ⟨some 7, none, none, false, .mov (.t 34)⟩]) (.seq (.ops [⟨some 8, none, none, false, .al [.nilp, .nils] 207⟩]) (.seq (.seq (.ops [⟨some 35, none, none, false, .mov (.t 7)⟩,
  ⟨some 36, none, none, false, .lenL (.t 35)⟩,
  ⟨some 37, none, none, false, .mov (.v (.int .i64 0))⟩]) (.block 2 (.loop r214_l0))) (.seq (.ops [⟨some 45, none, none, false, .call 133 [(.t 8)]⟩,
  ⟨some 11, none, none, false, .mov (.t 45)⟩]) (.seq (.seq (.ops [⟨some 46, none, none, false, .mov (.t 4)⟩,
  ⟨some 47, none, none, false, .mov (.t 11)⟩,
  ⟨some 48, none, none, false, .raw (.lookup 310 (.tmp 46) (.tmp 47) false)⟩,
  ⟨some 49, none, none, false, .lenL (.t 48)⟩,
  ⟨some 50, none, none, false, .bin .eql 3 true (.t 49) (.v (.int .i64 0))⟩]) (.cond (.t 50) (.ops [⟨some 51, none, none, false, .mov (.t 5)⟩,
  ⟨some 52, none, none, false, .mov (.t 11)⟩,
  ⟨some 53, none, none, false, .bsl 9 1 1 [(.str [])] [(0, 1, (.t 52))]⟩,
  ⟨some 54, none, none, false, .app 9 1 16 (.t 51) (.t 53)⟩,
  ⟨some 5, none, none, false, .mov (.t 54)⟩]) .skip)) (.ops [⟨some 55, none, none, false, .mov (.t 4)⟩,
  ⟨some 56, none, none, false, .mov (.t 11)⟩,
  ⟨some 57, none, none, false, .mov (.t 4)⟩,
  ⟨some 58, none, none, false, .mov (.t 11)⟩,
  ⟨some 59, none, none, false, .raw (.lookup 310 (.tmp 57) (.tmp 58) false)⟩,
  ⟨some 60, none, none, false, .mov (.t 6)⟩,
  ⟨some 61, none, none, false, .bsl 3 1 1 [(.int .i64 0)] [(0, 1, (.t 60))]⟩,
  ⟨some 62, none, none, false, .app 3 1 8 (.t 59) (.t 61)⟩,
  ⟨none, none, none, false, .raw (.mapUpdate 310 (.tmp 55) (.tmp 56) (.tmp 62))⟩]))))))) (.ops [⟨some 63, none, none, false, .bin .add 3 true (.t 30) (.v (.int .i64 1))⟩,
  ⟨some 30, none, none, false, .mov (.t 63)⟩]))))
noncomputable def q214_1 : Code := rawAt 214 1
theorem d214_1 : rcDrc U q214_1 = some (25, [(⟨some 71, none, none, false, .mov (.t 3)⟩, none),
  (⟨some 72, none, none, false, .mov (.t 3)⟩, none),
  (⟨some 73, none, none, false, .mov (.t 3)⟩, none),
  (⟨some 74, none, none, false, .raw (.nilCheck (.tmp 73))⟩, none),
  (⟨some 75, none, none, false, .fa 3 (.t 74)⟩, none),
  (⟨some 76, none, none, false, .ld1 (.t 75)⟩, none),
  (⟨some 77, none, none, false, .mov (.t 3)⟩, none),
  (⟨some 78, none, none, false, .raw (.nilCheck (.tmp 77))⟩, none),
  (⟨some 79, none, none, false, .fa 0 (.t 78)⟩, none),
  (⟨some 80, none, none, false, .ld1 (.t 79)⟩, none),
  (⟨some 81, none, none, false, .lenL (.t 80)⟩, none),
  (⟨some 82, none, some 11, false, .bsl 3 1 1 [(.int .i64 0)] [(0, 1, (.t 81))]⟩, none),
  (⟨some 83, none, none, true, .app 3 1 8 (.t 76) (.t 82)⟩, none),
  (⟨some 84, none, none, false, .mov (.t 3)⟩, none),
  (⟨some 85, none, none, false, .raw (.nilCheck (.tmp 84))⟩, none),
  (⟨some 86, none, none, false, .fa 5 (.t 85)⟩, none),
  (⟨some 87, none, none, false, .ld1 (.t 86)⟩, some (0, 1)),
  (⟨some 88, none, some 17, false, .bsl 3 1 1 [(.int .i64 0)] [(0, 1, (.v (.int .i64 0)))]⟩, none),
  (⟨some 89, none, none, true, .app 3 1 8 (.t 87) (.t 88)⟩, none),
  (⟨some 90, none, none, false, .raw (.nilCheck (.tmp 71))⟩, none),
  (⟨some 91, none, none, false, .fa 3 (.t 90)⟩, none),
  (⟨none, none, none, true, .st 1 (.t 91) (.t 83)⟩, none),
  (⟨some 92, none, none, false, .raw (.nilCheck (.tmp 72))⟩, none),
  (⟨some 93, none, none, false, .fa 5 (.t 92)⟩, none),
  (⟨none, none, none, true, .st 1 (.t 93) (.t 89)⟩, none)]) := by kernel_rfl
noncomputable def r214_l2 : RC := (.seq (.ops [⟨some 99, none, none, false, .bin .lss 3 false (.t 98) (.t 97)⟩]) (.seq (.cond (.t 99) .skip (.exit 6)) (.seq (.block 7 (.seq (.ops [⟨some 100, none, none, false, .ixa 1 (.t 96) (.t 98)⟩,
  ⟨some 101, none, none, false, .ld1 (.t 100)⟩,
  ⟨some 15, none, none, false, .mov (.t 101)⟩]) (.seq (.drw 20 [⟨some 102, none, none, false, .mov (.t 3)⟩,
  ⟨some 103, none, none, false, .raw (.nilCheck (.tmp 102))⟩,
  ⟨some 104, none, none, false, .fa 1 (.t 103)⟩,
  ⟨some 105, none, none, false, .ld1 (.t 104)⟩,
  ⟨some 106, none, none, false, .mov (.t 15)⟩,
  ⟨some 107, none, none, false, .mov (.t 3)⟩,
  ⟨some 108, none, none, false, .raw (.nilCheck (.tmp 107))⟩,
  ⟨some 109, none, none, false, .fa 2 (.t 108)⟩,
  ⟨some 110, none, none, false, .ld1 (.t 109)⟩,
  ⟨some 111, none, none, false, .mov (.t 15)⟩,
  ⟨some 112, none, none, false, .mov (.t 3)⟩,
  ⟨some 113, none, none, false, .raw (.nilCheck (.tmp 112))⟩,
  ⟨some 114, none, none, false, .fa 0 (.t 113)⟩,
  ⟨some 115, none, none, false, .ld1 (.t 114)⟩,
  ⟨some 116, none, none, false, .lenL (.t 115)⟩,
  ⟨some 117, none, none, false, .mov (.t 12)⟩,
  ⟨some 118, none, none, false, .ixa 1 (.t 105) (.t 106)⟩,
  ⟨none, none, none, true, .st 1 (.t 118) (.t 116)⟩,
  ⟨some 119, none, none, false, .ixa 1 (.t 110) (.t 111)⟩,
  ⟨none, none, none, true, .st 1 (.t 119) (.t 117)⟩]) (.ops [⟨some 120, none, none, false, .mov (.t 3)⟩,
  ⟨some 121, none, none, false, .mov (.t 3)⟩,
  ⟨some 122, none, none, false, .raw (.nilCheck (.tmp 121))⟩,
  ⟨some 123, none, none, false, .fa 0 (.t 122)⟩,
  ⟨some 124, none, none, false, .ld1 (.t 123)⟩,
  ⟨some 125, none, none, false, .mov (.t 15)⟩,
  ⟨some 126, none, none, false, .bsl 3 1 1 [(.int .i64 0)] [(0, 1, (.t 125))]⟩,
  ⟨some 127, none, none, false, .app 3 1 8 (.t 124) (.t 126)⟩,
  ⟨some 128, none, none, false, .raw (.nilCheck (.tmp 120))⟩,
  ⟨some 129, none, none, false, .fa 0 (.t 128)⟩,
  ⟨none, none, none, false, .st 1 (.t 129) (.t 127)⟩])))) (.ops [⟨some 130, none, none, false, .bin .add 3 true (.t 98) (.v (.int .i64 1))⟩,
  ⟨some 98, none, none, false, .mov (.t 130)⟩]))))
noncomputable def r214_l3 : RC := (.seq (.ops [⟨some 67, none, none, false, .bin .lss 3 false (.t 66) (.t 65)⟩]) (.seq (.cond (.t 67) .skip (.exit 4)) (.seq (.block 5 (.seq (.ops [⟨some 68, none, none, false, .mov (.t 66)⟩,
  ⟨some 69, none, none, false, .ixa 1 (.t 64) (.t 66)⟩,
  ⟨some 70, none, none, false, .ld1 (.t 69)⟩,
  ⟨some 12, none, none, false, .mov (.t 68)⟩,
  ⟨some 13, none, none, false, .mov (.t 70)⟩]) (.seq (.raw q214_1) (.seq (.seq (.ops [⟨some 94, none, none, false, .mov (.t 4)⟩,
  ⟨some 95, none, none, false, .mov (.t 13)⟩,
  ⟨some 96, none, none, false, .raw (.lookup 310 (.tmp 94) (.tmp 95) false)⟩,
  ⟨some 97, none, none, false, .lenL (.t 96)⟩,
  ⟨some 98, none, none, false, .mov (.v (.int .i64 0))⟩]) (.block 6 (.loop r214_l2))) (.drw 15 [⟨some 131, none, none, false, .mov (.t 3)⟩,
  ⟨some 132, none, none, false, .mov (.t 3)⟩,
  ⟨some 133, none, none, false, .raw (.nilCheck (.tmp 132))⟩,
  ⟨some 134, none, none, false, .fa 4 (.t 133)⟩,
  ⟨some 135, none, none, false, .ld1 (.t 134)⟩,
  ⟨some 136, none, none, false, .mov (.t 3)⟩,
  ⟨some 137, none, none, false, .raw (.nilCheck (.tmp 136))⟩,
  ⟨some 138, none, none, false, .fa 0 (.t 137)⟩,
  ⟨some 139, none, none, false, .ld1 (.t 138)⟩,
  ⟨some 140, none, none, false, .lenL (.t 139)⟩,
  ⟨some 141, none, some 10, false, .bsl 3 1 1 [(.int .i64 0)] [(0, 1, (.t 140))]⟩,
  ⟨some 142, none, none, true, .app 3 1 8 (.t 135) (.t 141)⟩,
  ⟨some 143, none, none, false, .raw (.nilCheck (.tmp 131))⟩,
  ⟨some 144, none, none, false, .fa 4 (.t 143)⟩,
  ⟨none, none, none, true, .st 1 (.t 144) (.t 142)⟩]))))) (.ops [⟨some 145, none, none, false, .bin .add 3 true (.t 66) (.v (.int .i64 1))⟩,
  ⟨some 66, none, none, false, .mov (.t 145)⟩]))))
/-- strobe/trigger.rows; results .tmp 2 -/
noncomputable def r214 : RC := (.seq (.ops [⟨some 1, none, none, false, .box 69 (.t 0)⟩,
  ⟨some 2, none, none, false, .mov (.v .nilp)⟩]) (.seq (.raw q214_0) (.seq (.ops [⟨some 26, none, none, false, .raw (.makeMap 310 none)⟩,
  ⟨some 4, none, none, false, .mov (.t 26)⟩]) (.seq (.ops [⟨some 5, none, none, false, .mov (.v .nils)⟩]) (.seq (.seq (.ops [⟨some 27, none, none, false, .fa 2 (.t 1)⟩,
  ⟨some 28, none, none, false, .ld1 (.t 27)⟩,
  ⟨some 29, none, none, false, .lenL (.t 28)⟩,
  ⟨some 30, none, none, false, .mov (.v (.int .i64 0))⟩]) (.block 0 (.loop r214_l1))) (.seq (.seq (.ops [⟨some 64, none, none, false, .mov (.t 5)⟩,
  ⟨some 65, none, none, false, .lenL (.t 64)⟩,
  ⟨some 66, none, none, false, .mov (.v (.int .i64 0))⟩]) (.block 4 (.loop r214_l3))) (.seq (.ops [⟨some 146, none, none, false, .mov (.t 3)⟩,
  ⟨some 2, none, none, false, .mov (.t 146)⟩]) .ret)))))))
theorem k214 : fnRC 214 = some ([.tmp 2], r214) := by kernel_rfl

noncomputable def q217_0 : Code := rawAt 217 0
theorem d217_0 : rcDrc U q217_0 = some (32, [(⟨some 84, none, none, false, .mov (.t 0)⟩, none),
  (⟨some 85, none, none, false, .mov (.t 0)⟩, none),
  (⟨some 86, none, none, false, .mov (.t 0)⟩, none),
  (⟨some 87, none, none, false, .mov (.t 0)⟩, none),
  (⟨some 88, none, none, false, .raw (.nilCheck (.tmp 87))⟩, none),
  (⟨some 89, none, none, false, .fa 3 (.t 88)⟩, none),
  (⟨some 90, none, none, false, .ld1 (.t 89)⟩, none),
  (⟨some 91, none, none, false, .mov (.t 7)⟩, none),
  (⟨some 92, none, some 8, false, .bsl 3 1 1 [(.int .i64 0)] [(0, 1, (.t 91))]⟩, none),
  (⟨some 93, none, none, true, .app 3 1 8 (.t 90) (.t 92)⟩, none),
  (⟨some 94, none, none, false, .mov (.t 0)⟩, none),
  (⟨some 95, none, none, false, .raw (.nilCheck (.tmp 94))⟩, none),
  (⟨some 96, none, none, false, .fa 4 (.t 95)⟩, none),
  (⟨some 97, none, none, false, .ld1 (.t 96)⟩, some (0, 1)),
  (⟨some 98, none, none, false, .mov (.t 8)⟩, none),
  (⟨some 99, none, some 15, false, .bsl 3 1 1 [(.int .i64 0)] [(0, 1, (.t 98))]⟩, none),
  (⟨some 100, none, none, true, .app 3 1 8 (.t 97) (.t 99)⟩, none),
  (⟨some 101, none, none, false, .mov (.t 0)⟩, none),
  (⟨some 102, none, none, false, .raw (.nilCheck (.tmp 101))⟩, none),
  (⟨some 103, none, none, false, .fa 5 (.t 102)⟩, none),
  (⟨some 104, none, none, false, .ld1 (.t 103)⟩, some (0, 2)),
  (⟨some 105, none, some 21, false, .bsl 3 1 1 [(.int .i64 0)] [(0, 1, (.v (.int .i64 0)))]⟩, none),
  (⟨some 106, none, none, true, .app 3 1 8 (.t 104) (.t 105)⟩, none),
  (⟨some 107, none, none, false, .raw (.nilCheck (.tmp 84))⟩, none),
  (⟨some 108, none, none, false, .fa 3 (.t 107)⟩, none),
  (⟨none, none, none, true, .st 1 (.t 108) (.t 93)⟩, none),
  (⟨some 109, none, none, false, .raw (.nilCheck (.tmp 85))⟩, none),
  (⟨some 110, none, none, false, .fa 4 (.t 109)⟩, none),
  (⟨none, none, none, true, .st 1 (.t 110) (.t 100)⟩, none),
  (⟨some 111, none, none, false, .raw (.nilCheck (.tmp 86))⟩, none),
  (⟨some 112, none, none, false, .fa 5 (.t 111)⟩, none),
  (⟨none, none, none, true, .st 1 (.t 112) (.t 106)⟩, none)]) := by kernel_rfl
noncomputable def r217_l0 : RC := (.seq (.ops [⟨some 122, none, none, false, .bin .lss 3 false (.t 121) (.t 120)⟩]) (.seq (.cond (.t 122) .skip (.exit 0)) (.seq (.block 1 (.seq (.ops [⟨some 123, none, none, false, .ixa 1 (.t 119) (.t 121)⟩,
  ⟨some 124, none, none, false, .ld1 (.t 123)⟩,
  ⟨some 10, none, none, false, .mov (.t 124)⟩]) (.drw 13 [⟨some 125, none, none, false, .mov (.t 0)⟩,
  ⟨some 126, none, none, false, .raw (.nilCheck (.tmp 125))⟩,
  ⟨some 127, none, none, false, .fa 2 (.t 126)⟩,
  ⟨some 128, none, none, false, .ld1 (.t 127)⟩,
  ⟨some 129, none, none, false, .mov (.t 10)⟩,
  ⟨some 130, none, none, false, .mov (.t 0)⟩,
  ⟨some 131, none, none, false, .raw (.nilCheck (.tmp 130))⟩,
  ⟨some 132, none, none, false, .fa 3 (.t 131)⟩,
  ⟨some 133, none, none, false, .ld1 (.t 132)⟩,
  ⟨some 134, none, none, false, .lenL (.t 133)⟩,
  ⟨some 135, none, none, false, .bin .sub 3 true (.t 134) (.v (.int .i64 1))⟩,
  ⟨some 136, none, none, false, .ixa 1 (.t 128) (.t 129)⟩,
  ⟨none, none, none, true, .st 1 (.t 136) (.t 135)⟩]))) (.ops [⟨some 137, none, none, false, .bin .add 3 true (.t 121) (.v (.int .i64 1))⟩,
  ⟨some 121, none, none, false, .mov (.t 137)⟩]))))
/-- (*strobe/trigger.parted).split; results .tmp 4 -/
noncomputable def r217 : RC := (.seq (.ops [⟨some 4, none, none, false, .mov (.v (.int .i64 0))⟩]) (.seq (.drw 24 [⟨some 11, none, none, false, .mov (.t 0)⟩,
  ⟨some 12, none, none, false, .raw (.nilCheck (.tmp 11))⟩,
  ⟨some 13, none, none, false, .fa 5 (.t 12)⟩,
  ⟨some 14, none, none, false, .ld1 (.t 13)⟩,
  ⟨some 15, none, none, false, .mov (.t 1)⟩,
  ⟨some 16, none, none, false, .ixa 1 (.t 14) (.t 15)⟩,
  ⟨some 17, none, none, false, .ld1 (.t 16)⟩,
  ⟨some 18, none, none, false, .mov (.t 0)⟩,
  ⟨some 19, none, none, false, .raw (.nilCheck (.tmp 18))⟩,
  ⟨some 20, none, none, false, .fa 4 (.t 19)⟩,
  ⟨some 21, none, none, false, .ld1 (.t 20)⟩,
  ⟨some 22, none, none, false, .mov (.t 1)⟩,
  ⟨some 23, none, none, false, .ixa 1 (.t 21) (.t 22)⟩,
  ⟨some 24, none, none, false, .ld1 (.t 23)⟩,
  ⟨some 25, none, none, false, .mov (.t 0)⟩,
  ⟨some 26, none, none, false, .raw (.nilCheck (.tmp 25))⟩,
  ⟨some 27, none, none, false, .fa 3 (.t 26)⟩,
  ⟨some 28, none, none, false, .ld1 (.t 27)⟩,
  ⟨some 29, none, none, false, .mov (.t 1)⟩,
  ⟨some 30, none, none, false, .ixa 1 (.t 28) (.t 29)⟩,
  ⟨some 31, none, none, false, .ld1 (.t 30)⟩,
  ⟨some 32, none, none, false, .bin .sub 3 false (.t 24) (.t 31)⟩,
  ⟨some 5, none, none, false, .mov (.t 17)⟩,
  ⟨some 6, none, none, false, .mov (.t 32)⟩]) (.seq (.ops [⟨some 33, none, none, false, .mov (.t 0)⟩,
  ⟨some 34, none, none, false, .raw (.nilCheck (.tmp 33))⟩,
  ⟨some 35, none, none, false, .fa 5 (.t 34)⟩,
  ⟨some 36, none, none, false, .ld1 (.t 35)⟩,
  ⟨some 37, none, none, false, .mov (.t 1)⟩,
  ⟨some 38, none, none, false, .ixa 1 (.t 36) (.t 37)⟩,
  ⟨none, none, none, false, .st 1 (.t 38) (.v (.int .i64 0))⟩]) (.seq (.seq (.ops [⟨some 39, none, none, false, .mov (.t 5)⟩,
  ⟨some 40, none, none, false, .mov (.t 6)⟩,
  ⟨some 41, none, none, false, .bin .eql 3 false (.t 39) (.t 40)⟩]) (.cond (.t 41) (.seq (.ops [⟨some 4, none, none, false, .mov (.v (.int .i64 (-1)))⟩]) .ret) .skip)) (.seq (.drw 18 [⟨some 42, none, none, false, .mov (.t 0)⟩,
  ⟨some 43, none, none, false, .raw (.nilCheck (.tmp 42))⟩,
  ⟨some 44, none, none, false, .fa 3 (.t 43)⟩,
  ⟨some 45, none, none, false, .ld1 (.t 44)⟩,
  ⟨some 46, none, none, false, .mov (.t 1)⟩,
  ⟨some 47, none, none, false, .ixa 1 (.t 45) (.t 46)⟩,
  ⟨some 48, none, none, false, .ld1 (.t 47)⟩,
  ⟨some 49, none, none, false, .mov (.t 0)⟩,
  ⟨some 50, none, none, false, .raw (.nilCheck (.tmp 49))⟩,
  ⟨some 51, none, none, false, .fa 3 (.t 50)⟩,
  ⟨some 52, none, none, false, .ld1 (.t 51)⟩,
  ⟨some 53, none, none, false, .mov (.t 1)⟩,
  ⟨some 54, none, none, false, .ixa 1 (.t 52) (.t 53)⟩,
  ⟨some 55, none, none, false, .ld1 (.t 54)⟩,
  ⟨some 56, none, none, false, .mov (.t 5)⟩,
  ⟨some 57, none, none, false, .bin .add 3 false (.t 55) (.t 56)⟩,
  ⟨some 7, none, none, false, .mov (.t 48)⟩,
  ⟨some 8, none, none, false, .mov (.t 57)⟩]) (.seq (.seq (.ops [⟨some 58, none, none, false, .mov (.t 5)⟩,
  ⟨some 59, none, none, false, .bin .mul 3 true (.v (.int .i64 2)) (.t 58)⟩,
  ⟨some 60, none, none, false, .mov (.t 6)⟩,
  ⟨some 61, none, none, false, .bin .gtr 3 false (.t 59) (.t 60)⟩]) (.cond (.t 61) (.seq (.drw 10 [⟨some 62, none, none, false, .mov (.t 8)⟩,
  ⟨some 63, none, none, false, .mov (.t 0)⟩,
  ⟨some 64, none, none, false, .raw (.nilCheck (.tmp 63))⟩,
  ⟨some 65, none, none, false, .fa 4 (.t 64)⟩,
  ⟨some 66, none, none, false, .ld1 (.t 65)⟩,
  ⟨some 67, none, none, false, .mov (.t 1)⟩,
  ⟨some 68, none, none, false, .ixa 1 (.t 66) (.t 67)⟩,
  ⟨some 69, none, none, false, .ld1 (.t 68)⟩,
  ⟨some 7, none, none, false, .mov (.t 62)⟩,
  ⟨some 8, none, none, false, .mov (.t 69)⟩]) (.ops [⟨some 70, none, none, false, .mov (.t 0)⟩,
  ⟨some 71, none, none, false, .raw (.nilCheck (.tmp 70))⟩,
  ⟨some 72, none, none, false, .fa 4 (.t 71)⟩,
  ⟨some 73, none, none, false, .ld1 (.t 72)⟩,
  ⟨some 74, none, none, false, .mov (.t 1)⟩,
  ⟨some 75, none, none, false, .mov (.t 7)⟩,
  ⟨some 76, none, none, false, .ixa 1 (.t 73) (.t 74)⟩,
  ⟨none, none, none, false, .st 1 (.t 76) (.t 75)⟩])) (.ops [⟨some 77, none, none, false, .mov (.t 0)⟩,
  ⟨some 78, none, none, false, .raw (.nilCheck (.tmp 77))⟩,
  ⟨some 79, none, none, false, .fa 3 (.t 78)⟩,
  ⟨some 80, none, none, false, .ld1 (.t 79)⟩,
  ⟨some 81, none, none, false, .mov (.t 1)⟩,
  ⟨some 82, none, none, false, .mov (.t 8)⟩,
  ⟨some 83, none, none, false, .ixa 1 (.t 80) (.t 81)⟩,
  ⟨none, none, none, false, .st 1 (.t 83) (.t 82)⟩]))) (.seq (.raw q217_0) (.seq (.seq (.ops [⟨some 113, none, none, false, .mov (.t 0)⟩,
  ⟨some 114, none, none, false, .raw (.nilCheck (.tmp 113))⟩,
  ⟨some 115, none, none, false, .fa 0 (.t 114)⟩,
  ⟨some 116, none, none, false, .ld1 (.t 115)⟩,
  ⟨some 117, none, none, false, .mov (.t 7)⟩,
  ⟨some 118, none, none, false, .mov (.t 8)⟩,
  ⟨some 119, none, none, false, .sll 1 (.t 116) (some (.t 117)) (some (.t 118))⟩,
  ⟨some 120, none, none, false, .lenL (.t 119)⟩,
  ⟨some 121, none, none, false, .mov (.v (.int .i64 0))⟩]) (.block 0 (.loop r217_l0))) (.seq (.ops [⟨some 138, none, none, false, .mov (.t 0)⟩,
  ⟨some 139, none, none, false, .raw (.nilCheck (.tmp 138))⟩,
  ⟨some 140, none, none, false, .fa 3 (.t 139)⟩,
  ⟨some 141, none, none, false, .ld1 (.t 140)⟩,
  ⟨some 142, none, none, false, .lenL (.t 141)⟩,
  ⟨some 143, none, none, false, .bin .sub 3 true (.t 142) (.v (.int .i64 1))⟩,
  ⟨some 4, none, none, false, .mov (.t 143)⟩]) .ret)))))))))
theorem k217 : fnRC 217 = some ([.tmp 4], r217) := by kernel_rfl


end Go.Am

set_option linter.all false
namespace Go.Am
open Go
variable [MaxLen]
set_option maxRecDepth 100000
set_option maxHeartbeats 4000000

/-! # The program's partition: marks -/
/-- a partition as it stands in the heap -/
structure PtI (s : St) (pb n bl bp bs bb be bm : Nat) (p : Pt) : Prop where
  g : s.get pb = some (.cells [.sl bl 0 p.list.length none 1, .sl bp 0 p.place.length (some n) 1, .sl bs 0 p.set.length (some n) 1, .sl bb 0 p.bg.length none 1, .sl be 0 p.en.length none 1, .sl bm 0 p.mr.length none 1] 285 false 0 0)
  gl : s.get bl = some (.cells (nats p.list) 3 false 0 0)
  gp : s.get bp = some (.cells (nats p.place) 3 false 0 0)
  gs : s.get bs = some (.cells (nats p.set) 3 false 0 0)
  gb : s.get bb = some (.cells (nats p.bg) 3 false 0 0)
  ge : s.get be = some (.cells (nats p.en) 3 false 0 0)
  gm : s.get bm = some (.cells (nats p.mr) 3 false 0 0)
  ne : [pb, bl, bp, bs, bb, be, bm].Nodup
  lt : ∀ j ∈ [pb, bl, bp, bs, bb, be, bm], j < s.next
theorem PtI.mono {s s' : St} {pb n bl bp bs bb be bm : Nat} {p : Pt} (h : PtI s pb n bl bp bs bb be bm p) (hn : s.next ≤ s'.next) (hg : ∀ j ∈ [pb, bl, bp, bs, bb, be, bm], s'.get j = s.get j) : PtI s' pb n bl bp bs bb be bm p :=
  ⟨(hg _ (by simp)).trans h.g, (hg _ (by simp)).trans h.gl, (hg _ (by simp)).trans h.gp, (hg _ (by simp)).trans h.gs, (hg _ (by simp)).trans h.gb, (hg _ (by simp)).trans h.ge, (hg _ (by simp)).trans h.gm, h.ne, fun j hj => Nat.lt_of_lt_of_le (h.lt j hj) hn⟩
/-- seven blocks, each apart from the others -/
structure Ap (pb bl bp bs bb be bm : Nat) : Prop where
  n1 : pb ≠ bl
  n2 : pb ≠ bp
  n3 : pb ≠ bs
  n4 : pb ≠ bb
  n5 : pb ≠ be
  n6 : pb ≠ bm
  n7 : bl ≠ bp
  n8 : bl ≠ bs
  n9 : bl ≠ bb
  n10 : bl ≠ be
  n11 : bl ≠ bm
  n12 : bp ≠ bs
  n13 : bp ≠ bb
  n14 : bp ≠ be
  n15 : bp ≠ bm
  n16 : bs ≠ bb
  n17 : bs ≠ be
  n18 : bs ≠ bm
  n19 : bb ≠ be
  n20 : bb ≠ bm
  n21 : be ≠ bm
theorem Ap.of {pb bl bp bs bb be bm : Nat} (ne : [pb, bl, bp, bs, bb, be, bm].Nodup) : Ap pb bl bp bs bb be bm := by
  simp only [List.nodup_cons, List.mem_cons, List.not_mem_nil, not_or, or_false, List.nodup_nil, and_true] at ne
  obtain ⟨⟨n1, n2, n3, n4, n5, n6⟩, ⟨n7, n8, n9, n10, n11⟩, ⟨n12, n13, n14, n15⟩, ⟨n16, n17, n18⟩, ⟨n19, n20⟩, n21, -⟩ := ne
  exact ⟨n1, n2, n3, n4, n5, n6, n7, n8, n9, n10, n11, n12, n13, n14, n15, n16, n17, n18, n19, n20, n21⟩
theorem k216' (args : List AV) (s : St) : callK U (calV U 216 args) 216 args s = cal U 216 args s := (callK_eq U 216 args s).symm
theorem k217' (args : List AV) (s : St) : callK U (calV U 217 args) 217 args s = cal U 217 args s := (callK_eq U 217 args s).symm
theorem k214' (args : List AV) (s : St) : callK U (calV U 214 args) 214 args s = cal U 214 args s := (callK_eq U 214 args s).symm
def P216 (s0 : St) (pb n bl bp bs bb be bm : Nat) (p : Pt) (v : Bool) (r : Option (AV × St)) : Prop :=
  ∃ s', r = some (.bool v, s') ∧ PtI s' pb n bl bp bs bb be bm p ∧ s0.next ≤ s'.next ∧ Fr s' ∧ ∀ j, j < s0.next → j ≠ bl → j ≠ bp → j ≠ bm → s'.get j = s0.get j
theorem c216 {s : St} {pb n bl bp bs bb be bm : Nat} {p : Pt} (h : PtI s pb n bl bp bs bb be bm p) (hw : p.Wf n) (hn : n ≤ 2 ^ 20) (fr : Fr s) {u : Nat} (hu : u < n) :
    P216 s pb n bl bp bs bb be bm (p.markd u).1 (p.markd u).2 (cal U 216 [.ptr pb 0, .int .i64 (u : Int)] s) := by
  suffices hgo : P216 s pb n bl bp bs bb be bm (p.markd u).1 (p.markd u).2 (go U (finB U [.tmp 4]) [] r216 (bindArgs 0 [.ptr pb 0, .int .i64 (u : Int)] .nil) s) by
    obtain ⟨s', h1, h2⟩ := hgo
    exact ⟨s', kept_go k216 (by kernel_rfl) h1, h2⟩
  obtain ⟨hs1, hs2, hs3⟩ := hw.st u hu
  obtain ⟨hk1, hk2, hk3⟩ := hw.sp _ hs1
  obtain ⟨hp1, hp2⟩ := hw.pl u hu
  obtain ⟨g, gl, gp, gs, gb, ge, gm, ne, lt⟩ := h
  have nd := ne
  have A := Ap.of nd
  clear ne
  have hll := hw.ll; have hlp := hw.lp; have hls := hw.ls; have hle := hw.le; have hlm := hw.lm
  have q1 := nats_get (l := p.set) (i := u) (by omega)
  have q2 := nats_get (l := p.place) (i := u) (by omega)
  have hfew := hw.few
  have lt' : pb < s.next ∧ bl < s.next ∧ bp < s.next ∧ bs < s.next ∧ bb < s.next ∧ be < s.next ∧ bm < s.next := by
    refine ⟨lt _ (by simp), lt _ (by simp), lt _ (by simp), lt _ (by simp), lt _ (by simp), lt _ (by simp), lt _ (by simp)⟩
  obtain ⟨lt1, lt2, lt3, lt4, lt5, lt6, lt7⟩ := lt'
  unfold Pt.markd
  generalize hs : gt p.set u = k at *
  generalize ha : gt p.place u = x at *
  have q3 := nats_get (l := p.bg) (i := k) hs1
  have q4 := nats_get (l := p.mr) (i := k) (by omega)
  have hbk := hk1
  have w1 : IntKind.i64.wrap (((gt p.bg k : Nat) : Int) + ((gt p.mr k : Nat) : Int)) = ((gt p.bg k + gt p.mr k : Nat) : Int) := by
    have := hw.mr k hs1
    rw [wrap_i64] <;> omega
  have u1 : u < p.set.length := by omega
  have u2 : u < p.place.length := by omega
  have k2 : k < p.mr.length := by omega
  have hmk := hw.mr k hs1
  generalize ht : gt p.bg k + gt p.mr k = t at *
  cases hm : decide (x < t) with
  | true =>
    have hmI : decide ((x : Int) < (t : Int)) = true := by rw [nat_lt_dec]; exact hm
    simp (config := { maxSteps := 2000000 }) +contextual only [go_sem, ↓reduceIte, r216, g, gl, gp, gs, gb, gm, q1, q2, q3, q4, u1, u2, k2, hs1, w1, hmI, Nat.mul_one]
    exact ⟨_, rfl, PtI.mono ⟨g, gl, gp, gs, gb, ge, gm, nd, lt⟩ (by rw [upto_next]; omega) fun j _ => upto_get _ _ _, by rw [upto_next]; omega, fr.upto (by omega), fun j _ _ _ _ => upto_get _ _ _⟩
  | false =>
    have hm' : ¬ x < t := by simpa using hm
    have htn : t < n := by omega
    have hmI : decide ((x : Int) < (t : Int)) = false := by rw [nat_lt_dec]; exact hm
    obtain ⟨hl1, hl2⟩ := hw.li t htn
    have q5 := nats_get (l := p.list) (i := t) (by omega)
    generalize ho : gt p.list t = o at *
    have y1 := nats_lay (l := p.list) (i := x) o (by omega)
    have y2 := nats_lay (l := p.list.set x o) (i := t) u (by rw [List.length_set]; omega)
    have y3 := nats_lay (l := p.place) (i := o) x (by omega)
    have y4 := nats_lay (l := p.place.set o x) (i := u) t (by rw [List.length_set]; omega)
    have y5 := nats_lay (l := p.mr) (i := k) (gt p.mr k + 1) (by omega)
    have q6 := nats_get (l := p.mr.set k (gt p.mr k + 1)) (i := k) (by rw [List.length_set]; omega)
    rw [gt_set, if_pos ⟨rfl, by omega⟩] at q6
    have w2 : IntKind.i64.wrap (((gt p.mr k : Nat) : Int) + 1) = ((gt p.mr k + 1 : Nat) : Int) := by rw [wrap_i64] <;> omega
    have e1 : (((gt p.mr k + 1 : Nat) : Int) == 1) = (gt p.mr k + 1 == 1) := ieqN (gt p.mr k + 1) 1
    have u3 : x < p.list.length := by omega
    have u4 : t < p.list.length := by omega
    have u5 : o < p.place.length := by omega
    have z1 : (bl = pb) = False := eq_false A.n1.symm
    have z2 : (bl = bp) = False := eq_false A.n7
    have z3 : (bl = bm) = False := eq_false A.n11
    have z4 : (bp = pb) = False := eq_false A.n2.symm
    have z5 : (bp = bm) = False := eq_false A.n15
    have z6 : (bm = pb) = False := eq_false A.n6.symm
    simp (config := { maxSteps := 2000000 }) +contextual only [go_sem, ↓reduceIte, r216, g, gl, gp, gs, gb, gm, q1, q2, q3, q4, q5, q6, u1, u2, u3, u4, u5, k2, hs1, w1, w2, hmI, Nat.mul_one, y1, y2, y3, y4, y5, z1, z2, z3, z4, z5, z6, e1]
    refine ⟨_, rfl, ⟨?_, ?_, ?_, ?_, ?_, ?_, ?_, nd, fun j hj => ?_⟩, ?_, ?_, fun j h1 h2 h3 h4 => ?_⟩
    · rw [get_put, if_neg A.n6.symm, get_put, if_neg A.n2.symm, get_put, if_neg A.n2.symm, upto_get, get_put, if_neg A.n1.symm, get_put, if_neg A.n1.symm, upto_get, upto_get, g]
      simp only [List.length_set]
    · rw [get_put, if_neg A.n11.symm, get_put, if_neg A.n7.symm, get_put, if_neg A.n7.symm, upto_get, get_put, if_pos rfl]
    · rw [get_put, if_neg A.n15.symm, get_put, if_pos rfl]
    · rw [get_put, if_neg A.n18.symm, get_put, if_neg A.n12, get_put, if_neg A.n12, upto_get, get_put, if_neg A.n8, get_put, if_neg A.n8, upto_get, upto_get, gs]
    · rw [get_put, if_neg A.n20.symm, get_put, if_neg A.n13, get_put, if_neg A.n13, upto_get, get_put, if_neg A.n9, get_put, if_neg A.n9, upto_get, upto_get, gb]
    · rw [get_put, if_neg A.n21.symm, get_put, if_neg A.n14, get_put, if_neg A.n14, upto_get, get_put, if_neg A.n10, get_put, if_neg A.n10, upto_get, upto_get, ge]
    · rw [get_put, if_pos rfl]
    · simp only [next_put, upto_next]
      have := lt j hj
      omega
    · simp only [next_put, upto_next]; omega
    · exact (((((((fr.upto (by omega)).upto (by rw [upto_next]; omega)).put (by rw [upto_next]; omega) _).put (by rw [next_put, upto_next]; omega) _).upto (by rw [next_put, next_put, upto_next]; omega)).put (by rw [upto_next]; omega) _).put (by rw [next_put, upto_next]; omega) _).put (by rw [next_put, next_put, upto_next]; omega) _
    · rw [get_put, if_neg h4.symm, get_put, if_neg h3.symm, get_put, if_neg h3.symm, upto_get, get_put, if_neg h2.symm, get_put, if_neg h2.symm, upto_get, upto_get]
end Go.Am

set_option linter.all false
namespace Go.Am
open Go
variable [MaxLen]
set_option maxRecDepth 100000
set_option maxHeartbeats 8000000

/-- (*strings.Builder).WriteString; results .tmp 4,.tmp 5 -/
def r131 : RC := (.seq (.ops [⟨some 4, none, none, false, .mov (.v (.int .i64 0))⟩,
  ⟨some 5, none, none, false, .mov (.v .nili)⟩]) (.seq (.ops [⟨some 6, none, none, false, .mov (.t 0)⟩,
  ⟨some 7, none, none, false, .call 182 [(.t 6)]⟩]) (.seq (.ops [⟨some 8, none, none, false, .mov (.t 0)⟩,
  ⟨some 9, none, none, false, .mov (.t 0)⟩,
  ⟨some 10, none, none, false, .raw (.nilCheck (.tmp 9))⟩,
  ⟨some 11, none, none, false, .fa 1 (.t 10)⟩,
  ⟨some 12, none, none, false, .ld1 (.t 11)⟩,
  ⟨some 13, none, none, false, .mov (.t 1)⟩,
  ⟨some 14, none, none, false, .app 5 1 1 (.t 12) (.t 13)⟩,
  ⟨some 15, none, none, false, .raw (.nilCheck (.tmp 8))⟩,
  ⟨some 16, none, none, false, .fa 1 (.t 15)⟩,
  ⟨none, none, none, false, .st 1 (.t 16) (.t 14)⟩]) (.seq (.ops [⟨some 17, none, none, false, .mov (.t 1)⟩,
  ⟨some 18, none, none, false, .lenS (.t 17)⟩,
  ⟨some 4, none, none, false, .mov (.t 18)⟩,
  ⟨some 5, none, none, false, .mov (.v .nili)⟩]) .ret))))
theorem k131 : fnRC 131 = some ([.tmp 4, .tmp 5], r131) := by kernel_rfl

/-- (*strings.Builder).String; results .tmp 2 -/
def r133 : RC := (.seq (.ops [⟨some 2, none, none, false, .mov (.v (.str []))⟩]) (.seq (.drw 12 [⟨some 3, none, none, false, .mov (.t 0)⟩,
  ⟨some 4, none, none, false, .raw (.nilCheck (.tmp 3))⟩,
  ⟨some 5, none, none, false, .fa 1 (.t 4)⟩,
  ⟨some 6, none, none, false, .ld1 (.t 5)⟩,
  ⟨some 7, none, none, false, .raw (.call { callee := .builtin .unsafeSliceData, args := #[(.tmp 6)], argTypes := #[205] })⟩,
  ⟨some 8, none, none, false, .mov (.t 0)⟩,
  ⟨some 9, none, none, false, .raw (.nilCheck (.tmp 8))⟩,
  ⟨some 10, none, none, false, .fa 1 (.t 9)⟩,
  ⟨some 11, none, none, false, .ld1 (.t 10)⟩,
  ⟨some 12, none, none, false, .lenL (.t 11)⟩,
  ⟨some 13, none, none, true, .raw (.call { callee := .builtin .unsafeString, args := #[(.tmp 7), (.tmp 12)], argTypes := #[269, 3] })⟩,
  ⟨some 2, none, none, false, .mov (.t 13)⟩]) .ret))
theorem k133 : fnRC 133 = some ([.tmp 2], r133) := by kernel_rfl

/-- strconv.FormatBool; results .tmp 2 -/
def r244 : RC := (.seq (.ops [⟨some 2, none, none, false, .mov (.v (.str []))⟩]) (.seq (.ops [⟨some 3, none, none, false, .mov (.t 0)⟩,
  ⟨some 4, none, none, false, .call 267 [(.t 3)]⟩,
  ⟨some 2, none, none, false, .mov (.t 4)⟩]) .ret))
theorem k244 : fnRC 244 = some ([.tmp 2], r244) := by kernel_rfl

/-- internal/strconv.FormatBool; results .tmp 2 -/
def r267 : RC := (.seq (.ops [⟨some 2, none, none, false, .mov (.v (.str []))⟩]) (.seq (.seq (.ops [⟨some 3, none, none, false, .mov (.t 0)⟩]) (.cond (.t 3) (.seq (.ops [⟨some 2, none, none, false, .mov (.v (.str [116, 114, 117, 101]))⟩]) .ret) .skip)) (.seq (.ops [⟨some 2, none, none, false, .mov (.v (.str [102, 97, 108, 115, 101]))⟩]) .ret)))
theorem k267 : fnRC 267 = some ([.tmp 2], r267) := by kernel_rfl


end Go.Am

set_option linter.all false
namespace Go.Am
open Go
variable [MaxLen]
set_option maxRecDepth 100000
set_option maxHeartbeats 8000000

/-! # What the automata use of the laws on signals -/
def bytesA (bs : Str) : List AV := bs.map fun c => .int .u8 c.toNat
theorem bytesA_len (bs : Str) : (bytesA bs).length = bs.length := by simp [bytesA]
theorem bytesA_noAgg (bs : Str) : (bytesA bs).all noAgg = true := by
  induction bs with
  | nil => rfl
  | cons c l ih => rw [bytesA, List.map_cons, List.all_cons]; exact ih
theorem bytesA_load (bs : Str) : loadBytesA (bytesA bs) = some bs := by
  induction bs with
  | nil => rfl
  | cons c l ih =>
    show loadBytesA (.int .u8 c.toNat :: bytesA l) = _
    simp only [loadBytesA, ih, Int.toNat_natCast, UInt8.ofNat_toNat]
def BldI (s : St) (b : Nat) (bs : Str) : Prop := ∃ p v, s.get b = some (.cells [p, v] 207 false 0 0) ∧ (p = .nilp ∨ p = .ptr b 0) ∧ b < s.next ∧ RowI s (b + 1) 5 1 bs.length (bytesA bs) v
theorem k182 (args : List AV) (s : St) : callK U (calV U 182 args) 182 args s = cal U 182 args s := (callK_eq U 182 args s).symm
theorem k131' (args : List AV) (s : St) : callK U (calV U 131 args) 131 args s = cal U 131 args s := (callK_eq U 131 args s).symm
theorem k133' (args : List AV) (s : St) : callK U (calV U 133 args) 133 args s = cal U 133 args s := (callK_eq U 133 args s).symm
theorem cal_182 (args : List AV) (s : St) : cal U 182 args s = extCopy args s := by
  unfold cal callF
  rw [U_ext]
  rfl
theorem c182 {s : St} {b : Nat} {p v : AV} (hg : s.get b = some (.cells [p, v] 207 false 0 0)) (hp : p = .nilp ∨ p = .ptr b 0) (hb : b < s.next) :
    ∃ s0, cal U 182 [.ptr b 0] s = some (.tup [], s0) ∧ s0.next = s.next ∧ s0.get b = some (.cells [.ptr b 0, v] 207 false 0 0) ∧ (∀ j, j ≠ b → s0.get j = s.get j) ∧ (Fr s → Fr s0) := by
  rw [cal_182]
  rcases hp with rfl | rfl
  · refine ⟨s.put b (.cells [.ptr b 0, v] 207 false 0 0), by simp only [extCopy, hg, if_true], rfl, by rw [get_put, if_pos rfl], fun j hj => by rw [get_put, if_neg (by omega)], fun h => h.put hb _⟩
  · exact ⟨s, by simp only [extCopy, hg, if_true], rfl, hg, fun _ _ => rfl, fun h => h⟩
theorem source_bytes (t : Str) (s : St) : sourceA 1 (.str t) s = some (t.length, bytesA t) := rfl
theorem c131 {s : St} {b : Nat} {bs : Str} (h : BldI s b bs) (hf : Fr s) (t : Str) (ht : t ≠ []) (hlen : bs.length + t.length ≤ 2 ^ 39) :
    ∃ s' r, cal U 131 [.ptr b 0, .str t] s = some (r, s') ∧ BldI s' b (bs ++ t) ∧ Fr s' ∧ s.next ≤ s'.next ∧ ∀ j, j < b → s'.get j = s.get j := by
  obtain ⟨p, v, hg, hp, hb, hv⟩ := h
  obtain ⟨s0, g1, g2, g3, g4, g5⟩ := c182 hg hp hb
  have hla := hv.lenA
  have hb1 : (bs.length + t.length) * 1 ≤ 1099511627776 := by omega
  have hb2 : bs.length + t.length ≤ 1099511627776 := by omega
  have ht0 : (t.length = 0) = False := by simp [ht]
  have hv1 : RowI s0 (b + 1) 5 1 bs.length (bytesA bs) v := hv.mono (by omega) fun j hj hj' => g4 j (by omega)
  obtain ⟨s1, e1, e2, e3, e4, e5⟩ := hv1.app (by omega) (m := t.length) (new := bytesA t) (by intro h0; simp [ht] at h0) (by rw [bytesA_len]; omega) (bytesA_noAgg t)
  have kb := e4 b (by omega)
  rw [g3] at kb
  rw [g2] at e1 e2 e3
  refine ⟨s1.put b (.cells [.ptr b 0, .sl s.next 0 (bs.length + t.length) none 1] 207 false 0 0), .tup [.int .i64 t.length, .nili], ?_, ⟨.ptr b 0, .sl s.next 0 (bs.length + t.length) none 1, by rw [get_put, if_pos rfl], .inr rfl, by rw [next_put]; omega, ?_⟩, (e5 (g5 hf)).put (by omega) _, by rw [next_put]; omega, fun j hj => ?_⟩
  · refine kept_go k131 (by kernel_rfl) ?_
    simp +contextual only [go_sem, ↓reduceIte, r131, k182, g1, g2, g3, source_bytes, Nat.add_eq_left, appK_some, hla, hb1, hb2, Nat.reducePow, bytesA_len, ht0, Nat.mul_one, not_false_eq_true]
    rw [e1]
    simp +contextual only [go_sem, ↓reduceIte, kb]
  · have hl : (bs ++ t).length = bs.length + t.length := by simp
    rw [hl]
    have hbb : bytesA (bs ++ t) = bytesA bs ++ bytesA t := by simp [bytesA]
    rw [hbb]
    exact e3.mono (by rw [next_put]; omega) fun j hj _ => by rw [get_put, if_neg (by omega)]
  · rw [get_put, if_neg (by omega), e4 j (by omega), g4 j (by omega)]
def sdK (v : Option AV) (s : St) : Option (AV × St) := match v with
  | some .nils => some (.nilp, s)
  | some (.sl b o (_ + 1) _ _) => some (.ptr b o, s)
  | _ => none
theorem opA_sd (ex : Ex) (e : Env) (s : St) (x : Operand) (ts : Array TypeId) : opA U ex e (.call { callee := .builtin .unsafeSliceData, args := #[x], argTypes := ts }) s = sdK (eval U e x) s := by
  have h : opA U ex e (.call { callee := .builtin .unsafeSliceData, args := #[x], argTypes := ts }) s = match evals U e [x] with
    | some vs => builtinA U .unsafeSliceData ts vs s
    | none => none := rfl
  rw [h]
  simp only [evals]
  cases eval U e x with
  | none => rfl
  | some v =>
    cases v <;> try rfl
    rename_i b o n c z
    cases n <;> rfl
noncomputable def usK (ts : Array TypeId) (p n : Option AV) (s : St) : Option (AV × St) := match p, n with
  | some p, some n => builtinA U .unsafeString ts [p, n] s
  | _, _ => none
theorem opA_us (ex : Ex) (e : Env) (s : St) (x y : Operand) (ts : Array TypeId) : opA U ex e (.call { callee := .builtin .unsafeString, args := #[x, y], argTypes := ts }) s = usK ts (eval U e x) (eval U e y) s := by
  have h : opA U ex e (.call { callee := .builtin .unsafeString, args := #[x, y], argTypes := ts }) s = match evals U e [x, y] with
    | some vs => builtinA U .unsafeString ts vs s
    | none => none := rfl
  rw [h]
  simp only [evals]
  cases eval U e x with
  | none => rfl
  | some v => cases eval U e y <;> rfl
theorem sdK_nils (s : St) : sdK (some .nils) s = some (.nilp, s) := rfl
theorem sdK_sl (b o n : Nat) (c : Option Nat) (z : Nat) (s : St) : sdK (some (.sl b o (n + 1) c z)) s = some (.ptr b o, s) := rfl
theorem usK_some (ts : Array TypeId) (p n : AV) (s : St) : usK ts (some p) (some n) s = builtinA U .unsafeString ts [p, n] s := rfl
theorem us_nil (s : St) : builtinA U .unsafeString #[269, 3] [.nilp, .int .i64 0] s = some (.str [], s) := rfl
theorem us_ptr {s : St} {j : Nat} {bs : Str} {lo hi : Nat} (hg : s.get j = some (.cells (bytesA bs) 5 false lo hi)) (h0 : bs ≠ []) (hl : bs.length ≤ 2 ^ 39) : builtinA U .unsafeString #[269, 3] [.ptr j 0, .int .i64 bs.length] s = some (.str bs, s.put j (.cells (bytesA bs) 5 true 0 0)) := by
  have hu : U.und 269 = some (.pointer 5) := by kernel_rfl
  have hne : ¬ (bs.length : Int) = 0 := by
    have := List.length_pos_iff.2 h0; omega
  have hb : ¬ ((bs.length : Int) < 0 ∨ (bs.length : Int) > 2 ^ 40) := by omega
  unfold builtinA
  simp only [if_neg hne, if_neg hb, hg]
  have hgr : grab bs.length 0 (bytesA bs) = some (bytesA bs) := by
    have := grab_all (bytesA bs)
    rwa [bytesA_len] at this
  simp [hu, sz_5, hgr, bytesA_load]
attribute [go_sem ↓] opA_sd opA_us
attribute [go_sem] sdK_nils sdK_sl usK_some us_nil
theorem c133V {s : St} {b : Nat} {bs : Str} (h : BldI s b bs) (hf : Fr s) (hl : bs.length ≤ 2 ^ 39) : ∃ s', cal U 133 [.ptr b 0] s = some (.str bs, s') ∧ s.next ≤ s'.next ∧ Fr s' ∧ ∀ j, j ≤ b → s'.get j = s.get j := by
  obtain ⟨p, v, hg, hp, hb, hv⟩ := h
  rcases hv with ⟨h0, rfl, h2⟩ | ⟨h0, h1, j, h2, h3, rfl, h5⟩
  · have : bs = [] := List.length_eq_zero_iff.1 h0
    subst this
    refine ⟨s.upto (s.next + 12), kept_go k133 (by kernel_rfl) ?_, by rw [upto_next]; omega, hf.upto (by omega), fun j _ => upto_get _ _ _⟩
    simp +contextual only [go_sem, ↓reduceIte, r133, hg]
  · have hne : bs ≠ [] := by rintro rfl; simp at h0
    have hus := us_ptr (s := s.upto (s.next + 12)) (bs := bs) (j := j) (by rw [upto_get]; exact h5) hne hl
    obtain ⟨n, hn⟩ : ∃ n, bs.length = n + 1 := ⟨bs.length - 1, by omega⟩
    refine ⟨(s.upto (s.next + 12)).put j (.cells (bytesA bs) 5 true 0 0), kept_go k133 (by kernel_rfl) ?_, by rw [next_put, upto_next]; omega, (hf.upto (by omega)).put (by rw [upto_next]; omega) _, fun i hi => by rw [get_put, if_neg (by omega), upto_get]⟩
    rw [hn] at hg hus
    simp +contextual only [go_sem, ↓reduceIte, r133, hg, hus]
/-- how a truth value is written -/
def fbS : Bool → Str
  | true => [116, 114, 117, 101]
  | false => [102, 97, 108, 115, 101]
theorem c267 (x : Bool) : calV U 267 [.bool x] = some (.str (fbS x)) := by
  refine pure_go k267 (by kernel_rfl) rfl ?_
  cases x <;> simp +contextual only [go_sem, ↓reduceIte, r267, fbS]
theorem c244 (x : Bool) : calV U 244 [.bool x] = some (.str (fbS x)) := by
  refine pure_go k244 (by kernel_rfl) rfl ?_
  have := c267 x
  simp +contextual only [go_sem, ↓reduceIte, r244, this]
/-- the key of a row of triggers -/
def keyS (l : List Bool) : Str := l.flatMap fbS
theorem fbS_ne (x : Bool) : fbS x ≠ [] := by cases x <;> simp [fbS]
theorem keyS_inj : ∀ {a b : List Bool}, a.length = b.length → keyS a = keyS b → a = b
  | [], [], _, _ => rfl
  | x :: a, y :: b, hl, h => by
    have hl' : a.length = b.length := by simpa using hl
    simp only [keyS, List.flatMap_cons] at h
    cases x <;> cases y <;> simp only [fbS, List.cons_append, List.nil_append, List.cons.injEq] at h
    · rw [keyS_inj hl' h.2.2.2.2.2]
    · exact absurd h.1 (by decide)
    · exact absurd h.1 (by decide)
    · rw [keyS_inj hl' h.2.2.2.2]
  | [], _ :: _, h, _ => by simp at h
  | _ :: _, [], h, _ => by simp at h
end Go.Am

set_option linter.all false
namespace Go.Am
open Go
variable [MaxLen]
set_option maxRecDepth 100000
set_option maxHeartbeats 8000000

/-! # Maps from strings to rows -/
def ent (es : List (Str × AV)) : List (AV × AV) := es.map fun x => (AV.str x.1, x.2)
def getE (k : Str) : List (Str × AV) → Option AV
  | [] => none
  | x :: l => bif k == x.1 then some x.2 else getE k l
def putE (k : Str) (v : AV) : List (Str × AV) → List (Str × AV)
  | [] => [(k, v)]
  | x :: l => bif k == x.1 then (k, v) :: l else x :: putE k v l
theorem findA_ent (k : Str) : ∀ es, findA (.str k) (ent es) = some (getE k es)
  | [] => rfl
  | x :: l => by
    have ih := findA_ent k l
    show findA (.str k) ((AV.str x.1, x.2) :: ent l) = _
    rw [findA, getE, keyEq]
    cases k == x.1 with
    | true => rfl
    | false => exact ih
theorem putA_ent (k : Str) (v : AV) : ∀ es, putA (.str k) v (ent es) = some (ent (putE k v es))
  | [] => rfl
  | x :: l => by
    have ih := putA_ent k v l
    show putA (.str k) v ((AV.str x.1, x.2) :: ent l) = _
    rw [putA, putE, keyEq]
    cases k == x.1 with
    | true => rfl
    | false => simp only [ih]; rfl
theorem lookup310 {s : St} {m : Nat} {es : List (Str × AV)} (h : s.get m = some (.map (ent es) false)) (k : Str) : lookupA U 310 (.map m) (.str k) false s = some ((getE k es).getD .nils) := by
  have hu : U.und 310 = some (.map 9 40) := by kernel_rfl
  have h9 : U.und 9 = some .string := by kernel_rfl
  have hz : zero U 40 = some .nils := by kernel_rfl
  unfold lookupA
  rw [hu]
  simp only [keyOk, h9, if_true, h, findA_ent]
  cases getE k es with
  | none => simp only [hz]; rfl
  | some v => rfl
theorem update310 {s : St} {m : Nat} {es : List (Str × AV)} (h : s.get m = some (.map (ent es) false)) (k : Str) (v : AV) : updateA U 310 (.map m) (.str k) v s = some (s.put m (.map (ent (putE k v es)) false)) := by
  have hu : U.und 310 = some (.map 9 40) := by kernel_rfl
  have h9 : U.und 9 = some .string := by kernel_rfl
  unfold updateA
  rw [hu]
  simp only [keyOk, h9, if_true, h, putA_ent]
noncomputable def updK (t : TypeId) (m k v : Option AV) (s : St) : Option (AV × St) := match m, k, v with
  | some m, some k, some v => unitO (updateA U t m k v s)
  | _, _, _ => none
theorem opA_mapUpdate (ex : Ex) (e : Env) (s : St) (t : TypeId) (m k v : Operand) : opA U ex e (.mapUpdate t m k v) s = updK t (eval U e m) (eval U e k) (eval U e v) s := by
  unfold updK
  simp only [opA]
  rfl
theorem opA_insertM (ex : Ex) (e : Env) (s : St) (t : TypeId) (m k v : Operand) : opA U ex e (.insert t m k v) s = updK t (eval U e m) (eval U e k) (eval U e v) s := by
  unfold updK
  simp only [opA]
  rfl
theorem updK_some (t : TypeId) (m k v : AV) (s : St) : updK t (some m) (some k) (some v) s = unitO (updateA U t m k v s) := (fun h => h) rfl
theorem opA_makeMap (ex : Ex) (e : Env) (s : St) (t : TypeId) : opA U ex e (.makeMap t none) s = some (.map s.next, s.new (.map [] false)) := (fun h => h) rfl
attribute [go_sem ↓] opA_mapUpdate opA_insertM opA_makeMap
attribute [go_sem] updK_some
/-- the entries: each key with its row -/
def esOf (len : Str → Nat) : List Str → List Nat → List (Str × AV)
  | k :: ks, b :: bs => (k, .sl b 0 (len k) none 1) :: esOf len ks bs
  | _, _ => []
theorem getE_at {len : Str → Nat} : ∀ {ks : List Str} {bs : List Nat} {j : Nat} (hn : ks.Nodup) (hl : bs.length = ks.length) (h : j < ks.length), getE ks[j] (esOf len ks bs) = some (.sl (bs[j]'(by omega)) 0 (len ks[j]) none 1)
  | k :: ks, b :: bs, 0, hn, hl, h => by simp [esOf, getE]
  | k :: ks, b :: bs, j + 1, hn, hl, h => by
    rw [List.nodup_cons] at hn
    have hj : j < ks.length := by simpa using h
    have ih := getE_at (len := len) (bs := bs) hn.2 (by simpa using hl) hj
    have hne : (ks[j] == k) = false := by
      have : ks[j] ≠ k := fun e => hn.1 (e ▸ List.getElem_mem hj)
      simpa using this
    simp only [List.getElem_cons_succ, esOf, getE, hne, cond_false]
    exact ih
  | k :: ks, [], _, _, hl, _ => by simp at hl
  | [], _, _, _, _, h => by simp at h
theorem getE_none {len : Str → Nat} {k : Str} : ∀ {ks : List Str} {bs : List Nat}, k ∉ ks → getE k (esOf len ks bs) = none
  | [], bs, _ => by cases bs <;> rfl
  | x :: ks, [], _ => rfl
  | x :: ks, b :: bs, h => by
    rw [List.mem_cons, not_or] at h
    have hne : (k == x) = false := by simpa using h.1
    simp only [esOf, getE, hne, cond_false]
    exact getE_none h.2
theorem esOf_congr {len len' : Str → Nat} : ∀ {ks : List Str} {bs : List Nat}, (∀ k ∈ ks, len k = len' k) → esOf len ks bs = esOf len' ks bs
  | [], bs, _ => by cases bs <;> rfl
  | x :: ks, [], _ => rfl
  | x :: ks, b :: bs, h => by
    simp only [esOf]
    rw [h x (List.mem_cons_self ..), esOf_congr fun k hk => h k (List.mem_cons_of_mem _ hk)]
theorem putE_at {len len' : Str → Nat} : ∀ {ks : List Str} {bs : List Nat} {j b' : Nat} (hn : ks.Nodup) (hl : bs.length = ks.length) (h : j < ks.length), (∀ k ∈ ks, k ≠ ks[j] → len k = len' k) → putE ks[j] (.sl b' 0 (len' ks[j]) none 1) (esOf len ks bs) = esOf len' ks (bs.set j b')
  | k :: ks, b :: bs, 0, b', hn, hl, h, hc => by
    rw [List.nodup_cons] at hn
    simp only [List.getElem_cons_zero, esOf, putE, beq_self_eq_true, cond_true, List.set_cons_zero]
    rw [esOf_congr fun x hx => hc x (List.mem_cons_of_mem _ hx) fun e => by simp at e; exact hn.1 (e ▸ hx)]
  | k :: ks, b :: bs, j + 1, b', hn, hl, h, hc => by
    rw [List.nodup_cons] at hn
    have hj : j < ks.length := by simpa using h
    have hkne : k ≠ ks[j] := fun e => hn.1 (e ▸ List.getElem_mem hj)
    have hne : (ks[j] == k) = false := by simpa using hkne.symm
    have ih := putE_at (len := len) (len' := len') (bs := bs) (b' := b') hn.2 (by simpa using hl) hj fun x hx hxe => hc x (List.mem_cons_of_mem _ hx) (by simpa using hxe)
    simp only [List.getElem_cons_succ, esOf, putE, hne, cond_false, List.set_cons_succ]
    rw [ih, hc k (List.mem_cons_self ..) (by simpa using hkne)]
  | k :: ks, [], _, _, _, hl, _, _ => by simp at hl
  | [], _, _, _, _, _, h, _ => by simp at h
theorem putE_new {len len' : Str → Nat} {k : Str} {b' : Nat} : ∀ {ks : List Str} {bs : List Nat}, k ∉ ks → bs.length = ks.length → (∀ x ∈ ks, len x = len' x) → putE k (.sl b' 0 (len' k) none 1) (esOf len ks bs) = esOf len' (ks ++ [k]) (bs ++ [b'])
  | [], [], _, _, _ => by simp [esOf, putE]
  | x :: ks, b :: bs, h, hl, hc => by
    rw [List.mem_cons, not_or] at h
    have hne : (k == x) = false := by simpa using h.1
    have ih := putE_new (len := len) (len' := len') (b' := b') (bs := bs) h.2 (by simpa using hl) fun y hy => hc y (List.mem_cons_of_mem _ hy)
    simp only [esOf, putE, hne, cond_false, List.cons_append]
    rw [ih, hc x (List.mem_cons_self ..)]
  | [], _ :: _, _, hl, _ => by simp at hl
  | _ :: _, [], _, hl, _ => by simp at hl

/-! # The key of a row -/
theorem l214a {β : Type} {fin : Fl → β} {ks : List K} {Post : β → Prop} {nl : Bool} {l : List Bool} (hl : l.length ≤ 2 ^ 20) {b : Nat} {e : Env} {s : St} (g8 : Env.get e 8 = .ptr b 0) (g35 : Env.get e 35 = encS nl (bools l)) (g36 : Env.get e 36 = .int .i64 l.length) (g37 : Env.get e 37 = .int .i64 (0 : Nat))
    (hb : BldI s b []) (fr : Fr s)
    (hk : ∀ e' s', (∀ t : Nat, t < 10 → Env.get e' t = Env.get e t) → (∀ t : Nat, 26 < t → t < 35 → Env.get e' t = Env.get e t) → BldI s' b (keyS l) → (∀ j, j < b → s'.get j = s.get j) → s.next ≤ s'.next → Fr s' → Post (goN U fin ks e' s')) :
    Post (goL U fin (.bk 2 :: ks) r214_l0 e s) := by
  have hklen : ∀ l : List Bool, (keyS l).length ≤ l.length * 5 := by
    intro l
    induction l with
    | nil => simp [keyS]
    | cons x l ih =>
      have : (keyS (x :: l)).length = (fbS x).length + (keyS l).length := by simp [keyS]
      have h5 : (fbS x).length ≤ 5 := by cases x <;> simp [fbS]
      simp only [List.length_cons]; omega
  refine loop_ex (σ := Nat) (fun i => l.length - i) (fun i e' s' => i ≤ l.length ∧ (∀ t : Nat, t < 10 → Env.get e' t = Env.get e t) ∧ (∀ t : Nat, 26 < t → t < 37 → Env.get e' t = Env.get e t) ∧ Env.get e' 37 = .int .i64 (i : Nat) ∧ BldI s' b (keyS (l.take i)) ∧ (∀ j, j < b → s'.get j = s.get j) ∧ s.next ≤ s'.next ∧ Fr s') 0 ?_
    ⟨Nat.zero_le _, fun _ _ => rfl, fun _ _ _ => rfl, g37, hb, fun _ _ => rfl, Nat.le_refl _, fr⟩
  rintro Lp i e' s' ⟨hi, hold, hold2, q37, hbi, hs, hnx, fr'⟩ IH
  have q8 := (hold 8 (by omega)).trans g8
  have q35 := (hold2 35 (by omega) (by omega)).trans g35
  have q36 := (hold2 36 (by omega) (by omega)).trans g36
  by_cases hd : i < l.length
  · have hw := wrap_succ hd (by omega)
    have hx := ixa_boolV (nl := nl) hd
    have h244 := c244 l[i]
    have hk1 := hklen (l.take i)
    have htl : (l.take i).length = i := by rw [List.length_take]; omega
    have h5 : (fbS l[i]).length ≤ 5 := by cases l[i] <;> simp [fbS]
    obtain ⟨s2, r, e1, e2, e3, e4, e5⟩ := c131 hbi fr' (fbS l[i]) (fbS_ne _) (by omega)
    simp (config := { maxSteps := 2000000 }) +contextual only [go_sem, ↓reduceIte, r214_l0, q8, q35, q36, q37, nat_lt_dec, hd, hx, h244, k131', e1, hw]
    have hkk : keyS (l.take (i + 1)) = keyS (l.take i) ++ fbS l[i] := by rw [List.take_succ_eq_append_getElem hd, keyS, List.flatMap_append]; simp [keyS]
    refine IH (i + 1) _ _ (by omega) ⟨by omega, fun t ht => ?_, fun t h1 h2 => ?_, ?_, by rw [hkk]; exact e2, fun j hj => by rw [e5 j hj, hs j hj], by omega, e3⟩
    · have hne : ∀ k : Nat, 10 ≤ k → (k = t) = False := fun k hk => by simp; omega
      simp +contextual only [go_sem, ↓reduceIte, hne]
      exact hold t ht
    · have hne : ∀ k : Nat, 37 ≤ k → (k = t) = False := fun k hk => by simp; omega
      have hne10 : (10 = t) = False := by simp; omega
      simp +contextual only [go_sem, ↓reduceIte, hne, hne10]
      exact hold2 t h1 h2
    · simp +contextual only [go_sem, ↓reduceIte]
  · have : i = l.length := by omega
    subst this
    rw [List.take_length] at hbi
    simp (config := { maxSteps := 2000000 }) +contextual only [go_sem, ↓reduceIte, r214_l0, q36, q37, nat_lt_dec, Nat.lt_irrefl]
    refine hk _ _ (fun t ht => ?_) (fun t h1 h2 => ?_) hbi hs hnx fr'
    · have hne : ∀ k : Nat, 10 ≤ k → (k = t) = False := fun k hk => by simp; omega
      simp +contextual only [go_sem, ↓reduceIte, hne]
      exact hold t ht
    · have hne : ∀ k : Nat, 37 ≤ k → (k = t) = False := fun k hk => by simp; omega
      simp +contextual only [go_sem, ↓reduceIte, hne]
      exact hold2 t h1 (by omega)
end Go.Am

set_option linter.all false
namespace Go.Am
open Go
variable [MaxLen]
set_option maxRecDepth 100000
set_option maxHeartbeats 8000000

/-! # The states by what they trigger on -/
theorem appX' {s : St} {b n : Nat} {L : List Nat} (hL : L.length = n) (hg : s.get b = some (.cells (nats L) 3 false 0 0)) (k : Nat) :
    appD 3 1 1 [.int .i64 (k : Int)] (.sl b 0 n none 1) s = some (.sl s.next 0 (n + 1) none 1, (s.put b .gone).new (.cells (nats (L ++ [k])) 3 false 0 0)) := by
  have hcs : (nats L).length = n * 1 := by rw [nats_len, hL, Nat.mul_one]
  rw [appD_sl, hg, appS_cells hcs (by omega) rfl, nats_app]
def strs (l : List Str) : List AV := l.map .str
/-- the key of a state -/
def kapA (a : Auto) (u : Nat) : Str := keyS (a.fires.getD u (true, [])).2
structure Grp (s : St) (m : Nat) (κ : Nat → Str) (i : Nat) (bl : List Nat) (vo : AV) : Prop where
  gm : s.get m = some (.map (ent (esOf (fun k => (grp κ k i).length) (ordK κ i) bl)) false)
  len : bl.length = (ordK κ i).length
  nd : bl.Nodup
  blk : ∀ j (h : j < bl.length) (h' : j < (ordK κ i).length), m < bl[j] ∧ bl[j] < s.next ∧ s.get bl[j] = some (.cells (nats (grp κ (ordK κ i)[j] i)) 3 false 0 0)
  row : RowI s (m + 1) 9 1 (ordK κ i).length (strs (ordK κ i)) vo
theorem grp_len (κ : Nat → Str) (k : Str) (n : Nat) : (grp κ k n).length ≤ n := by
  have := List.length_filter_le (fun i => decide (κ i = k)) (List.range n)
  rw [List.length_range] at this
  exact this
theorem set_nodup {b : Nat} : ∀ {l : List Nat} {j : Nat}, l.Nodup → b ∉ l → (l.set j b).Nodup
  | [], j, _, _ => by simp
  | x :: l, 0, h, hb => by
    rw [List.nodup_cons] at h
    rw [List.set_cons_zero, List.nodup_cons]
    exact ⟨fun hm => hb (List.mem_cons_of_mem _ hm), h.2⟩
  | x :: l, j + 1, h, hb => by
    rw [List.nodup_cons] at h
    rw [List.mem_cons, not_or] at hb
    rw [List.set_cons_succ, List.nodup_cons]
    refine ⟨fun hm => ?_, set_nodup h.2 hb.2⟩
    rcases List.mem_or_eq_of_mem_set hm with h1 | h1
    · exact h.1 h1
    · exact hb.1 h1.symm
theorem l214b {β : Type} {fin : Fl → β} {ks : List K} {Post : β → Prop} {a : Auto} (ha : a.ok) {m : Nat} {e : Env} {s : St} (g4 : Env.get e 4 = .map m) (g5 : Env.get e 5 = .nils) (g28 : Env.get e 28 = encS a.fNl (a.fires.map encFRow)) (g29 : Env.get e 29 = .int .i64 a.fires.length) (g30 : Env.get e 30 = .int .i64 (0 : Nat))
    (gm : s.get m = some (.map [] false)) (nm : m < s.next) (fr : Fr s)
    (hk : ∀ e' s' bl vo, (∀ t : Nat, t < 5 → Env.get e' t = Env.get e t) → Env.get e' 5 = vo → Grp s' m (kapA a) a.next.length bl vo → (∀ j, j < m → s'.get j = s.get j) → s.next ≤ s'.next → Fr s' → Post (goN U fin ks e' s')) :
    Post (goL U fin (.bk 0 :: ks) r214_l1 e s) := by
  have hfew := ha.few
  have hfl := ha.fl
  refine loop_ex (σ := Nat) (fun i => a.fires.length - i) (fun i e' s' => i ≤ a.fires.length ∧ (∀ t : Nat, t < 5 → Env.get e' t = Env.get e t) ∧ Env.get e' 28 = encS a.fNl (a.fires.map encFRow) ∧ Env.get e' 29 = .int .i64 a.fires.length ∧ Env.get e' 30 = .int .i64 (i : Nat) ∧ (∀ j, j < m → s'.get j = s.get j) ∧ s.next ≤ s'.next ∧ Fr s' ∧
      ∃ bl vo, Env.get e' 5 = vo ∧ Grp s' m (kapA a) i bl vo) 0 ?_
    ⟨Nat.zero_le _, fun _ _ => rfl, g28, g29, g30, fun _ _ => rfl, Nat.le_refl _, fr, [], .nils, g5, ⟨by rw [gm]; rfl, rfl, by simp, fun j h => by simp at h, RowI.nil _ _ _ _⟩⟩
  rintro Lp i e' s' ⟨hi, hold, q28, q29, q30, hs, hnx, fr', bl, vo, q5, G⟩ IH
  have q4 := (hold 4 (by omega)).trans g4
  by_cases hd : i < a.fires.length
  · have hwr := wrap_succ hd (by omega)
    have hx := ixa_rowB (nl := a.fNl) hd
    have hrl := ha.frow i hd
    have hm16 : 2 ^ a.lines.toNat ≤ 65536 := by have := pow_le16 a.lines (by have := ha.lines; omega); have := mOf_nat a.lines; unfold mOf at this; omega
    have hla := lenL_encS a.fires[i].1 (bools a.fires[i].2)
    rw [bools_len] at hla
    have hκ : kapA a i = keyS a.fires[i].2 := by unfold kapA; rw [getD_at hd]
    simp (config := { maxSteps := 2000000 }) +contextual only [go_sem, ↓reduceIte, r214_l1, q4, q28, q29, q30, nat_lt_dec, hd, hx, hla]
    refine l214a (nl := a.fires[i].1) (l := a.fires[i].2) (b := s'.next) (by omega) ?_ ?_ ?_ ?_ ?_ ?_ ?_
    case refine_7 =>
      intro e2 s2 h2a h2b hbi hs2 hnx2 fr2
      rw [← hκ] at hbi
      have hkl : (kapA a i).length ≤ 2 ^ 39 := by
        have : ∀ l : List Bool, (keyS l).length ≤ l.length * 5 := by
          intro l
          induction l with
          | nil => simp [keyS]
          | cons x l ih =>
            have : (keyS (x :: l)).length = (fbS x).length + (keyS l).length := by simp [keyS]
            have h5 : (fbS x).length ≤ 5 := by cases x <;> simp [fbS]
            simp only [List.length_cons]; omega
        have := this a.fires[i].2
        rw [hκ]; omega
      obtain ⟨s3, c1, c2, c3, c4⟩ := c133V hbi fr2 hkl
      rw [next_new] at hnx2
      have old : ∀ j, j < s'.next → s3.get j = s'.get j := fun j hj => by rw [c4 j (by omega), hs2 j hj, get_new, if_neg (by omega)]
      have p4 : Env.get e2 4 = .map m := by rw [h2a 4 (by omega)]; simp +contextual only [go_sem, ↓reduceIte, q4]
      have p5 : Env.get e2 5 = vo := by rw [h2a 5 (by omega)]; simp +contextual only [go_sem, ↓reduceIte, q5]
      have p6 : Env.get e2 6 = .int .i64 (i : Nat) := by rw [h2a 6 (by omega)]; simp +contextual only [go_sem, ↓reduceIte]
      have p8 : Env.get e2 8 = .ptr s'.next 0 := by rw [h2a 8 (by omega)]; simp +contextual only [go_sem, ↓reduceIte]
      have p28 : Env.get e2 28 = encS a.fNl (a.fires.map encFRow) := by rw [h2b 28 (by omega) (by omega)]; simp +contextual only [go_sem, ↓reduceIte, q28]
      have p29 : Env.get e2 29 = .int .i64 a.fires.length := by rw [h2b 29 (by omega) (by omega)]; simp +contextual only [go_sem, ↓reduceIte, q29]
      have p30 : Env.get e2 30 = .int .i64 (i : Nat) := by rw [h2b 30 (by omega) (by omega)]; simp +contextual only [go_sem, ↓reduceIte, q30]
      have pl : ∀ t : Nat, t < 5 → Env.get e2 t = Env.get e t := fun t ht => by
        rw [h2a t (by omega)]
        have hne : ∀ k : Nat, 6 ≤ k → (k = t) = False := fun k hk => by simp; omega
        simp +contextual only [go_sem, ↓reduceIte, hne]
        exact hold t ht
      obtain ⟨Gm, Glen, Gnd, Gblk, Grow⟩ := G
      have nm' : m < s'.next := by omega
      have um := (old m nm').trans Gm
      have hgl := grp_len (kapA a) (kapA a i) i
      have lk := fun (S : St) (h : S.get m = some (.map (ent (esOf (fun k => (grp (kapA a) k i).length) (ordK (kapA a) i) bl)) false)) => lookup310 h (kapA a i)
      have up := fun (S : St) (v : AV) (h : S.get m = some (.map (ent (esOf (fun k => (grp (kapA a) k i).length) (ordK (kapA a) i) bl)) false)) => update310 h (kapA a i) v
      have gsucc : grp (kapA a) (kapA a i) (i + 1) = grp (kapA a) (kapA a i) i ++ [i] := by rw [grp_succ, if_pos rfl]
      by_cases hin : kapA a i ∈ ordK (kapA a) i
      · obtain ⟨j, hj, hje⟩ := List.mem_iff_getElem.1 hin
        have hjb : j < bl.length := by omega
        obtain ⟨b1, b2, b3⟩ := Gblk j hjb hj
        rw [hje] at b3
        have hge := getE_at (len := fun k => (grp (kapA a) k i).length) (bs := bl) (ordK_nd (kapA a) i) Glen hj
        rw [hje] at hge
        have hpos : 0 < (grp (kapA a) (kapA a i) i).length := by
          obtain ⟨u, hu1, hu2⟩ := (ordK_mem (kapA a) (kapA a i) i).1 hin
          exact List.length_pos_of_mem ((grp_mem _ _ _ _).2 ⟨hu1, hu2⟩)
        rw [hge] at lk
        simp only [Option.getD_some] at lk
        have hz : (((grp (kapA a) (kapA a i) i).length : Int) == 0) = false := by simp; intro e; rw [e] at hpos; simp at hpos
        have u3 := (old _ b2).trans b3
        have ax := fun (S : St) (h : S.get bl[j] = some (.cells (nats (grp (kapA a) (kapA a i) i)) 3 false 0 0)) => appX' rfl h i
        have hb1 : ((grp (kapA a) (kapA a i) i).length + 1) * 8 ≤ 1099511627776 := by omega
        have hb2 : (grp (kapA a) (kapA a i) i).length + 1 ≤ 1099511627776 := by omega
        have z1 : (s3.next = m) = False := by simp; omega
        have z2 : (s3.next + 1 = m) = False := by simp; omega
        have z3 : (bl[j] = m) = False := by simp; omega
        have z4 : (s3.next = bl[j]) = False := by simp; omega
        simp (config := { maxSteps := 2000000 }) +contextual only [go_sem, ↓reduceIte, p4, p6, p8, p30, k133', c1, um, lk, up, hz, u3, ax, appK_some, Nat.reducePow, Nat.one_mul, hb1, hb2, z1, z2, z3, z4, hwr]
        have hord : ordK (kapA a) (i + 1) = ordK (kapA a) i := by rw [ordK, if_pos hin]
        have hget : ∀ x y z k, k < s3.next → k ≠ m → k ≠ bl[j] → ((((s3.new x).put bl[j] y).new z).put m (.map (ent (esOf (fun k => (grp (kapA a) k (i + 1)).length) (ordK (kapA a) i) (bl.set j (s3.next + 1)))) false)).get k = s3.get k := fun x y z k h1 h2 h3 => by
          rw [get_put, if_neg h2.symm, get_new, next_put, next_new, if_neg (by omega), get_put, if_neg h3.symm, get_new, if_neg (by omega)]
        have hput := putE_at (len := fun k => (grp (kapA a) k i).length) (len' := fun k => (grp (kapA a) k (i + 1)).length) (bs := bl) (b' := s3.next + 1) (ordK_nd (kapA a) i) Glen hj (fun k _ hke => by
          rw [hje] at hke
          simp only [grp_succ, if_neg (fun e => hke (Eq.symm e))])
        rw [hje] at hput
        simp only [gsucc, List.length_append, List.length_singleton] at hput
        rw [hput]
        have lbl : ∀ x ∈ bl, x < s'.next := fun x hx => by
          obtain ⟨k, hk1, rfl⟩ := List.mem_iff_getElem.1 hx
          exact (Gblk k hk1 (by omega)).2.1
        refine IH (i + 1) _ _ (by omega) ⟨by omega, fun t ht => ?_, ?_, ?_, ?_, fun k hk => ?_, by simp only [next_put, next_new]; omega, (((c3.new _).put (by rw [next_new]; omega) _).new _).put (by rw [next_new, next_put, next_new]; omega) _, bl.set j (s3.next + 1), vo, ?_, ⟨?_, ?_, ?_, fun k h h' => ?_, ?_⟩⟩
        · have hne : ∀ k : Nat, 6 ≤ k → (k = t) = False := fun k hk => by simp; omega
          simp +contextual only [go_sem, ↓reduceIte, hne]
          exact pl t ht
        · simp +contextual only [go_sem, ↓reduceIte, p28]
        · simp +contextual only [go_sem, ↓reduceIte, p29]
        · simp +contextual only [go_sem, ↓reduceIte]
        · rw [hget _ _ _ k (by omega) (by omega) (by omega), old k (by omega), hs k hk]
        · simp +contextual only [go_sem, ↓reduceIte, p5]
        · rw [get_put, if_pos rfl, hord]
        · rw [List.length_set, hord]; exact Glen
        · exact set_nodup Gnd fun hm => by have := lbl _ hm; omega
        · rw [List.length_set] at h
          have h'' : k < (ordK (kapA a) i).length := by rw [← hord]; exact h'
          have hko : (ordK (kapA a) (i + 1))[k] = (ordK (kapA a) i)[k] := by simp only [hord]
          rw [hko]
          by_cases hkj : k = j
          · subst hkj
            rw [List.getElem_set_self, hje, gsucc]
            refine ⟨by omega, by simp only [next_put, next_new]; omega, ?_⟩
            rw [get_put, if_neg (by omega), get_new, next_put, next_new, if_pos rfl]
          · rw [List.getElem_set_ne (fun e => hkj e.symm)]
            obtain ⟨d1, d2, d3⟩ := Gblk k h h''
            have hne : bl[k] ≠ bl[j] := fun e => hkj ((List.getElem_inj Gnd).1 e)
            have hke : (ordK (kapA a) i)[k] ≠ kapA a i := fun e => hkj ((List.getElem_inj (ordK_nd (kapA a) i)).1 (e.trans hje.symm))
            refine ⟨d1, by simp only [next_put, next_new]; omega, ?_⟩
            rw [hget _ _ _ _ (by omega) (by omega) hne, old _ d2, d3, grp_succ, if_neg (fun e => hke e.symm)]
        · rw [hord]
          refine Grow.keepT (by simp only [next_put, next_new]; omega) fun k c h1 h2 h3 => ?_
          rw [hget _ _ _ k (by omega) (by omega) (fun e => by rw [e, b3] at h1; cases h1), old k h2]
          exact h1
      · have hge := getE_none (len := fun k => (grp (kapA a) k i).length) (bs := bl) hin
        rw [hge] at lk
        simp only [Option.getD_none] at lk
        have hg0 : grp (kapA a) (kapA a i) i = [] := by
          refine List.eq_nil_iff_forall_not_mem.2 fun u hu => hin ?_
          obtain ⟨h1, h2⟩ := (grp_mem _ _ _ _).1 hu
          exact (ordK_mem _ _ _).2 ⟨u, h1, h2⟩
        have hvo : RowI s3 (m + 1) 9 1 (ordK (kapA a) i).length (strs (ordK (kapA a) i)) vo := Grow.keepT (by omega) fun k c h1 h2 h3 => by rw [old k h2]; exact h1
        have hvo2 : RowI (s3.new (.cells [.str (kapA a i)] 9 false 0 0)) (m + 1) 9 1 (ordK (kapA a) i).length (strs (ordK (kapA a) i)) vo := hvo.keepT (by rw [next_new]; omega) fun k c h1 h2 h3 => by rw [get_new, if_neg (by omega)]; exact h1
        obtain ⟨s5, d1, d2, d3, d4, d5, d6⟩ := hvo2.appT (by rw [next_new]; omega) (.str (kapA a i)) rfl
        rw [next_new] at d1 d2 d3 d4
        have la := hvo.lenA
        have hol := ordK_len (kapA a) i
        have hb1 : ((ordK (kapA a) i).length + 1) * 16 ≤ 1099511627776 := by omega
        have hb2 : (ordK (kapA a) i).length + 1 ≤ 1099511627776 := by omega
        simp (config := { maxSteps := 2000000 }) +contextual only [go_sem, ↓reduceIte, p4, p5, p6, p8, p30, k133', c1, um, lk, appK_some, Nat.reducePow, Nat.one_mul, hb1, hb2, la, hwr]
        rw [d1]
        have v5m : s5.get m = some (.map (ent (esOf (fun k => (grp (kapA a) k i).length) (ordK (kapA a) i) bl)) false) := by rw [d5 m (by omega), get_new, if_neg (by omega)]; exact um
        have z1 : (s5.next = m) = False := by simp; omega
        have z2 : (s5.next + 1 = m) = False := by simp; omega
        simp (config := { maxSteps := 2000000 }) +contextual only [go_sem, ↓reduceIte, p4, p6, p8, p30, v5m, lk, up, appK_some, Nat.reducePow, Nat.one_mul, hwr, z1, z2]
        have hord : ordK (kapA a) (i + 1) = ordK (kapA a) i ++ [kapA a i] := by rw [ordK, if_neg hin]
        have hg1 : grp (kapA a) (kapA a i) (i + 1) = [i] := by rw [gsucc, hg0]; rfl
        have hoth : ∀ k, k ≠ kapA a i → grp (kapA a) k (i + 1) = grp (kapA a) k i := fun k hke => by rw [grp_succ, if_neg (fun e => hke (Eq.symm e))]
        have hput := putE_new (len := fun k => (grp (kapA a) k i).length) (len' := fun k => (grp (kapA a) k (i + 1)).length) (bs := bl) (b' := s5.next + 1) hin Glen (fun k hk => by
          have : k ≠ kapA a i := fun e => hin (e ▸ hk)
          simp only [hoth k this])
        simp only [hg1, List.length_singleton] at hput
        rw [hput]
        have hget : ∀ x y k, k < s5.next → k ≠ m → (((s5.new x).new y).put m (.map (ent (esOf (fun k => (grp (kapA a) k (i + 1)).length) (ordK (kapA a) i ++ [kapA a i]) (bl ++ [s5.next + 1]))) false)).get k = s5.get k := fun x y k h1 h2 => by
          rw [get_put, if_neg h2.symm, get_new, next_new, if_neg (by omega), get_new, if_neg (by omega)]
        have low5 : ∀ k, k < m → s5.get k = s'.get k := fun k hk => by rw [d5 k (by omega), get_new, if_neg (by omega), old k (by omega)]
        have typ5 : ∀ k c, s'.get k = some (.cells c 3 false 0 0) → k < s'.next → s5.get k = some (.cells c 3 false 0 0) := fun k c h1 h2 => d4 k c 3 0 0 (by rw [get_new, if_neg (by omega), old k h2]; exact h1) (by omega) (by decide)
        have lbl : ∀ x ∈ bl, x < s'.next := fun x hx => by
          obtain ⟨k, hk1, rfl⟩ := List.mem_iff_getElem.1 hx
          exact (Gblk k hk1 (by omega)).2.1
        refine IH (i + 1) _ _ (by omega) ⟨by omega, fun t ht => ?_, ?_, ?_, ?_, fun k hk => ?_, by simp only [next_put, next_new]; omega, (((d6 (c3.new _)).new _).new _).put (by simp only [next_new]; omega) _, bl ++ [s5.next + 1], .sl (s3.next + 1) 0 ((ordK (kapA a) i).length + 1) none 1, ?_, ⟨?_, ?_, ?_, fun k h h' => ?_, ?_⟩⟩
        · have hne : ∀ k : Nat, 6 ≤ k → (k = t) = False := fun k hk => by simp; omega
          have hne5 : (5 = t) = False := by simp; omega
          simp +contextual only [go_sem, ↓reduceIte, hne, hne5]
          exact pl t ht
        · simp +contextual only [go_sem, ↓reduceIte, p28]
        · simp +contextual only [go_sem, ↓reduceIte, p29]
        · simp +contextual only [go_sem, ↓reduceIte]
        · rw [hget _ _ k (by omega) (by omega), low5 k hk, hs k hk]
        · simp +contextual only [go_sem, ↓reduceIte]
        · rw [get_put, if_pos rfl, hord]
        · rw [hord, List.length_append, List.length_append, Glen]; rfl
        · rw [List.nodup_append]
          refine ⟨Gnd, by simp, fun x hx y hy => ?_⟩
          rw [List.mem_singleton.1 hy]
          have := lbl x hx
          omega
        · by_cases hkb : k < bl.length
          · obtain ⟨e1, e2, e3⟩ := Gblk k hkb (by omega)
            have hko : (ordK (kapA a) (i + 1))[k] = (ordK (kapA a) i)[k]'(by omega) := by simp only [hord]; rw [List.getElem_append_left (by omega)]
            have hke : (ordK (kapA a) i)[k]'(by omega) ≠ kapA a i := fun e => hin (e ▸ List.getElem_mem (by omega))
            rw [hko, List.getElem_append_left hkb, hoth _ hke]
            refine ⟨e1, by simp only [next_put, next_new]; omega, ?_⟩
            rw [hget _ _ _ (by omega) (by omega)]
            exact typ5 _ _ e3 e2
          · have hkl : k = bl.length := by rw [List.length_append, List.length_singleton] at h; omega
            subst hkl
            have hko : (ordK (kapA a) (i + 1))[bl.length] = kapA a i := by simp only [hord]; rw [List.getElem_append_right (by omega)]; simp
            rw [hko, List.getElem_append_right (by omega), hg1]
            simp only [List.getElem_singleton]
            refine ⟨by omega, by simp only [next_put, next_new]; omega, ?_⟩
            rw [get_put, if_neg (by omega), get_new, next_new, if_pos rfl]
            rfl
        · have e1 : (ordK (kapA a) (i + 1)).length = (ordK (kapA a) i).length + 1 := by rw [hord]; simp
          have e2 : strs (ordK (kapA a) (i + 1)) = strs (ordK (kapA a) i) ++ [.str (kapA a i)] := by rw [hord]; simp [strs]
          rw [e1, e2]
          refine d3.keepT (by simp only [next_put, next_new]; omega) fun k c h1 h2 h3 => ?_
          rw [hget _ _ k (by omega) (by omega)]
          exact h1
    case refine_6 => exact fr'.new _
    case refine_5 =>
      refine ⟨.nilp, .nils, ?_, .inl rfl, by rw [next_new]; omega, RowI.nil _ _ _ _⟩
      rw [get_new, if_pos rfl]
    all_goals simp +contextual only [go_sem, ↓reduceIte]
    all_goals rfl
  · have : i = a.fires.length := by omega
    subst this
    simp (config := { maxSteps := 2000000 }) +contextual only [go_sem, ↓reduceIte, r214_l1, q29, q30, nat_lt_dec, Nat.lt_irrefl]
    rw [hfl] at G
    refine hk _ _ bl vo (fun t ht => ?_) ?_ G hs hnx fr'
    · have hne : ∀ k : Nat, 6 ≤ k → (k = t) = False := fun k hk => by simp; omega
      simp +contextual only [go_sem, ↓reduceIte, hne]
      exact hold t ht
    · simp +contextual only [go_sem, ↓reduceIte, q5]
end Go.Am

set_option linter.all false
namespace Go.Am
open Go
variable [MaxLen]
set_option maxRecDepth 100000
set_option maxHeartbeats 8000000

/-! # The program's partition: a set is parted -/
theorem sllN {b n f t : Nat} {cap : Option Nat} (hc : cap = none ∨ cap = some n) (h1 : f ≤ t) (h2 : t ≤ n) : slRL 1 (.sl b 0 n cap 1) (some (.int .i64 (f : Int))) (some (.int .i64 (t : Int))) = some (.sl b f (t - f) (cap.map (· - f)) 1) := by
  have e1 : boundA (some (.int .i64 (t : Int))) n n = some t := by simp [boundA]; omega
  have e2 : boundA (some (.int .i64 (f : Int))) 0 t = some f := by simp [boundA]; omega
  rcases hc with rfl | rfl
  · simp only [slRL, Option.getD_none, e1, e2, Nat.mul_one, Nat.zero_add, if_true]
  · simp only [slRL, Option.getD_some, e1, e2, Nat.mul_one, Nat.zero_add, if_true]
theorem appX {s : St} {b n : Nat} {L : List Nat} (hL : L.length = n) (hg : s.get b = some (.cells (nats L) 3 false 0 0)) (k : Nat) :
    appD 3 1 1 [.int .i64 (k : Int)] (.sl b 0 n none 1) s = some (.sl s.next 0 (n + 1) none 1, (s.put b .gone).new (.cells (nats (L ++ [k])) 3 false 0 0)) := by
  have hcs : (nats L).length = n * 1 := by rw [nats_len, hL, Nat.mul_one]
  rw [appD_sl, hg, appS_cells hcs (by omega) rfl, nats_app]
theorem appX0 {s : St} {b n : Nat} {L : List Nat} (hL : L.length = n) (hg : s.get b = some (.cells (nats L) 3 false 0 0)) :
    appD 3 1 1 [.int .i64 0] (.sl b 0 n none 1) s = some (.sl s.next 0 (n + 1) none 1, (s.put b .gone).new (.cells (nats (L ++ [0])) 3 false 0 0)) := appX hL hg 0
theorem piece_len {l : List Nat} {f t : Nat} (h : t ≤ l.length) : (piece l f t).length = t - f := by unfold piece; simp; omega
theorem piece_at {l : List Nat} {f t i : Nat} (h : t ≤ l.length) (hi : i < t - f) : (piece l f t)[i]'(by rw [piece_len h]; exact hi) = gt l (f + i) := by
  rw [gt_get (by omega)]
  unfold piece
  rw [List.getElem_take, List.getElem_drop]
theorem l217 {β : Type} {fin : Fl → β} {ks : List K} {Post : β → Prop} {pb bl bs n f t K m x1 x4 x5 : Nat} {L S : List Nat} {vp ve vm : AV} {c : Option Nat} {bb : Nat} (hft : f ≤ t) (ht : t ≤ L.length) (hL : L.length ≤ 2 ^ 20) (hK : K ≤ 2 ^ 20) (hS : S.length = n) (hLn : ∀ i, i < L.length → gt L i < n) (hps : pb ≠ bs) (hls : bl ≠ bs)
    {e : Env} {s : St} (g0 : Env.get e 0 = .ptr pb 0) (g119 : Env.get e 119 = .sl bl f (t - f) c 1) (g120 : Env.get e 120 = .int .i64 ((t - f : Nat) : Int)) (g121 : Env.get e 121 = .int .i64 (0 : Nat))
    (gp : s.get pb = some (.cells [.sl bl 0 L.length none 1, vp, .sl bs 0 n (some n) 1, .sl bb 0 (K + 1) none 1, ve, vm] 285 false 0 0)) (gl : s.get bl = some (.cells (nats L) 3 false 0 0)) (gs : s.get bs = some (.cells (nats S) 3 false 0 0)) (hbs : bs < s.next) (fr : Fr s)
    (hk : ∀ e' s', Env.get e' 0 = .ptr pb 0 → s'.get bs = some (.cells (nats (setAll K (piece L f t) S)) 3 false 0 0) → (∀ j, j ≠ bs → s'.get j = s.get j) → s.next ≤ s'.next → Fr s' → Post (goN U fin ks e' s')) :
    Post (goL U fin (.bk 0 :: ks) r217_l0 e s) := by
  have hpl := piece_len (f := f) ht
  refine loop_ex (σ := Nat) (fun i => t - f - i) (fun i e' s' => i ≤ t - f ∧ Env.get e' 0 = .ptr pb 0 ∧ Env.get e' 119 = .sl bl f (t - f) c 1 ∧ Env.get e' 120 = .int .i64 ((t - f : Nat) : Int) ∧ Env.get e' 121 = .int .i64 (i : Nat) ∧ (∀ j, j ≠ bs → s'.get j = s.get j) ∧ s.next ≤ s'.next ∧ Fr s' ∧
      ∃ S', S'.length = n ∧ s'.get bs = some (.cells (nats S') 3 false 0 0) ∧ setAll K ((piece L f t).drop i) S' = setAll K (piece L f t) S) 0 ?_
    ⟨Nat.zero_le _, g0, g119, g120, g121, fun _ _ => rfl, Nat.le_refl _, fr, S, hS, gs, rfl⟩
  rintro Lp i e' s' ⟨hi, q0, q119, q120, q121, hs, hnx, fr', S', hS', qs, hset⟩ IH
  have gp' := (hs pb hps).trans gp
  have gl' := (hs bl hls).trans gl
  by_cases hd : i < t - f
  · have hw := wrap_succ hd (by omega)
    have o1 := nats_get (l := L) (i := f + i) (by omega)
    have hu := hLn (f + i) (by omega)
    have hlay := nats_lay (l := S') (i := gt L (f + i)) K (by omega)
    rw [List.drop_eq_getElem_cons (by rw [hpl]; exact hd), piece_at ht hd, setAll] at hset
    have w1 : IntKind.i64.wrap (((K + 1 : Nat) : Int) - 1) = (K : Int) := by rw [wrap_i64] <;> omega
    have z1 : (bs = pb) = False := eq_false hps.symm
    have z2 : (bs = bl) = False := eq_false hls.symm
    simp (config := { maxSteps := 2000000 }) +contextual only [go_sem, ↓reduceIte, r217_l0, q0, q119, q120, q121, nat_lt_dec, hd, gp', gl', qs, o1, hu, hlay, w1, hw, Nat.mul_one, z1, z2]
    refine IH (i + 1) _ _ (by omega) ⟨by omega, ?_, ?_, ?_, ?_, fun j hj => ?_, ?_, ?_, S'.set (gt L (f + i)) K, by rw [List.length_set]; exact hS', ?_, hset⟩
    · simp +contextual only [go_sem, ↓reduceIte, q0]
    · simp +contextual only [go_sem, ↓reduceIte, q119]
    · simp +contextual only [go_sem, ↓reduceIte, q120]
    · simp +contextual only [go_sem, ↓reduceIte, hw]
    · rw [get_put, if_neg hj.symm, upto_get]; exact hs j hj
    · rw [next_put, upto_next]; omega
    · exact (fr'.upto (by omega)).put (by rw [upto_next]; omega) _
    · rw [get_put, if_pos rfl]
  · have : i = t - f := by omega
    subst this
    have hdn : (piece L f t).drop (t - f) = [] := by rw [← hpl, List.drop_length]
    rw [hdn, setAll] at hset
    simp (config := { maxSteps := 2000000 }) +contextual only [go_sem, ↓reduceIte, r217_l0, q120, q121, nat_lt_dec, Nat.lt_irrefl]
    refine hk _ _ ?_ (by rw [qs, hset]) hs hnx fr'
    simp +contextual only [go_sem, ↓reduceIte, q0]

def P217 (s0 : St) (pb n bl bp bs bb be bm : Nat) (p : Pt) (v : Int) (r : Option (AV × St)) : Prop :=
  ∃ s' bb' be' bm', r = some (.int .i64 v, s') ∧ PtI s' pb n bl bp bs bb' be' bm' p ∧ s0.next ≤ s'.next ∧ Fr s' ∧ (bb' = bb ∨ s0.next ≤ bb') ∧ (be' = be ∨ s0.next ≤ be') ∧ (bm' = bm ∨ s0.next ≤ bm') ∧
    ∀ j, j < s0.next → j ≠ pb → j ≠ bs → j ≠ bb → j ≠ be → j ≠ bm → s'.get j = s0.get j
theorem f217 {s S : St} {e : Env} {pb n bl bp bs bb be bm b1 b2 b3 f t : Nat} {c : Option Nat} {p : Pt} {bg' en' mr' : List Nat} (hbl : bg'.length = p.bg.length + 1) (hel : en'.length = p.en.length + 1) (hml : mr'.length = p.mr.length + 1) (h : PtI s pb n bl bp bs bb be bm p) (hw : p.Wf n) (hn : n ≤ 2 ^ 19) (hft : f ≤ t) (ht : t ≤ n)
    (hb1 : s.next ≤ b1) (hb2 : b1 < b2) (hb3 : b2 < b3) (hb4 : b3 < S.next)
    (g0 : Env.get e 0 = .ptr pb 0) (g119 : Env.get e 119 = .sl bl f (t - f) c 1) (g120 : Env.get e 120 = .int .i64 ((t - f : Nat) : Int)) (g121 : Env.get e 121 = .int .i64 (0 : Nat))
    (gp : S.get pb = some (.cells [.sl bl 0 p.list.length none 1, .sl bp 0 p.place.length (some n) 1, .sl bs 0 p.set.length (some n) 1, .sl b1 0 (p.bg.length + 1) none 1, .sl b2 0 (p.en.length + 1) none 1, .sl b3 0 (p.mr.length + 1) none 1] 285 false 0 0))
    (gs : S.get bs = some (.cells (nats p.set) 3 false 0 0)) (k1 : S.get b1 = some (.cells (nats bg') 3 false 0 0)) (k2 : S.get b2 = some (.cells (nats en') 3 false 0 0)) (k3 : S.get b3 = some (.cells (nats mr') 3 false 0 0)) (fr : Fr S)
    (hold : ∀ j, j < s.next → j ≠ pb → j ≠ bs → j ≠ bb → j ≠ be → j ≠ bm → S.get j = s.get j) :
    P217 s pb n bl bp bs bb be bm { list := p.list, place := p.place, set := setAll p.bg.length (piece p.list f t) p.set, bg := bg', en := en', mr := mr' } p.bg.length
      (goL U (finB U [.tmp 4]) [.bk 0, .sq (.seq (.ops [⟨some 138, none, none, false, .mov (.t 0)⟩, ⟨some 139, none, none, false, .raw (.nilCheck (.tmp 138))⟩, ⟨some 140, none, none, false, .fa 3 (.t 139)⟩, ⟨some 141, none, none, false, .ld1 (.t 140)⟩, ⟨some 142, none, none, false, .lenL (.t 141)⟩,
        ⟨some 143, none, none, false, .bin .sub 3 true (.t 142) (.v (.int .i64 1))⟩, ⟨some 4, none, none, false, .mov (.t 143)⟩]) .ret)] r217_l0 e S) := by
  have A := Ap.of h.ne
  have hls := hw.ls; have hll := hw.ll; have hlp := hw.lp; have hfew := hw.few
  have lpb := h.lt pb (by simp); have lbl := h.lt bl (by simp); have lbp := h.lt bp (by simp); have lbs := h.lt bs (by simp)
  have gl : S.get bl = some (.cells (nats p.list) 3 false 0 0) := (hold bl lbl A.n1.symm A.n8 A.n9 A.n10 A.n11).trans h.gl
  have gpl : S.get bp = some (.cells (nats p.place) 3 false 0 0) := (hold bp lbp A.n2.symm A.n12 A.n13 A.n14 A.n15).trans h.gp
  have gp' := gp
  rw [hls] at gp'
  refine l217 (Post := P217 s pb n bl bp bs bb be bm { list := p.list, place := p.place, set := setAll p.bg.length (piece p.list f t) p.set, bg := bg', en := en', mr := mr' } p.bg.length) (x1 := 0) (x4 := 0) (x5 := 0) (m := 0) (K := p.bg.length) hft (by omega) (by omega) (by omega) hls (fun i hi => (hw.li i (by omega)).1) A.n3 A.n8 g0 g119 g120 g121 gp' gl gs (by omega) fr ?_
  intro e' s' q0 qs hs hnx fr'
  have w1 : IntKind.i64.wrap (((p.bg.length + 1 : Nat) : Int) - 1) = (p.bg.length : Int) := by rw [wrap_i64] <;> omega
  have hp := (hs pb A.n3).trans gp
  simp (config := { maxSteps := 2000000 }) +contextual only [go_sem, ↓reduceIte, q0, hp, w1]
  refine ⟨s', b1, b2, b3, rfl, ⟨?_, (hs bl A.n8).trans gl, (hs bp A.n12).trans gpl, qs, (hs b1 (by omega)).trans k1, (hs b2 (by omega)).trans k2, (hs b3 (by omega)).trans k3, ?_, ?_⟩, by omega, fr', .inr hb1, .inr (by omega), .inr (by omega), fun j h1 h2 h3 h4 h5 h6 => by rw [hs j h3, hold j h1 h2 h3 h4 h5 h6]⟩
  · rw [hp]
    simp only [setAll_len, hbl, hel, hml]
  · have := A.n1; have := A.n2; have := A.n3; have := A.n7; have := A.n8; have := A.n12
    simp only [List.nodup_cons, List.mem_cons, List.not_mem_nil, not_or, or_false, List.nodup_nil, and_true, not_false_eq_true]
    refine ⟨⟨A.n1, A.n2, A.n3, ?_, ?_, ?_⟩, ⟨A.n7, A.n8, ?_, ?_, ?_⟩, ⟨A.n12, ?_, ?_, ?_⟩, ⟨?_, ?_, ?_⟩, ⟨?_, ?_⟩, ?_⟩ <;> omega
  · intro j hj
    simp only [List.mem_cons, List.not_mem_nil, or_false] at hj
    rcases hj with rfl | rfl | rfl | rfl | rfl | rfl | rfl <;> omega
theorem c217 {s : St} {pb n bl bp bs bb be bm : Nat} {p : Pt} (h : PtI s pb n bl bp bs bb be bm p) (hw : p.Wf n) (hn : n ≤ 2 ^ 19) (fr : Fr s) {k : Nat} (hk : k < p.bg.length) (hm0 : 0 < gt p.mr k) :
    P217 s pb n bl bp bs bb be bm (p.cut k).1 (bif (p.cut k).2 then (p.bg.length : Int) else -1) (cal U 217 [.ptr pb 0, .int .i64 (k : Int)] s) := by
  suffices hgo : P217 s pb n bl bp bs bb be bm (p.cut k).1 (bif (p.cut k).2 then (p.bg.length : Int) else -1) (go U (finB U [.tmp 4]) [] r217 (bindArgs 0 [.ptr pb 0, .int .i64 (k : Int)] .nil) s) by
    obtain ⟨s', b1, b2, b3, h1, h2⟩ := hgo
    exact ⟨s', b1, b2, b3, kept_go k217 (by kernel_rfl) h1, h2⟩
  obtain ⟨hk1, hk2, hk3⟩ := hw.sp k hk
  have hmk := hw.mr k hk
  obtain ⟨g, gl, gp, gs, gb, ge, gm, nd, lt⟩ := h
  have A := Ap.of nd
  have hll := hw.ll; have hlp := hw.lp; have hls := hw.ls; have hle := hw.le; have hlm := hw.lm
  have hfew := hw.few
  have lt' : pb < s.next ∧ bl < s.next ∧ bp < s.next ∧ bs < s.next ∧ bb < s.next ∧ be < s.next ∧ bm < s.next := by
    refine ⟨lt _ (by simp), lt _ (by simp), lt _ (by simp), lt _ (by simp), lt _ (by simp), lt _ (by simp), lt _ (by simp)⟩
  obtain ⟨lt1, lt2, lt3, lt4, lt5, lt6, lt7⟩ := lt'
  have q1 := nats_get (l := p.mr) (i := k) (by omega)
  have q2 := nats_get (l := p.en) (i := k) (by omega)
  have q3 := nats_get (l := p.bg) (i := k) hk
  have km : k < p.mr.length := by omega
  have ke : k < p.en.length := by omega
  have w1 : IntKind.i64.wrap (((gt p.en k : Nat) : Int) - ((gt p.bg k : Nat) : Int)) = ((gt p.en k - gt p.bg k : Nat) : Int) := by rw [wrap_i64] <;> omega
  have y1 := nats_lay (l := p.mr) (i := k) 0 km
  have y1 : lay k [.int .i64 0] (nats p.mr) = some (nats (p.mr.set k 0)) := y1
  have z1 : (bm = pb) = False := eq_false A.n6.symm
  have z2 : (bm = bb) = False := eq_false A.n20.symm
  have z3 : (bm = be) = False := eq_false A.n21.symm
  have e1 := ieqN (gt p.mr k) (gt p.en k - gt p.bg k)
  unfold Pt.cut
  cases hall : gt p.mr k == gt p.en k - gt p.bg k with
  | true =>
    rw [hall] at e1
    simp (config := { maxSteps := 2000000 }) +contextual only [go_sem, ↓reduceIte, r217, g, gb, ge, gm, q1, q2, q3, hk, km, ke, w1, y1, Nat.mul_one, z1, z2, z3, e1, cond_true]
    refine ⟨_, bb, be, bm, rfl, ⟨?_, ?_, ?_, ?_, ?_, ?_, ?_, nd, fun j hj => ?_⟩, ?_, ?_, .inl rfl, .inl rfl, .inl rfl, fun j h1 h2 h3 h4 h5 h6 => ?_⟩
    · rw [get_put, if_neg A.n6.symm, upto_get, g]
      simp only [List.length_set]
    · rw [get_put, if_neg A.n11.symm, upto_get, gl]
    · rw [get_put, if_neg A.n15.symm, upto_get, gp]
    · rw [get_put, if_neg A.n18.symm, upto_get, gs]
    · rw [get_put, if_neg A.n20.symm, upto_get, gb]
    · rw [get_put, if_neg A.n21.symm, upto_get, ge]
    · rw [get_put, if_pos rfl]
    · simp only [next_put, upto_next]
      have := lt j hj
      omega
    · simp only [next_put, upto_next]; omega
    · exact (fr.upto (by omega)).put (by rw [upto_next]; omega) _
    · rw [get_put, if_neg h6.symm, upto_get]
  | false =>
    rw [hall] at e1
    have hN1 : ∀ j q, j < s.next → (j = s.next + q) = False := fun j q hj => by simp; omega
    have hN2 : ∀ j q, j < s.next → (s.next + q = j) = False := fun j q hj => by simp; omega
    have hN3 : ∀ q, q ≠ 0 → (s.next + q = s.next) = False := fun q hq => by simp; omega
    have hN4 : ∀ q, q ≠ 0 → (s.next = s.next + q) = False := fun q hq => by simp; omega
    have hfk := fr.at
    have w2 : IntKind.i64.wrap (((gt p.bg k : Nat) : Int) + ((gt p.mr k : Nat) : Int)) = ((gt p.bg k + gt p.mr k : Nat) : Int) := by rw [wrap_i64] <;> omega
    have w3 : IntKind.i64.wrap (2 * ((gt p.mr k : Nat) : Int)) = 2 * ((gt p.mr k : Nat) : Int) := by rw [wrap_i64] <;> omega
    have e2 : decide (2 * ((gt p.mr k : Nat) : Int) > ((gt p.en k - gt p.bg k : Nat) : Int)) = decide (2 * gt p.mr k > gt p.en k - gt p.bg k) := by congr 1; apply propext; omega
    have z4 : (be = pb) = False := eq_false A.n5.symm
    have z5 : (be = bb) = False := eq_false A.n19.symm
    have z6 : (be = bm) = False := eq_false A.n21
    have z7 : (bb = pb) = False := eq_false A.n4.symm
    have z8 : (bb = be) = False := eq_false A.n19
    have z9 : (bb = bm) = False := eq_false A.n20
    have x1 : (pb = bs) = False := eq_false A.n3
    have x2 : (bb = bs) = False := eq_false A.n16.symm
    have x3 : (be = bs) = False := eq_false A.n17.symm
    have x4 : (bm = bs) = False := eq_false A.n18.symm
    have x5 : (pb = bb) = False := eq_false A.n4
    have x6 : (pb = be) = False := eq_false A.n5
    have x7 : (pb = bm) = False := eq_false A.n6
    have hb1 : (p.bg.length + 1) * 8 ≤ 1099511627776 := by omega
    have hb2 : p.bg.length + 1 ≤ 1099511627776 := by omega
    have hb3 : (p.en.length + 1) * 8 ≤ 1099511627776 := by omega
    have hb4 : p.en.length + 1 ≤ 1099511627776 := by omega
    have hb5 : (p.mr.length + 1) * 8 ≤ 1099511627776 := by omega
    have hb6 : p.mr.length + 1 ≤ 1099511627776 := by omega
    cases h2 : decide (2 * gt p.mr k > gt p.en k - gt p.bg k) with
    | true =>
      rw [h2] at e2
      have y2 := nats_lay (l := p.en) (i := k) (gt p.bg k + gt p.mr k) ke
      have sl1 := sllN (b := bl) (n := p.list.length) (f := gt p.bg k + gt p.mr k) (t := gt p.en k) (.inl rfl) (by omega) (by omega)
      have a1 := fun (S : St) (h : S.get bb = some (.cells (nats p.bg) 3 false 0 0)) => appX rfl h (gt p.bg k + gt p.mr k)
      have a2 := fun (S : St) (h : S.get be = some (.cells (nats (p.en.set k (gt p.bg k + gt p.mr k))) 3 false 0 0)) => appX (n := p.en.length) (by simp) h (gt p.en k)
      have a3 := fun (S : St) (h : S.get bm = some (.cells (nats (p.mr.set k 0)) 3 false 0 0)) => appX0 (n := p.mr.length) (by simp) h
      simp (config := { maxSteps := 2000000 }) +contextual only [go_sem, ↓reduceIte, r217, g, gb, ge, gm, q1, q2, q3, hk, km, ke, w1, w2, w3, y1, y2, Nat.mul_one, z1, z2, z3, z4, z5, z6, z7, z8, z9, e1, e2, cond_true, cond_false, go_drcU d217_0, hN1, hN2, lt1, lt2, lt3, lt4, lt5, lt6, lt7, hfk, a1, a2, a3, appK_some, Nat.reducePow, Nat.one_mul, hb1, hb2, hb3, hb4, hb5, hb6, Nat.add_assoc, Option.isNone_none, hN3, hN4, sl1, Option.map_none]
      refine f217 (b1 := s.next + 84) (b2 := s.next + 85) (b3 := s.next + 86) (c := none) (by simp) (by simp) (by simp) ⟨g, gl, gp, gs, gb, ge, gm, nd, lt⟩ hw hn (by omega) (by omega) (by omega) (by omega) (by omega) ?_ ?_ ?_ ?_ ?_ ?_ ?_ ?_ ?_ ?_ ?_ ?_
      case refine_1 => simp only [next_put, next_new, upto_next]; omega
      case refine_11 =>
        repeat first | exact fr | apply Fr.new | apply Fr.put | apply Fr.upto
        all_goals try simp only [next_put, next_new, upto_next]
        all_goals omega
      case refine_12 =>
        intro j h1 h2 h3 h4 h5 h6
        have v1 : (pb = j) = False := eq_false h2.symm
        have v2 : (bs = j) = False := eq_false h3.symm
        have v3 : (bb = j) = False := eq_false h4.symm
        have v4 : (be = j) = False := eq_false h5.symm
        have v5 : (bm = j) = False := eq_false h6.symm
        have v6 : ∀ q, (s.next + q = j) = False := fun q => hN2 j q h1
        simp only [get_put, get_new, next_put, next_new, upto_get, upto_next, v1, v3, v4, v5, v6, if_false, Nat.add_assoc]
      all_goals simp +contextual only [go_sem, ↓reduceIte, g, gs, z1, z2, z3, z4, z5, z6, z7, z8, z9, x1, x2, x3, x4, x5, x6, x7, hN1, hN2, lt1, lt2, lt3, lt4, lt5, lt6, lt7, Nat.add_assoc]
      all_goals first | rfl | simp
    | false =>
      rw [h2] at e2
      have y2 := nats_lay (l := p.bg) (i := k) (gt p.bg k + gt p.mr k) hk
      have sl1 := sllN (b := bl) (n := p.list.length) (f := gt p.bg k) (t := gt p.bg k + gt p.mr k) (.inl rfl) (by omega) (by omega)
      have a1 := fun (S : St) (h : S.get bb = some (.cells (nats (p.bg.set k (gt p.bg k + gt p.mr k))) 3 false 0 0)) => appX (n := p.bg.length) (by simp) h (gt p.bg k)
      have a2 := fun (S : St) (h : S.get be = some (.cells (nats p.en) 3 false 0 0)) => appX (n := p.en.length) rfl h (gt p.bg k + gt p.mr k)
      have a3 := fun (S : St) (h : S.get bm = some (.cells (nats (p.mr.set k 0)) 3 false 0 0)) => appX0 (n := p.mr.length) (by simp) h
      simp (config := { maxSteps := 2000000 }) +contextual only [go_sem, ↓reduceIte, r217, g, gb, ge, gm, q1, q2, q3, hk, km, ke, w1, w2, w3, y1, y2, Nat.mul_one, z1, z2, z3, z4, z5, z6, z7, z8, z9, e1, e2, cond_true, cond_false, go_drcU d217_0, hN1, hN2, lt1, lt2, lt3, lt4, lt5, lt6, lt7, hfk, a1, a2, a3, appK_some, Nat.reducePow, Nat.one_mul, hb1, hb2, hb3, hb4, hb5, hb6, Nat.add_assoc, Option.isNone_none, hN3, hN4, sl1, Option.map_none]
      refine f217 (b1 := s.next + 74) (b2 := s.next + 75) (b3 := s.next + 76) (c := none) (by simp) (by simp) (by simp) ⟨g, gl, gp, gs, gb, ge, gm, nd, lt⟩ hw hn (by omega) (by omega) (by omega) (by omega) (by omega) ?_ ?_ ?_ ?_ ?_ ?_ ?_ ?_ ?_ ?_ ?_ ?_
      case refine_1 => simp only [next_put, next_new, upto_next]; omega
      case refine_11 =>
        repeat first | exact fr | apply Fr.new | apply Fr.put | apply Fr.upto
        all_goals try simp only [next_put, next_new, upto_next]
        all_goals omega
      case refine_12 =>
        intro j h1 h2 h3 h4 h5 h6
        have v1 : (pb = j) = False := eq_false h2.symm
        have v2 : (bs = j) = False := eq_false h3.symm
        have v3 : (bb = j) = False := eq_false h4.symm
        have v4 : (be = j) = False := eq_false h5.symm
        have v5 : (bm = j) = False := eq_false h6.symm
        have v6 : ∀ q, (s.next + q = j) = False := fun q => hN2 j q h1
        simp only [get_put, get_new, next_put, next_new, upto_get, upto_next, v1, v3, v4, v5, v6, if_false, Nat.add_assoc]
      all_goals simp +contextual only [go_sem, ↓reduceIte, g, gs, z1, z2, z3, z4, z5, z6, z7, z8, z9, x1, x2, x3, x4, x5, x6, x7, hN1, hN2, lt1, lt2, lt3, lt4, lt5, lt6, lt7, Nat.add_assoc]
      all_goals first | rfl | simp
end Go.Am

set_option linter.all false
namespace Go.Am
open Go
variable [MaxLen]
set_option maxRecDepth 100000
set_option maxHeartbeats 8000000

/-! # The rows are laid out set by set -/
def SlI (s : St) (N : Nat) (L : List Nat) (v : AV) : Prop := (v = .nils ∧ L = []) ∨ ∃ b, v = .sl b 0 L.length none 1 ∧ s.get b = some (.cells (nats L) 3 false 0 0) ∧ N ≤ b ∧ b < s.next
def isB (v : AV) (j : Nat) : Prop := ∃ n, v = .sl j 0 n none 1
theorem isB_sl (b n j : Nat) : isB (.sl b 0 n none 1) j ↔ b = j := by
  constructor
  · rintro ⟨m, h⟩; cases h; rfl
  · rintro rfl; exact ⟨n, rfl⟩
theorem isB_nils (j : Nat) : ¬ isB .nils j := by rintro ⟨m, h⟩; cases h
theorem SlI.keep {s s' : St} {N : Nat} {L : List Nat} {v : AV} (h : SlI s N L v) (hn : s.next ≤ s'.next) (hg : ∀ j, j < s.next → N ≤ j → isB v j → s'.get j = s.get j) : SlI s' N L v := by
  rcases h with h | ⟨b, h1, h2, h3, h4⟩
  · exact .inl h
  · exact .inr ⟨b, h1, by rw [hg b h4 h3 ⟨_, h1⟩]; exact h2, h3, by omega⟩
theorem SlI.lt {s : St} {N : Nat} {L : List Nat} {v : AV} (h : SlI s N L v) {j : Nat} (hj : isB v j) : N ≤ j ∧ j < s.next := by
  rcases h with ⟨h, _⟩ | ⟨b, h1, h2, h3, h4⟩
  · rw [h] at hj; exact absurd hj (isB_nils j)
  · rw [h1, isB_sl] at hj; subst hj; exact ⟨h3, h4⟩
structure MidI (s : St) (pb n bp bs N : Nat) (p : Pt) (vl ve : AV) (b1 b3 : Nat) : Prop where
  g : s.get pb = some (.cells [vl, .sl bp 0 n (some n) 1, .sl bs 0 n (some n) 1, .sl b1 0 p.bg.length none 1, ve, .sl b3 0 p.mr.length none 1] 285 false 0 0)
  gp : s.get bp = some (.cells (nats p.place) 3 false 0 0)
  gs : s.get bs = some (.cells (nats p.set) 3 false 0 0)
  gb : s.get b1 = some (.cells (nats p.bg) 3 false 0 0)
  gm : s.get b3 = some (.cells (nats p.mr) 3 false 0 0)
  l : SlI s N p.list vl
  e : SlI s N p.en ve
  h1 : N ≤ b1 ∧ b1 < s.next ∧ N ≤ b3 ∧ b3 < s.next ∧ b1 ≠ b3
  dl : ∀ j, isB vl j → j ≠ b1 ∧ j ≠ b3 ∧ ¬ isB ve j
  de : ∀ j, isB ve j → j ≠ b1 ∧ j ≠ b3
  lo : pb < N ∧ bp < N ∧ bs < N ∧ pb ≠ bp ∧ pb ≠ bs ∧ bp ≠ bs ∧ N ≤ s.next
  lp : p.place.length = n
  ls : p.set.length = n
theorem l214c {β : Type} {fin : Fl → β} {ks : List K} {Post : β → Prop} {pb n bp bs N b1 b3 K gb : Nat} {p : Pt} {vl ve : AV} {G : List Nat} {e : Env} {s : St} (hn : n ≤ 2 ^ 19) (hG : ∀ u ∈ G, u < n) (hb : p.list.length + G.length ≤ 2 ^ 20) (hK : K ≤ 2 ^ 20)
    (g3 : Env.get e 3 = .ptr pb 0) (g12 : Env.get e 12 = .int .i64 (K : Int)) (g96 : Env.get e 96 = .sl gb 0 G.length none 1) (g97 : Env.get e 97 = .int .i64 G.length) (g98 : Env.get e 98 = .int .i64 (0 : Nat))
    (hgb : s.get gb = some (.cells (nats G) 3 false 0 0)) (hlt : gb < N) (hne : gb ≠ pb ∧ gb ≠ bp ∧ gb ≠ bs) (M : MidI s pb n bp bs N p vl ve b1 b3) (fr : Fr s)
    (hk : ∀ e' s' vl', (∀ t : Nat, t < 15 ∨ 15 < t ∧ t < 98 → Env.get e' t = Env.get e t) → MidI s' pb n bp bs N (addSt K G p) vl' ve b1 b3 → (∀ j, j < N → j ≠ pb → j ≠ bp → j ≠ bs → s'.get j = s.get j) → s.next ≤ s'.next → Fr s' → Post (goN U fin ks e' s')) :
    Post (goL U fin (.bk 6 :: ks) r214_l2 e s) := by
  refine loop_ex (σ := Nat) (fun i => G.length - i) (fun i e' s' => i ≤ G.length ∧ (∀ t : Nat, t < 15 ∨ 15 < t ∧ t < 98 → Env.get e' t = Env.get e t) ∧ Env.get e' 98 = .int .i64 (i : Nat) ∧ (∀ j, j < N → j ≠ pb → j ≠ bp → j ≠ bs → s'.get j = s.get j) ∧ s.next ≤ s'.next ∧ Fr s' ∧
      ∃ p' vl', MidI s' pb n bp bs N p' vl' ve b1 b3 ∧ addSt K (G.drop i) p' = addSt K G p ∧ p'.list.length = p.list.length + i) 0 ?_
    ⟨Nat.zero_le _, fun _ _ => rfl, g98, fun _ _ _ _ _ => rfl, Nat.le_refl _, fr, p, vl, M, rfl, rfl⟩
  rintro Lp i e' s' ⟨hi, hold, q98, hs, hnx, fr', p', vl', M', hadd, hlen⟩ IH
  have q3 := (hold 3 (by omega)).trans g3
  have q12 := (hold 12 (by omega)).trans g12
  have q96 := (hold 96 (by omega)).trans g96
  have q97 := (hold 97 (by omega)).trans g97
  by_cases hd : i < G.length
  · have hw := wrap_succ hd (by omega)
    have hgb' := (hs gb hlt hne.1 hne.2.1 hne.2.2).trans hgb
    have o1 := nats_get (l := G) (i := i) hd
    have hu := hG _ (List.getElem_mem hd)
    rw [gt_get hd] at o1
    rw [List.drop_eq_getElem_cons hd, addSt] at hadd
    generalize G[i] = u at *
    obtain ⟨g, gp, gs, gb1, gm, hl, he, ⟨c1, c2, c3, c4, c5⟩, dl, de, ⟨d1, d2, d3, d4, d5, d6, d7⟩, lp, ls⟩ := M'
    have y1 := nats_lay (l := p'.place) (i := u) p'.list.length (by omega)
    have y2 := nats_lay (l := p'.set) (i := u) K (by omega)
    have u1 : u < n := hu
    have z1 : (bp = pb) = False := eq_false d4.symm
    have z2 : (bp = bs) = False := eq_false d6
    have z3 : (bs = pb) = False := eq_false d5.symm
    have z4 : (bs = bp) = False := eq_false d6.symm
    have hb1 : (p'.list.length + 1) * 8 ≤ 1099511627776 := by omega
    have hb2 : p'.list.length + 1 ≤ 1099511627776 := by omega
    have hb5 : (0 + 1) * 8 ≤ 1099511627776 := by omega
    have hb6 : 0 + 1 ≤ 1099511627776 := by omega
    have f1 : ∀ q, (s'.next + q = pb) = False := fun q => by simp; omega
    have f2 : ∀ q, (s'.next + q = bp) = False := fun q => by simp; omega
    have f3 : ∀ q, (s'.next + q = bs) = False := fun q => by simp; omega
    have f6 : ∀ b, N ≤ b → (pb = b) = False := fun b hb => by simp; omega
    have f7 : ∀ b, N ≤ b → (bp = b) = False := fun b hb => by simp; omega
    have f8 : ∀ b, N ≤ b → (bs = b) = False := fun b hb => by simp; omega
    have f9 : ∀ b, N ≤ b → (b = pb) = False := fun b hb => by simp; omega
    have f11 : ∀ b, N ≤ b → (b = bp) = False := fun b hb => by simp; omega
    have f12 : ∀ b, N ≤ b → (b = bs) = False := fun b hb => by simp; omega
    have hnt : ∀ t : Nat, t < 15 ∨ 15 < t ∧ t < 98 → ((15 = t) = False ∧ ∀ k : Nat, 98 ≤ k → (k = t) = False) := fun t ht => ⟨by simp; omega, fun k hk => by simp; omega⟩
    have key : ∀ (E : Env) (S : St), (∀ t : Nat, t < 15 ∨ 15 < t ∧ t < 98 → Env.get E t = Env.get e' t) → Env.get E 98 = .int .i64 ((i + 1 : Nat) : Int) →
        S.get pb = some (.cells [.sl (s'.next + 21) 0 (p'.list.length + 1) none 1, .sl bp 0 n (some n) 1, .sl bs 0 n (some n) 1, .sl b1 0 p'.bg.length none 1, ve, .sl b3 0 p'.mr.length none 1] 285 false 0 0) →
        S.get bp = some (.cells (nats (p'.place.set u p'.list.length)) 3 false 0 0) → S.get bs = some (.cells (nats (p'.set.set u K)) 3 false 0 0) → S.get (s'.next + 21) = some (.cells (nats (p'.list ++ [u])) 3 false 0 0) →
        (∀ j, j < s'.next → j ≠ pb → j ≠ bp → j ≠ bs → ¬ isB vl' j → S.get j = s'.get j) → s'.next + 21 < S.next → Fr S → Post (goL U fin (.bk 6 :: ks) Lp E S) := by
      intro E S k1 k2 k3 k4 k5 k6 k7 k8 k9
      refine IH (i + 1) _ _ (by omega) ⟨by omega, fun t ht => (k1 t ht).trans (hold t ht), k2, fun j h1 h2 h3 h4 => (k7 j (by omega) h2 h3 h4 fun h => by have := hl.lt h; omega).trans (hs j h1 h2 h3 h4), by omega, k9, { list := p'.list ++ [u], place := p'.place.set u p'.list.length, set := p'.set.set u K, bg := p'.bg, en := p'.en, mr := p'.mr }, .sl (s'.next + 21) 0 (p'.list.length + 1) none 1, ⟨k3, k4, k5, (k7 b1 c2 (by omega) (by omega) (by omega) fun h => (dl _ h).1 rfl).trans gb1, (k7 b3 c4 (by omega) (by omega) (by omega) fun h => (dl _ h).2.1 rfl).trans gm, .inr ⟨s'.next + 21, by simp, k6, by omega, k8⟩, he.keep (by omega) fun j h1 h2 h3 => k7 j h1 (by omega) (by omega) (by omega) fun h => (dl _ h).2.2 h3, ⟨c1, by omega, c3, by omega, c5⟩, fun j hj => ?_, de, ⟨d1, d2, d3, d4, d5, d6, by omega⟩, by rw [List.length_set]; exact lp, by rw [List.length_set]; exact ls⟩, hadd, by simp [hlen]; omega⟩
      rw [isB_sl] at hj
      subst hj
      refine ⟨by omega, by omega, fun h => ?_⟩
      have := he.lt h
      omega
    rcases hl with ⟨rfl, hl⟩ | ⟨bl, rfl, hg, e1, e2⟩
    · rw [hl] at key
      rw [hl, List.length_nil] at y1
      have y1 : lay u [.int .i64 0] (nats p'.place) = some (nats (p'.place.set u 0)) := y1
      simp (config := { maxSteps := 2000000 }) +contextual only [go_sem, ↓reduceIte, r214_l2, q3, q12, q96, q97, q98, nat_lt_dec, hd, hw, hgb', o1, g, gp, gs, u1, y1, y2, Nat.mul_one, z1, z2, z3, z4, appK_some, Nat.reducePow, Nat.one_mul, hb5, hb6, appD_nils, Nat.zero_add, Nat.add_assoc, f1, f2, f3]
      refine key _ _ (fun t ht => ?_) ?_ ?_ ?_ ?_ ?_ (fun j h1 h2 h3 h4 h5 => ?_) ?_ ?_
      · obtain ⟨n15, n98⟩ := hnt t ht
        simp +contextual only [go_sem, ↓reduceIte, n15, n98]
      · simp +contextual only [go_sem, ↓reduceIte]
      · simp +contextual only [go_sem, ↓reduceIte]
      · simp +contextual only [go_sem, ↓reduceIte, eq_false d4, f1, f2, f3, Nat.add_assoc, z4]
      · simp +contextual only [go_sem, ↓reduceIte, eq_false d5, f1, f2, f3, Nat.add_assoc]
      · simp +contextual only [go_sem, ↓reduceIte, (fun q => f9 (s'.next + q) (by omega) : ∀ q, (s'.next + q = pb) = False), Nat.add_assoc, Nat.reduceAdd, (fun q => f6 (s'.next + q) (by omega) : ∀ q, (pb = s'.next + q) = False)]; rfl
      · have e0 : ∀ q, (s'.next + q = j) = False := fun q => by simp; omega
        simp +contextual only [get_put, get_new, next_put, next_new, upto_next, upto_get, Nat.add_assoc, Nat.reduceAdd, e0, eq_false h2.symm, eq_false h3.symm, eq_false h4.symm, if_false]
      · simp only [next_put, next_new, upto_next]; omega
      · repeat first | exact fr' | apply Fr.new | apply Fr.put | apply Fr.upto
        all_goals try simp only [next_put, next_new, upto_next]
        all_goals omega
    · have a1 := fun (S : St) (h : S.get bl = some (.cells (nats p'.list) 3 false 0 0)) => appX' rfl h u
      have f10 : ∀ q, (s'.next + q = bl) = False := fun q => by simp; omega
      simp (config := { maxSteps := 2000000 }) +contextual only [go_sem, ↓reduceIte, r214_l2, q3, q12, q96, q97, q98, nat_lt_dec, hd, hw, hgb', o1, g, gp, gs, u1, y1, y2, Nat.mul_one, z1, z2, z3, z4, appK_some, Nat.reducePow, Nat.one_mul, hb1, hb2, Nat.add_assoc, f1, f2, f3, f6, f7, f8, f9, f10, e1, hg, a1]
      refine key _ _ (fun t ht => ?_) ?_ ?_ ?_ ?_ ?_ (fun j h1 h2 h3 h4 h5 => ?_) ?_ ?_
      · obtain ⟨n15, n98⟩ := hnt t ht
        simp +contextual only [go_sem, ↓reduceIte, n15, n98]
      · simp +contextual only [go_sem, ↓reduceIte]
      · simp +contextual only [go_sem, ↓reduceIte]
      · simp +contextual only [go_sem, ↓reduceIte, eq_false d4, f1, f2, f3, f6, f7, f8, f9, f11, f12, e1, z2, z4, Nat.add_assoc]
      · simp +contextual only [go_sem, ↓reduceIte, eq_false d5, f1, f2, f3, f6, f7, f8, f9, f11, f12, e1, z2, z4, Nat.add_assoc]
      · simp +contextual only [go_sem, ↓reduceIte, (fun q => f9 (s'.next + q) (by omega) : ∀ q, (s'.next + q = pb) = False), Nat.add_assoc, Nat.reduceAdd, (fun q => f6 (s'.next + q) (by omega) : ∀ q, (pb = s'.next + q) = False)]
      · have e0 : ∀ q, (s'.next + q = j) = False := fun q => by simp; omega
        rw [isB_sl] at h5
        simp +contextual only [get_put, get_new, next_put, next_new, upto_next, upto_get, Nat.add_assoc, Nat.reduceAdd, e0, eq_false h2.symm, eq_false h3.symm, eq_false h4.symm, eq_false h5, if_false]
      · simp only [next_put, next_new, upto_next]; omega
      · repeat first | exact fr' | apply Fr.new | apply Fr.put | apply Fr.upto
        all_goals try simp only [next_put, next_new, upto_next]
        all_goals omega
  · have : i = G.length := by omega
    subst this
    rw [List.drop_length, addSt] at hadd
    subst hadd
    simp (config := { maxSteps := 2000000 }) +contextual only [go_sem, ↓reduceIte, r214_l2, q97, q98, nat_lt_dec, Nat.lt_irrefl]
    refine hk _ _ vl' (fun t ht => ?_) M' hs hnx fr'
    have hne : ∀ k : Nat, 98 ≤ k → (k = t) = False := fun k hk => by simp; omega
    simp +contextual only [go_sem, ↓reduceIte, hne]
    exact hold t ht
end Go.Am

set_option linter.all false
namespace Go.Am
open Go
variable [MaxLen]
set_option maxRecDepth 100000
set_option maxHeartbeats 8000000

/-! # Stage three of the rows -/
/-- the partition so far: nothing yet, or all its rows stand -/
def Parts (s : St) (pb n bp bs N : Nat) (p : Pt) : Prop :=
  (p = ⟨[], p.place, p.set, [], [], []⟩ ∧ s.get pb = some (.cells [.nils, .sl bp 0 n (some n) 1, .sl bs 0 n (some n) 1, .nils, .nils, .nils] 285 false 0 0) ∧ s.get bp = some (.cells (nats p.place) 3 false 0 0) ∧ s.get bs = some (.cells (nats p.set) 3 false 0 0)) ∨
  ∃ bl bb be bm, PtI s pb n bl bp bs bb be bm p ∧ N ≤ bl ∧ N ≤ bb ∧ N ≤ be ∧ N ≤ bm
theorem l214r {β : Type} {fin : Fl → β} {ks : List K} {Post : β → Prop} {pb n bp bs N : Nat} {p : Pt} {e : Env} {s : St} (hn : n ≤ 2 ^ 19) (hpl : p.place.length = n) (hps : p.set.length = n) (hbg : p.bg.length ≤ 2 ^ 20) (hmr : p.mr.length ≤ 2 ^ 20) (g3 : Env.get e 3 = .ptr pb 0)
    (lo : pb < N ∧ bp < N ∧ bs < N ∧ pb ≠ bp ∧ pb ≠ bs ∧ bp ≠ bs ∧ N ≤ s.next) (h : Parts s pb n bp bs N p) (fr : Fr s)
    (hk : ∀ e' s' vl ve b1 b3, (∀ t : Nat, t < 71 → Env.get e' t = Env.get e t) → MidI s' pb n bp bs N { p with bg := p.bg ++ [p.list.length], mr := p.mr ++ [0] } vl ve b1 b3 → (∀ j, j < N → j ≠ pb → s'.get j = s.get j) → s.next ≤ s'.next → Fr s' → Post (goN U fin ks e' s')) :
    Post (go U fin ks (.raw q214_1) e s) := by
  obtain ⟨d1, d2, d3, d4, d5, d6, d7⟩ := lo
  rw [go_drcU d214_1]
  have hfk := fr.at
  have hnt : ∀ t : Nat, t < 71 → (∀ k : Nat, 71 ≤ k → (k = t) = False) := fun t ht => fun k hk => by simp; omega
  have f1 : ∀ q, (s.next + q = pb) = False := fun q => by simp; omega
  have f2 : ∀ q, (s.next + q = bp) = False := fun q => by simp; omega
  have f3 : ∀ q, (s.next + q = bs) = False := fun q => by simp; omega
  have f6 : ∀ b, N ≤ b → (pb = b) = False := fun b hb => by simp; omega
  have f9 : ∀ b, N ≤ b → (b = pb) = False := fun b hb => by simp; omega
  have hN1 : ∀ j q, j < s.next → (j = s.next + q) = False := fun j q hj => by simp; omega
  have hN2 : ∀ j q, j < s.next → (s.next + q = j) = False := fun j q hj => by simp; omega
  have lpb : pb < s.next := by omega
  have hN3 : ∀ q, q ≠ 0 → (s.next + q = s.next) = False := fun q hq => by simp; omega
  have hN4 : ∀ q, q ≠ 0 → (s.next = s.next + q) = False := fun q hq => by simp; omega
  have key : ∀ (E : Env) (S : St) (vl ve : AV) (b1 b3 : Nat), (∀ t : Nat, t < 71 → Env.get E t = Env.get e t) →
      S.get pb = some (.cells [vl, .sl bp 0 n (some n) 1, .sl bs 0 n (some n) 1, .sl b1 0 (p.bg.length + 1) none 1, ve, .sl b3 0 (p.mr.length + 1) none 1] 285 false 0 0) →
      S.get b1 = some (.cells (nats (p.bg ++ [p.list.length])) 3 false 0 0) → S.get b3 = some (.cells (nats (p.mr ++ [0])) 3 false 0 0) → s.next ≤ b1 → b1 < b3 → b3 < S.next → SlI s N p.list vl → SlI s N p.en ve → (∀ j, isB vl j → ¬ isB ve j) →
      s.get bp = some (.cells (nats p.place) 3 false 0 0) → s.get bs = some (.cells (nats p.set) 3 false 0 0) →
      (∀ j, j < s.next → j ≠ pb → isB vl j ∨ isB ve j ∨ j < N → S.get j = s.get j) → Fr S → Post (goN U fin ks E S) := by
    intro E S vl ve b1 b3 k1 k2 k3 k4 k5 k6 k7 k8 k9 k10 k11 k12 k13 k14
    refine hk E S vl ve b1 b3 k1 ⟨?_, ?_, ?_, k3, k4, ?_, ?_, ⟨by omega, by omega, by omega, k7, by omega⟩, fun j hj => ⟨?_, ?_, k10 j hj⟩, fun j hj => ⟨?_, ?_⟩, ⟨d1, d2, d3, d4, d5, d6, by omega⟩, hpl, hps⟩ (fun j h1 h2 => k13 j (by omega) h2 (.inr (.inr h1))) (by omega) k14
    · rw [k2]; simp only [List.length_append, List.length_singleton]
    · exact (k13 bp (by omega) d4.symm (.inr (.inr d2))).trans k11
    · exact (k13 bs (by omega) d5.symm (.inr (.inr d3))).trans k12
    · exact k8.keep (by omega) fun j h1 h2 h3 => k13 j h1 (by omega) (.inl h3)
    · exact k9.keep (by omega) fun j h1 h2 h3 => k13 j h1 (by omega) (.inr (.inl h3))
    · have := k8.lt hj; omega
    · have := k8.lt hj; omega
    · have := k9.lt hj; omega
    · have := k9.lt hj; omega
  rcases h with ⟨hp, g, gp, gs⟩ | ⟨bl, bb, be, bm, P, n1, n2, n3, n4⟩
  · obtain ⟨L, pl, st, bg, en, mr⟩ := p
    simp only [Pt.mk.injEq] at hp
    obtain ⟨rfl, -, -, rfl, rfl, rfl⟩ := hp
    simp (config := { maxSteps := 2000000 }) +contextual only [go_sem, ↓reduceIte, g3, g, appD_nils, appK_some, Nat.mul_one, Nat.one_mul, Nat.reducePow, Nat.zero_add, Nat.add_assoc, hfk, f1, List.length_nil, List.nil_append, hN1, hN2, hN3, hN4, Option.isNone_none]
    refine key _ _ .nils .nils (s.next + 25) (s.next + 26) (fun t ht => ?_) ?_ ?_ ?_ (by omega) (by omega) ?_ (.inl ⟨rfl, rfl⟩) (.inl ⟨rfl, rfl⟩) (fun j h => absurd h (isB_nils j)) gp gs (fun j h1 h2 _ => ?_) ?_
    · have hne := hnt t ht
      simp +contextual only [go_sem, ↓reduceIte, hne]
    · simp +contextual only [go_sem, ↓reduceIte, f1, g, Nat.add_assoc]
    · simp +contextual [go_sem, ↓reduceIte, lpb, f9, f6, d7, hN1, hN2, hN3, hN4, Nat.add_assoc]; rfl
    · simp +contextual [go_sem, ↓reduceIte, lpb, f9, f6, d7, hN1, hN2, hN3, hN4, Nat.add_assoc]; rfl
    · simp only [next_put, next_new, upto_next]; omega
    · have e0 : ∀ q, (s.next + q = j) = False := fun q => by simp; omega
      simp +contextual only [get_put, get_new, next_put, next_new, upto_next, upto_get, Nat.add_assoc, Nat.reduceAdd, e0, eq_false h2.symm, if_false]
    · repeat first | exact fr | apply Fr.new | apply Fr.put | apply Fr.upto
      all_goals try simp only [next_put, next_new, upto_next]
      all_goals omega
  · obtain ⟨g, gl, gp, gs, gb, ge, gm, ne, lt⟩ := P
    have A := Ap.of ne
    have lt2 := lt bl (by simp); have lt5 := lt bb (by simp); have lt6 := lt be (by simp); have lt7 := lt bm (by simp)
    have a1 := fun (S : St) (h : S.get bb = some (.cells (nats p.bg) 3 false 0 0)) => appX rfl h p.list.length
    have a3 := fun (S : St) (h : S.get bm = some (.cells (nats p.mr) 3 false 0 0)) => appX0 rfl h
    have hb1 : (p.bg.length + 1) * 8 ≤ 1099511627776 := by omega
    have hb2 : p.bg.length + 1 ≤ 1099511627776 := by omega
    have hb5 : (p.mr.length + 1) * 8 ≤ 1099511627776 := by omega
    have hb6 : p.mr.length + 1 ≤ 1099511627776 := by omega
    have z1 : (bb = pb) = False := eq_false A.n4.symm
    have z2 : (bm = pb) = False := eq_false A.n6.symm
    have z3 : (bb = bm) = False := eq_false A.n20
    have z4 : (pb = bb) = False := eq_false A.n4
    have z5 : (pb = bm) = False := eq_false A.n6
    have z6 : (bm = bb) = False := eq_false A.n20.symm
    simp (config := { maxSteps := 2000000 }) +contextual only [go_sem, ↓reduceIte, g3, g, gb, gm, appK_some, Nat.mul_one, Nat.one_mul, Nat.reducePow, Nat.zero_add, Nat.add_assoc, hfk, f1, a1, a3, hb1, hb2, hb5, hb6, z1, z2, z3, z4, z5, z6, hN1, hN2, hN3, hN4, lt5, lt7, Option.isNone_none]
    refine key _ _ (.sl bl 0 p.list.length none 1) (.sl be 0 p.en.length none 1) (s.next + 25) (s.next + 26) (fun t ht => ?_) ?_ ?_ ?_ (by omega) (by omega) ?_ (.inr ⟨bl, rfl, gl, n1, lt2⟩) (.inr ⟨be, rfl, ge, n3, lt6⟩) (fun j h => ?_) gp gs (fun j h1 h2 h3 => ?_) ?_
    · have hne := hnt t ht
      simp +contextual only [go_sem, ↓reduceIte, hne]
    · rw [hpl, hps]; simp +contextual only [go_sem, ↓reduceIte]
    · simp +contextual [go_sem, ↓reduceIte, lpb, f9, f6, d7, hN1, hN2, hN3, hN4, lt5, lt7, Nat.add_assoc]
    · simp +contextual [go_sem, ↓reduceIte, lpb, f9, f6, d7, hN1, hN2, hN3, hN4, lt5, lt7, Nat.add_assoc]
    · simp only [next_put, next_new, upto_next]; omega
    · rw [isB_sl] at h ⊢
      subst h
      exact A.n10.symm
    · have e0 : ∀ q, (s.next + q = j) = False := fun q => by simp; omega
      have e1 : (bb = j) = False := by
        simp only [eq_iff_iff, iff_false]
        rintro rfl
        rw [isB_sl, isB_sl] at h3
        have := A.n9; have := A.n19
        omega
      have e2 : (bm = j) = False := by
        simp only [eq_iff_iff, iff_false]
        rintro rfl
        rw [isB_sl, isB_sl] at h3
        have := A.n11; have := A.n21
        omega
      simp +contextual only [get_put, get_new, next_put, next_new, upto_next, upto_get, Nat.add_assoc, Nat.reduceAdd, e0, e1, e2, eq_false h2.symm, if_false]
    · repeat first | exact fr | apply Fr.new | apply Fr.put | apply Fr.upto
      all_goals try simp only [next_put, next_new, upto_next]
      all_goals omega
end Go.Am

set_option linter.all false
namespace Go.Am
open Go
variable [MaxLen]
set_option maxRecDepth 100000
set_option maxHeartbeats 8000000

/-! # The rows: all together -/
theorem addSt_with (c : Nat) (x y z : List Nat) : ∀ (l : List Nat) (p : Pt), addSt c l { p with bg := x, mr := y, en := z } = { addSt c l p with bg := x, mr := y, en := z }
  | [], _ => rfl
  | u :: l, p => by
    rw [addSt, addSt]
    exact addSt_with c x y z l { p with place := p.place.set u p.list.length, set := p.set.set u c, list := p.list ++ [u] }
def dE : RC := (.drw 15 [⟨some 131, none, none, false, .mov (.t 3)⟩,
  ⟨some 132, none, none, false, .mov (.t 3)⟩,
  ⟨some 133, none, none, false, .raw (.nilCheck (.tmp 132))⟩,
  ⟨some 134, none, none, false, .fa 4 (.t 133)⟩,
  ⟨some 135, none, none, false, .ld1 (.t 134)⟩,
  ⟨some 136, none, none, false, .mov (.t 3)⟩,
  ⟨some 137, none, none, false, .raw (.nilCheck (.tmp 136))⟩,
  ⟨some 138, none, none, false, .fa 0 (.t 137)⟩,
  ⟨some 139, none, none, false, .ld1 (.t 138)⟩,
  ⟨some 140, none, none, false, .lenL (.t 139)⟩,
  ⟨some 141, none, some 10, false, .bsl 3 1 1 [(.int .i64 0)] [(0, 1, (.t 140))]⟩,
  ⟨some 142, none, none, true, .app 3 1 8 (.t 135) (.t 141)⟩,
  ⟨some 143, none, none, false, .raw (.nilCheck (.tmp 131))⟩,
  ⟨some 144, none, none, false, .fa 4 (.t 143)⟩,
  ⟨none, none, none, true, .st 1 (.t 144) (.t 142)⟩])
theorem l214e {β : Type} {fin : Fl → β} {ks : List K} {Post : β → Prop} {pb n bp bs N b1 b3 : Nat} {p : Pt} {vl ve : AV} {e : Env} {s : St} (hn : n ≤ 2 ^ 19) (hl0 : p.list ≠ []) (hen : p.en.length ≤ 2 ^ 20) (g3 : Env.get e 3 = .ptr pb 0) (M : MidI s pb n bp bs N p vl ve b1 b3) (fr : Fr s)
    (hk : ∀ e' s', (∀ t : Nat, t < 131 → Env.get e' t = Env.get e t) → Parts s' pb n bp bs N { p with en := p.en ++ [p.list.length] } → (∀ j, j < N → j ≠ pb → s'.get j = s.get j) → s.next ≤ s'.next → Fr s' → Post (goN U fin ks e' s')) :
    Post (go U fin ks dE e s) := by
  obtain ⟨g, gp, gs, gb1, gm, hl, he, ⟨c1, c2, c3, c4, c5⟩, dl, de, ⟨d1, d2, d3, d4, d5, d6, d7⟩, lp, ls⟩ := M
  have hnt : ∀ t : Nat, t < 131 → (∀ k : Nat, 131 ≤ k → (k = t) = False) := fun t ht => fun k hk => by simp; omega
  have lpb : pb < s.next := by omega
  have hfk := fr.at
  have hN1 : ∀ j q, j < s.next → (j = s.next + q) = False := fun j q hj => by simp; omega
  have hN2 : ∀ j q, j < s.next → (s.next + q = j) = False := fun j q hj => by simp; omega
  have f1 : ∀ q, (s.next + q = pb) = False := fun q => by simp; omega
  obtain ⟨bl, rfl, hg, e1, e2⟩ : ∃ b, vl = .sl b 0 p.list.length none 1 ∧ s.get b = some (.cells (nats p.list) 3 false 0 0) ∧ N ≤ b ∧ b < s.next := by
    rcases hl with ⟨_, h⟩ | h
    · exact absurd h hl0
    · exact h
  obtain ⟨x1, x2, x3⟩ := dl bl ((isB_sl _ _ _).2 rfl)
  have key : ∀ (E : Env) (S : St) (be : Nat), (∀ t : Nat, t < 131 → Env.get E t = Env.get e t) →
      S.get pb = some (.cells [.sl bl 0 p.list.length none 1, .sl bp 0 n (some n) 1, .sl bs 0 n (some n) 1, .sl b1 0 p.bg.length none 1, .sl be 0 (p.en.length + 1) none 1, .sl b3 0 p.mr.length none 1] 285 false 0 0) →
      S.get be = some (.cells (nats (p.en ++ [p.list.length])) 3 false 0 0) → s.next ≤ be → be < S.next →
      (∀ j, j < s.next → j ≠ pb → ¬ isB ve j → S.get j = s.get j) → Fr S → Post (goN U fin ks E S) := by
    intro E S be k1 k2 k3 k4 k5 k6 k7
    have hve : ∀ j, j < N → ¬ isB ve j := fun j hj h => by have := he.lt h; omega
    refine hk E S k1 (.inr ⟨bl, b1, be, b3, ⟨?_, ?_, ?_, ?_, ?_, k3, ?_, ?_, ?_⟩, e1, c1, by omega, c3⟩) (fun j h1 h2 => k6 j (by omega) h2 (hve j h1)) (by omega) k7
    · simp only [k2, lp, ls, List.length_append, List.length_singleton]
    · exact (k6 bl e2 (by omega) x3).trans hg
    · exact (k6 bp (by omega) (by omega) (hve bp d2)).trans gp
    · exact (k6 bs (by omega) (by omega) (hve bs d3)).trans gs
    · exact (k6 b1 c2 (by omega) fun h => (de _ h).1 rfl).trans gb1
    · exact (k6 b3 c4 (by omega) fun h => (de _ h).2 rfl).trans gm
    · simp only [List.nodup_cons, List.mem_cons, List.not_mem_nil, not_or, or_false, List.nodup_nil, and_true, not_false_eq_true]
      refine ⟨⟨?_, d4, d5, ?_, ?_, ?_⟩, ⟨?_, ?_, x1, ?_, x2⟩, ⟨d6, ?_, ?_, ?_⟩, ⟨?_, ?_, ?_⟩, ⟨?_, ?_⟩, ?_⟩ <;> omega
    · intro j hj
      simp only [List.mem_cons, List.not_mem_nil, or_false] at hj
      rcases hj with rfl | rfl | rfl | rfl | rfl | rfl | rfl <;> omega
  rcases he with ⟨rfl, hh⟩ | ⟨be, rfl, hge, e3, e4⟩
  · have hb1 : (0 + 1) * 8 ≤ 1099511627776 := by omega
    simp (config := { maxSteps := 2000000 }) +contextual only [go_sem, ↓reduceIte, dE, g3, g, appK_some, appD_nils, Nat.mul_one, Nat.one_mul, Nat.reducePow, Nat.zero_add, Nat.add_assoc, hfk, f1, hN1, hN2, lpb, Option.isNone_none]
    refine key _ _ (s.next + 15) (fun t ht => ?_) ?_ ?_ (by omega) ?_ (fun j h1 h2 h3 => ?_) ?_
    · have hne := hnt t ht
      simp +contextual only [go_sem, ↓reduceIte, hne]
    · simp +contextual only [go_sem, ↓reduceIte, hh]
    · rw [hh]; simp +contextual [go_sem, ↓reduceIte, hN1, hN2, lpb, Nat.add_assoc]; rfl
    · simp only [next_put, next_new, upto_next]; omega
    · have e0 : ∀ q, (s.next + q = j) = False := fun q => by simp; omega
      simp +contextual only [get_put, get_new, next_put, next_new, upto_next, upto_get, Nat.add_assoc, Nat.reduceAdd, e0, eq_false h2.symm, if_false]
    · repeat first | exact fr | apply Fr.new | apply Fr.put | apply Fr.upto
      all_goals try simp only [next_put, next_new, upto_next]
      all_goals omega
  · have hb1 : (p.en.length + 1) * 8 ≤ 1099511627776 := by omega
    have hb2 : p.en.length + 1 ≤ 1099511627776 := by omega
    have a1 := fun (S : St) (h : S.get be = some (.cells (nats p.en) 3 false 0 0)) => appX rfl h p.list.length
    have z1 : (be = pb) = False := by simp; omega
    have z2 : (pb = be) = False := by simp; omega
    simp (config := { maxSteps := 2000000 }) +contextual only [go_sem, ↓reduceIte, dE, g3, g, appK_some, a1, hge, Nat.mul_one, Nat.one_mul, Nat.reducePow, Nat.zero_add, Nat.add_assoc, hfk, f1, hN1, hN2, lpb, e4, hb1, hb2, z1, z2, Option.isNone_none]
    refine key _ _ (s.next + 15) (fun t ht => ?_) ?_ ?_ (by omega) ?_ (fun j h1 h2 h3 => ?_) ?_
    · have hne := hnt t ht
      simp +contextual only [go_sem, ↓reduceIte, hne]
    · simp +contextual only [go_sem, ↓reduceIte]
    · simp +contextual [go_sem, ↓reduceIte, hN1, hN2, lpb, e4, Nat.add_assoc]
    · simp only [next_put, next_new, upto_next]; omega
    · have e0 : ∀ q, (s.next + q = j) = False := fun q => by simp; omega
      rw [isB_sl] at h3
      simp +contextual only [get_put, get_new, next_put, next_new, upto_next, upto_get, Nat.add_assoc, Nat.reduceAdd, e0, eq_false h2.symm, eq_false h3, if_false]
    · repeat first | exact fr | apply Fr.new | apply Fr.put | apply Fr.upto
      all_goals try simp only [next_put, next_new, upto_next]
      all_goals omega
end Go.Am

set_option linter.all false
namespace Go.Am
open Go
variable [MaxLen]
set_option maxRecDepth 100000
set_option maxHeartbeats 8000000

theorem addSt_list (c : Nat) : ∀ (l : List Nat) (p : Pt), (addSt c l p).list = p.list ++ l
  | [], p => by simp [addSt]
  | u :: l, p => by rw [addSt, addSt_list c l]; simp
theorem addSt_rest (c : Nat) : ∀ (l : List Nat) (p : Pt), (addSt c l p).bg = p.bg ∧ (addSt c l p).en = p.en ∧ (addSt c l p).mr = p.mr ∧ (addSt c l p).place.length = p.place.length ∧ (addSt c l p).set.length = p.set.length
  | [], p => by simp [addSt]
  | u :: l, p => by
    have ih := addSt_rest c l { p with place := p.place.set u p.list.length, set := p.set.set u c, list := p.list ++ [u] }
    rw [addSt]
    simpa using ih
theorem l214d {β : Type} {fin : Fl → β} {ks : List K} {Post : β → Prop} {κ : Nat → Str} {pb n bp bs m N : Nat} {bl : List Nat} {vo : AV} {e : Env} {s : St} {p : Pt} (hn : n ≤ 2 ^ 8) (g3 : Env.get e 3 = .ptr pb 0) (g4 : Env.get e 4 = .map m) (g64 : Env.get e 64 = vo) (g65 : Env.get e 65 = .int .i64 (ordK κ n).length) (g66 : Env.get e 66 = .int .i64 (0 : Nat))
    (G : Grp s m κ n bl vo) (lo : pb < m ∧ bp < m ∧ bs < m ∧ pb ≠ bp ∧ pb ≠ bs ∧ bp ≠ bs ∧ m < s.next)
    (hp : p = ⟨[], List.replicate n 0, List.replicate n 0, [], [], []⟩) (h : Parts s pb n bp bs s.next p) (fr : Fr s)
    (hk : ∀ e' s', (∀ t : Nat, t < 12 → Env.get e' t = Env.get e t) → Parts s' pb n bp bs s.next (rowsP κ n) → (∀ j, j < m → j ≠ pb → j ≠ bp → j ≠ bs → s'.get j = s.get j) → s.next ≤ s'.next → Fr s' → Post (goN U fin ks e' s')) :
    Post (goL U fin (.bk 4 :: ks) r214_l3 e s) := by
  have hol := ordK_len κ n
  obtain ⟨d1, d2, d3, d4, d5, d6, d7⟩ := lo
  refine loop_ex (σ := Nat) (fun i => (ordK κ n).length - i) (fun i e' s' => i ≤ (ordK κ n).length ∧ (∀ t : Nat, t < 12 ∨ 15 < t ∧ t < 66 → Env.get e' t = Env.get e t) ∧ Env.get e' 66 = .int .i64 (i : Nat) ∧ (∀ j, j < s.next → j ≠ pb → j ≠ bp → j ≠ bs → s'.get j = s.get j) ∧ s.next ≤ s'.next ∧ Fr s' ∧
      ∃ p', Parts s' pb n bp bs s.next p' ∧ fillP κ n ((ordK κ n).drop i) p' = rowsP κ n ∧ p'.place.length = n ∧ p'.set.length = n ∧ p'.bg.length = i ∧ p'.mr.length = i ∧ p'.en.length = i ∧ p'.list.length ≤ i * n) 0 ?_
    ⟨Nat.zero_le _, fun _ _ => rfl, g66, fun _ _ _ _ _ => rfl, Nat.le_refl _, fr, p, h, by rw [hp]; rfl, by rw [hp]; simp, by rw [hp]; simp, by rw [hp]; rfl, by rw [hp]; rfl, by rw [hp]; rfl, by rw [hp]; simp⟩
  rintro Lp i e' s' ⟨hi, hold, q66, hs, hnx, fr', p', P, hfill, w1, w2, w3, w4, w5, w6⟩ IH
  have q3 := (hold 3 (by omega)).trans g3
  have q4 := (hold 4 (by omega)).trans g4
  have q64 := (hold 64 (by omega)).trans g64
  have q65 := (hold 65 (by omega)).trans g65
  by_cases hd : i < (ordK κ n).length
  · obtain ⟨Gm, Glen, Gnd, Gblk, Grow⟩ := G
    have hw := wrap_succ hd (by omega)
    obtain ⟨bo, rfl, ho, e1, e2⟩ : ∃ b, vo = .sl b 0 (ordK κ n).length none 1 ∧ s.get b = some (.cells (strs (ordK κ n)) 9 false 0 0) ∧ m + 1 ≤ b ∧ b < s.next := by
      rcases Grow with ⟨h, _, _⟩ | ⟨_, _, b, h1, h2, h3, h4⟩
      · omega
      · exact ⟨b, h3, h4, h1, h2⟩
    have ho' := (hs bo e2 (by omega) (by omega) (by omega)).trans ho
    have o1 : (strs (ordK κ n))[i]? = some (.str (ordK κ n)[i]) := by unfold strs; rw [List.getElem?_map, List.getElem?_eq_getElem hd]; rfl
    have hib : i < bl.length := by omega
    obtain ⟨b1, b2, b3⟩ := Gblk i hib hd
    have hex : ∃ u, u < n ∧ κ u = (ordK κ n)[i] := (ordK_mem κ _ n).1 (List.getElem_mem hd)
    have hgl := grp_len κ (ordK κ n)[i] n
    have hpos : (grp κ (ordK κ n)[i] n) ≠ [] := by
      obtain ⟨u, h1, h2⟩ := hex
      exact List.ne_nil_of_mem ((grp_mem κ _ n u).2 ⟨h1, h2⟩)
    have hge := getE_at (len := fun k => (grp κ k n).length) (bs := bl) (ordK_nd κ n) Glen hd
    have lk := fun (S : St) (h : S.get m = some (.map (ent (esOf (fun k => (grp κ k n).length) (ordK κ n) bl)) false)) => lookup310 h (ordK κ n)[i]
    rw [hge] at lk
    simp only [Option.getD_some] at lk
    rw [List.drop_eq_getElem_cons hd, fillP] at hfill
    have hmul : i * n ≤ 2 ^ 8 * 2 ^ 8 := Nat.mul_le_mul (by omega) hn
    simp (config := { maxSteps := 2000000 }) +contextual only [go_sem, ↓reduceIte, r214_l3, q64, q65, q66, nat_lt_dec, hd, ho', o1, Nat.mul_one]
    refine l214r (p := p') (s := s') (by omega) w1 w2 (by omega) (by omega) ?_ ⟨by omega, by omega, by omega, d4, d5, d6, hnx⟩ P fr' ?_
    · simp +contextual only [go_sem, ↓reduceIte, q3]
    intro e2' s2 vl ve c1 c3 h2a M hs2 hnx2 fr2
    have p3 : Env.get e2' 3 = .ptr pb 0 := by rw [h2a 3 (by omega)]; simp +contextual only [go_sem, ↓reduceIte, q3]
    have p4 : Env.get e2' 4 = .map m := by rw [h2a 4 (by omega)]; simp +contextual only [go_sem, ↓reduceIte, q4]
    have p12 : Env.get e2' 12 = .int .i64 (i : Nat) := by rw [h2a 12 (by omega)]; simp +contextual only [go_sem, ↓reduceIte]
    have p13 : Env.get e2' 13 = .str (ordK κ n)[i] := by rw [h2a 13 (by omega)]; simp +contextual only [go_sem, ↓reduceIte]
    have um : s2.get m = some (.map (ent (esOf (fun k => (grp κ k n).length) (ordK κ n) bl)) false) := (hs2 m d7 (by omega)).trans ((hs m d7 (by omega) (by omega) (by omega)).trans Gm)
    simp (config := { maxSteps := 2000000 }) +contextual only [go_sem, ↓reduceIte, p4, p13, um, lk]
    refine l214c (K := i) (gb := bl[i]) (G := grp κ (ordK κ n)[i] n) (by omega) (fun u hu => ((grp_mem _ _ _ _).1 hu).1) (by simp only; omega) (by omega) ?_ ?_ ?_ ?_ ?_ ((hs2 _ b2 (by omega)).trans ((hs _ b2 (by omega) (by omega) (by omega)).trans b3)) b2 ⟨by omega, by omega, by omega⟩ M fr2 ?_
    case refine_6 =>
      intro e3 s3 vl' h3a M3 hs3 hnx3 fr3
      have r3 : Env.get e3 3 = .ptr pb 0 := by rw [h3a 3 (by omega)]; simp +contextual only [go_sem, ↓reduceIte, p3]
      rw [addSt_with] at M3
      have hal := addSt_list i (grp κ (ordK κ n)[i] n) p'
      obtain ⟨t1, t2, t3, t4, t5⟩ := addSt_rest i (grp κ (ordK κ n)[i] n) p'
      rw [w3] at hfill
      refine l214e (by omega) ?_ (by simp only [w5]; omega) r3 M3 fr3 ?_
      · simp only [hal]
        intro h
        exact hpos (List.append_eq_nil_iff.1 h).2
      · intro e4 s4 h4a P4 hs4 hnx4 fr4
        have o66 : Env.get e4 66 = .int .i64 (i : Nat) := by
          rw [h4a 66 (by omega), h3a 66 (by omega)]
          simp +contextual only [go_sem, ↓reduceIte]
          rw [h2a 66 (by omega)]
          simp +contextual only [go_sem, ↓reduceIte, q66]
        simp (config := { maxSteps := 2000000 }) +contextual only [go_sem, ↓reduceIte, o66, hw]
        refine IH (i + 1) _ _ (by omega) ⟨by omega, fun t ht => ?_, ?_, fun j h1 h2 h3 h4 => ?_, by omega, fr4, _, P4, ?_, ?_, ?_, ?_, ?_, ?_, ?_⟩
        · have hne : ∀ k : Nat, 66 ≤ k → (k = t) = False := fun k hk => by simp; omega
          simp +contextual only [go_sem, ↓reduceIte, hne]
          rw [h4a t (by omega), h3a t (by omega)]
          simp +contextual only [go_sem, ↓reduceIte, hne]
          rw [h2a t (by omega)]
          have hne2 : (12 = t) = False := by simp; omega
          have hne3 : (13 = t) = False := by simp; omega
          simp +contextual only [go_sem, ↓reduceIte, hne, hne2, hne3]
          exact hold t ht
        · simp +contextual only [go_sem, ↓reduceIte]
        · rw [hs4 j h1 h2, hs3 j h1 h2 h3 h4, hs2 j h1 h2, hs j h1 h2 h3 h4]
        · exact hfill
        · exact t4.trans w1
        · exact t5.trans w2
        · simp [w3]
        · simp [w4]
        · simp [w5]
        · simp only [hal, List.length_append, Nat.succ_mul]; omega
    all_goals simp +contextual only [go_sem, ↓reduceIte, p3, p12]
    all_goals rfl
  · have : i = (ordK κ n).length := by omega
    subst this
    rw [List.drop_length, fillP] at hfill
    subst hfill
    simp (config := { maxSteps := 2000000 }) +contextual only [go_sem, ↓reduceIte, r214_l3, q65, q66, nat_lt_dec, Nat.lt_irrefl]
    refine hk _ _ (fun t ht => ?_) P (fun j h1 h2 h3 h4 => hs j (by omega) h2 h3 h4) hnx fr'
    have hne : ∀ k : Nat, 66 ≤ k → (k = t) = False := fun k hk => by simp; omega
    simp +contextual only [go_sem, ↓reduceIte, hne]
    exact hold t (by omega)
end Go.Am

set_option linter.all false
namespace Go.Am
open Go
variable [MaxLen]
set_option maxRecDepth 100000
set_option maxHeartbeats 8000000

theorem rop_mksN {base i a : Nat} {e : Env} {s : St} {n : Nat} (h : Env.get e a = .int .i64 (n : Int)) (hn : n ≤ 2 ^ 20) :
    rop U base (some i) e s (.raw (.makeSlice 40 (.tmp a) (.tmp a))) = some (.sl (base + i) 0 n (some n) 1, s.put (base + i) (.cells (nats (List.replicate n 0)) 3 false 0 0)) := by
  have h40 : U.und 40 = some (.slice 3) := by kernel_rfl
  have hz : zero U 3 = some (.int .i64 0) := by kernel_rfl
  have hi : (U.inf 3).map (fun i => (i.bytes, i.size)) = some (8, 1) := by kernel_rfl
  have e1 : nats (List.replicate n 0) = List.replicate n (.int .i64 0) := by simp [nats, nIs, ints]
  cases hj : U.inf 3 with
  | none => rw [hj] at hi; cases hi
  | some j =>
    rw [hj] at hi
    simp only [Option.map_some, Option.some.injEq, Prod.mk.injEq] at hi
    obtain ⟨h1, h2⟩ := hi
    rw [e1, ← repeatL_one]
    simp only [rop, rawR, opA, eval, h, h40, hj, hz]
    rw [if_pos ⟨by omega, by omega, by rw [h1]; omega, by omega, by rw [h2]; rfl, by omega⟩, h2]
    rfl
def P214 (s0 : St) (n : Nat) (p : Pt) (r : Option (AV × St)) : Prop :=
  ∃ s' pb bl bp bs bb be bm, r = some (.ptr pb 0, s') ∧ PtI s' pb n bl bp bs bb be bm p ∧ s0.next ≤ pb ∧ s0.next ≤ bl ∧ s0.next ≤ bp ∧ s0.next ≤ bs ∧ s0.next ≤ bb ∧ s0.next ≤ be ∧ s0.next ≤ bm ∧ s0.next ≤ s'.next ∧ Fr s' ∧ ∀ j, j < s0.next → s'.get j = s0.get j
theorem c214 {a : Auto} (ha : a.ok) {s : St} (fr : Fr s) : P214 s a.next.length (rowsP (kapA a) a.next.length) (cal U 214 [encA a] s) := by
  suffices hgo : P214 s a.next.length (rowsP (kapA a) a.next.length) (go U (finB U [.tmp 2]) [] r214 (bindArgs 0 [encA a] .nil) s) by
    obtain ⟨s', pb, bl, bp, bs, bb, be, bm, h1, h2⟩ := hgo
    exact ⟨s', pb, bl, bp, bs, bb, be, bm, kept_go k214 (by kernel_rfl) h1, h2⟩
  have hpos := ha.pos
  have hfew := ha.few
  have hn20 : a.next.length ≤ 2 ^ 20 := by omega
  have hfk := fr.at
  have hN1 : ∀ j q, j < s.next → (j = s.next + q) = False := fun j q hj => by simp; omega
  have hN2 : ∀ j q, j < s.next → (s.next + q = j) = False := fun j q hj => by simp; omega
  have hN3 : ∀ q, q ≠ 0 → (s.next + q = s.next) = False := fun q hq => by simp; omega
  have hN4 : ∀ q, q ≠ 0 → (s.next = s.next + q) = False := fun q hq => by simp; omega
  have mk := fun (base i t : Nat) (e : Env) (S : St) (h : Env.get e t = .int .i64 (a.next.length : Int)) => rop_mksN (base := base) (i := i) (s := S) h hn20
  have hl := lenL_encS a.nNl (a.next.map encRow)
  rw [List.length_map] at hl
  have hlf := lenL_encS a.fNl (a.fires.map encFRow)
  rw [List.length_map] at hlf
  have hfl := ha.fl
  rw [encA_eq]
  simp (config := { maxSteps := 2000000 }) +contextual only [go_sem, ↓reduceIte, r214, go_drcU d214_0, Nat.add_assoc, hfk, hN1, hN2, hN3, hN4, ↓mk, encN, encFs, hl, hlf]
  have frS : ∀ x y z w v, Fr ((((((s.new x).upto (s.next + 12)).put (s.next + 4) y).put (s.next + 8) z).put (s.next + 10) w).new v) := fun x y z w v => by
    repeat first | exact fr | apply Fr.new | apply Fr.put | apply Fr.upto
    all_goals try simp only [next_put, next_new, upto_next]
    all_goals omega
  refine l214b ha (m := s.next + 12) ?_ ?_ ?_ ?_ ?_ ?_ ?_ (frS _ _ _ _ _) ?_
  case refine_8 =>
    intro e1 s1 bl vo h1a h1v G hs1 hnx1 fr1
    have p3 : Env.get e1 3 = .ptr (s.next + 10) 0 := by rw [h1a 3 (by omega)]; simp +contextual only [go_sem, ↓reduceIte]
    have p4 : Env.get e1 4 = .map (s.next + 12) := by rw [h1a 4 (by omega)]; simp +contextual only [go_sem, ↓reduceIte]
    have hlo := G.row.len
    simp only [next_put, next_new, upto_next] at hnx1
    have hs0 : ∀ j, j < s.next → s1.get j = s.get j := fun j hj => by
      rw [hs1 j (by omega)]
      have e0 : ∀ q, (s.next + q = j) = False := fun q => by simp; omega
      have e2 : (s.next = j) = False := by simp; omega
      simp +contextual only [get_put, get_new, next_put, next_new, upto_next, upto_get, Nat.add_assoc, Nat.reduceAdd, e0, e2, if_false]
    have v10 : s1.get (s.next + 10) = some (.cells [.nils, .sl (s.next + 4) 0 a.next.length (some a.next.length) 1, .sl (s.next + 8) 0 a.next.length (some a.next.length) 1, .nils, .nils, .nils] 285 false 0 0) := by
      rw [hs1 _ (by omega)]
      simp +contextual [go_sem, ↓reduceIte]
    have v4 : s1.get (s.next + 4) = some (.cells (nats (List.replicate a.next.length 0)) 3 false 0 0) := by
      rw [hs1 _ (by omega)]
      simp +contextual [go_sem, ↓reduceIte]
    have v8 : s1.get (s.next + 8) = some (.cells (nats (List.replicate a.next.length 0)) 3 false 0 0) := by
      rw [hs1 _ (by omega)]
      simp +contextual [go_sem, ↓reduceIte]
    simp (config := { maxSteps := 2000000 }) +contextual only [go_sem, ↓reduceIte, h1v, hlo]
    refine l214d (Post := P214 s a.next.length (rowsP (kapA a) a.next.length)) (pb := s.next + 10) (bp := s.next + 4) (bs := s.next + 8) (m := s.next + 12) (N := 0) (p := ⟨[], List.replicate a.next.length 0, List.replicate a.next.length 0, [], [], []⟩) (by omega) ?_ ?_ ?_ ?_ ?_ G ⟨by omega, by omega, by omega, by omega, by omega, by omega, by omega⟩ rfl (.inl ⟨rfl, v10, v4, v8⟩) fr1 ?_
    case refine_6 =>
      intro e2 s2 h2a P hs2 hnx2 fr2
      have p3 : Env.get e2 3 = .ptr (s.next + 10) 0 := by rw [h2a 3 (by omega)]; simp +contextual only [go_sem, ↓reduceIte, p3]
      simp (config := { maxSteps := 2000000 }) +contextual only [go_sem, ↓reduceIte, p3]
      rcases P with ⟨hP, _⟩ | ⟨c1, c2, c3, c4, Q, n1, n2, n3, n4⟩
      · have := (rows_fil (kapA a) a.next.length).st 0 hpos ((ordK_mem _ _ _).2 ⟨0, hpos, rfl⟩)
        rw [hP] at this
        have := this.1
        simp at this
      · exact ⟨s2, s.next + 10, c1, s.next + 4, s.next + 8, c2, c3, c4, rfl, Q, by omega, by omega, by omega, by omega, by omega, by omega, by omega, by omega, fr2, fun j hj => by rw [hs2 j (by omega) (by omega) (by omega) (by omega), hs0 j hj]⟩
    all_goals simp +contextual only [go_sem, ↓reduceIte, p3, p4, h1v]
    all_goals rfl
  all_goals try simp only [next_put, next_new, upto_next]
  all_goals try simp +contextual [go_sem, ↓reduceIte]
end Go.Am
