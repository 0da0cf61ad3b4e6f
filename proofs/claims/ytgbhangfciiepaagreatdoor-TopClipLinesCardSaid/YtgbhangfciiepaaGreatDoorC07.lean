/- A part of the proof of a statement of this seat: the machine on which the program is read, and what it computes; for every input. -/
import Ieee.Arith
import GoSem.Core.Float
set_option linter.all false
set_option linter.all false
namespace Go.Am
open Go Ieee
set_option maxRecDepth 100000
/-! # A float32 plus zero -/
theorem cut_zero (s : Bool) (n : Nat) : Toward.even.cut s n 0 = n := by
  unfold Toward.cut
  simp [Nat.mod_one]
theorem cut_exact (s : Bool) (m e : Nat) (hm : 0 < m) : Toward.even.cut s (m * 2 ^ e) e = m := by
  unfold Toward.cut
  have hl : e ≤ (m * 2 ^ e).log2 := by
    rw [Nat.le_log2 (by have := Nat.pos_of_ne_zero (show 2 ^ e ≠ 0 by simp); exact Nat.ne_of_gt (Nat.mul_pos hm this))]
    exact Nat.le_mul_of_pos_left _ hm
  have hg : min e ((m * 2 ^ e).log2 + 2) = e := Nat.min_eq_left (by omega)
  have hp : 0 < 2 ^ e := Nat.pos_of_ne_zero (by simp)
  simp only [hg, Nat.one_shiftLeft, Nat.mul_mod_left, Nat.mul_div_cancel _ hp, Nat.mul_zero]
  have h1 : decide (2 ^ e < 0) = false := by simp
  have h2 : (2 ^ e == 0) = false := by simp
  rw [h1, h2]
  simp
theorem log2_mul (m e : Nat) (h0 : 2 ^ 23 ≤ m) (h1 : m < 2 ^ 24) : (m * 2 ^ e).log2 = 23 + e := by
  have hp : 0 < 2 ^ e := Nat.pos_of_ne_zero (by simp)
  have hne : m * 2 ^ e ≠ 0 := Nat.ne_of_gt (Nat.mul_pos (by omega) hp)
  rw [Nat.log2_eq_iff hne]
  refine ⟨?_, ?_⟩
  · rw [Nat.pow_add]; exact Nat.mul_le_mul_right _ h0
  · rw [show 23 + e + 1 = 24 + e by omega, Nat.pow_add]; exact Nat.mul_lt_mul_of_pos_right h1 hp
theorem log2_lt (n : Nat) (h : n < 2 ^ 23) (h0 : n ≠ 0) : n.log2 < 23 := (Nat.log2_lt h0).2 h
theorem signed_zero (b : Bool) (m : Nat) : signed b m 0 = (if b then -(m : Int) else m) := by
  unfold signed; simp
/-- the value of a finite word, but for the sign of zero -/
def posZ (w : Nat) : Nat := if w % 2 ^ 31 = 0 then 0 else w
theorem add_zero32 {w : Nat} (hw : w < 2 ^ 32) (hf : w % 2 ^ 31 < 255 * 2 ^ 23) : single.add w 0 = some (posZ w) := by
  have c1 : single.signWeight = 2 ^ 31 := rfl
  have c2 : single.binade = 2 ^ 23 := rfl
  have c3 : single.infRung = 255 * 2 ^ 23 := rfl
  have c4 : single.leastPlace = -149 := rfl
  have c5 : single.fractionBits = 23 := rfl
  have hr0 : single.read 0 = .number false 0 (-149) := rfl
  have hword : single.word (w / 2 ^ 31 % 2 == 1) (w % 2 ^ 31) = w := by
    unfold Format.word
    rw [c1]
    rcases Nat.lt_or_ge w (2 ^ 31) with h | h
    · have e1 : w / 2 ^ 31 = 0 := Nat.div_eq_of_lt h
      rw [e1]; simp; omega
    · have e1 : w / 2 ^ 31 = 1 := by omega
      rw [e1]; simp; omega
  unfold Format.add
  rw [hr0]
  generalize hs : (w / 2 ^ 31 % 2 == 1) = s at *
  generalize hq : w % 2 ^ 31 = q at *
  unfold posZ
  rw [hq]
  by_cases hsub : q < 2 ^ 23
  · have hrd : single.read w = .number s q (-149) := by
      unfold Format.read
      simp only [c1, c2, hs, hq]
      rw [if_pos hsub, c4]
    rw [hrd]
    have hsum : (Datum.number s q (-149)).sum (.number false 0 (-149)) = some (.number (if q = 0 then false else s) q (-149)) := by
      have e0 : ((-149 : Int) - min (-149) (-149)).toNat = 0 := by decide
      simp only [Datum.sum, e0, signed_zero]
      cases s
      · simp only [Bool.false_eq_true, if_false, Int.natCast_zero, Int.add_zero]
        by_cases h0 : q = 0
        · subst h0; rfl
        · have : ¬ (q : Int) = 0 := by omega
          have h2 : ¬ (q : Int) < 0 := by omega
          simp [h0, h2]
      · simp only [if_true, Bool.false_eq_true, if_false, Int.natCast_zero, Int.add_zero]
        by_cases h0 : q = 0
        · subst h0; rfl
        · have : ¬ (-(q : Int)) = 0 := by omega
          have h2 : (-(q : Int)) < 0 := by omega
          simp [h0, h2]
          omega
    rw [hsum, Option.map_some]
    show some (single.nearest _ _ _) = _
    congr 1
    unfold Format.nearest
    by_cases h0 : q = 0
    · have e : (if q = 0 then 0 else w) = 0 := if_pos h0
      rw [e, if_pos h0]
      unfold Format.word
      rw [if_pos h0]; rfl
    · have hl := log2_lt q hsub h0
      have hlast : max ((-149 : Int) + (q.log2 : Nat) - (single.fractionBits : Nat)) single.leastPlace = -149 := by
        rw [c5, c4]; omega
      rw [if_neg h0]
      simp only [hlast, if_neg h0]
      have e1 : ((-149 : Int) - -149).toNat = 0 := by decide
      have e2 : ((-149 : Int) - single.leastPlace).toNat = 0 := by rw [c4]; decide
      rw [e1, e2, Nat.shiftLeft_zero, cut_zero, Nat.zero_mul, Nat.zero_add, c3, Nat.min_eq_left (by omega)]
      exact hword
  · have hrd : single.read w = .number s (2 ^ 23 + q % 2 ^ 23) (-149 + ((q / 2 ^ 23 - 1 : Nat) : Int)) := by
      unfold Format.read
      simp only [c1, c2, c3, hs, hq]
      rw [if_neg hsub, if_pos hf, c4]
    rw [hrd]
    obtain ⟨e, he⟩ : ∃ e, e = q / 2 ^ 23 - 1 := ⟨_, rfl⟩
    obtain ⟨m, hm⟩ : ∃ m, m = 2 ^ 23 + q % 2 ^ 23 := ⟨_, rfl⟩
    rw [← he, ← hm]
    have hm0 : 2 ^ 23 ≤ m := by omega
    have hm1 : m < 2 ^ 24 := by omega
    have hqe : e * 2 ^ 23 + m = q := by
      have : 1 ≤ q / 2 ^ 23 := by omega
      have := Nat.div_add_mod q (2 ^ 23)
      rw [he, hm, Nat.sub_mul]; omega
    have hp : 0 < 2 ^ e := Nat.pos_of_ne_zero (by simp)
    have hpos : 0 < m * 2 ^ e := Nat.mul_pos (by omega) hp
    have hsum : (Datum.number s m (-149 + (e : Int))).sum (.number false 0 (-149)) = some (.number s (m * 2 ^ e) (-149)) := by
      have e0 : min (-149 + (e : Int)) (-149) = -149 := by omega
      have e1 : ((-149 : Int) + e - -149).toNat = e := by omega
      have e2 : ((-149 : Int) - -149).toNat = 0 := by decide
      simp only [Datum.sum, e0, e1, e2, signed_zero]
      unfold signed
      rw [Nat.shiftLeft_eq]
      generalize m * 2 ^ e = M at *
      cases s
      · have h1 : ¬ (M : Int) = 0 := by omega
        have h2 : ¬ (M : Int) < 0 := by omega
        simp [h1, h2]
      · have h1 : ¬ (-(M : Int)) = 0 := by omega
        have h2 : (-(M : Int)) < 0 := by omega
        simp [h1, h2]
        omega
    rw [hsum, Option.map_some]
    show some (single.nearest _ _ _) = _
    congr 1
    unfold Format.nearest
    have h0 : ¬ q = 0 := by omega
    have hlast : max ((-149 : Int) + ((m * 2 ^ e).log2 : Nat) - (single.fractionBits : Nat)) single.leastPlace = -149 + e := by
      rw [log2_mul m e hm0 hm1, c5, c4]; omega
    rw [if_neg (Nat.ne_of_gt hpos)]
    simp only [hlast, if_neg h0]
    have e1 : ((-149 : Int) - (-149 + e)).toNat = 0 := by omega
    have e2 : ((-149 : Int) + e - -149).toNat = e := by omega
    have e3 : ((-149 : Int) + e - single.leastPlace).toNat = e := by rw [c4]; omega
    rw [e1, e2, e3, Nat.shiftLeft_zero, cut_exact s m e (by omega), c2, c3, hqe, Nat.min_eq_left (by omega)]
    exact hword
end Go.Am
set_option linter.all false
namespace Go.Am
open Go Ieee
set_option maxRecDepth 100000
/-! # What is added a zero compares as before -/
theorem posZ_read (w : Nat) (h : w % 2 ^ 31 = 0) : single.read w = .number (w / 2 ^ 31 % 2 == 1) 0 (-149) := by
  unfold Format.read
  have c1 : single.signWeight = 2 ^ 31 := rfl
  have c2 : single.binade = 2 ^ 23 := rfl
  have c4 : single.leastPlace = -149 := rfl
  simp only [c1, c2, h]
  rw [if_pos (by omega), c4]
theorem sgn0 (s : Bool) (k : Nat) : signed s 0 k = 0 := by unfold signed; cases s <;> simp
theorem ord_zero (s : Bool) (d : Datum) : (Datum.number s 0 (-149)).order d = (Datum.number false 0 (-149)).order d ∧ d.order (.number s 0 (-149)) = d.order (.number false 0 (-149)) := by
  cases d with
  | nan _ _ => exact ⟨rfl, rfl⟩
  | infinity _ => exact ⟨rfl, rfl⟩
  | number t n j => simp only [Datum.order, sgn0]; exact ⟨trivial, trivial⟩
theorem posZ_order (w b : Nat) : single.order (posZ w) b = single.order w b ∧ single.order b (posZ w) = single.order b w := by
  unfold posZ
  by_cases h : w % 2 ^ 31 = 0
  · rw [if_pos h]
    unfold Format.order
    rw [posZ_read w h]
    have hr0 : single.read 0 = .number false 0 (-149) := rfl
    rw [hr0]
    exact ⟨(ord_zero _ _).1.symm, (ord_zero _ _).2.symm⟩
  · rw [if_neg h]; exact ⟨rfl, rfl⟩
end Go.Am
set_option linter.all false
namespace Go.Am
open Go Ieee
set_option maxRecDepth 100000
/-! # Finite float32s are in order as the numbers that they stand for -/
def valF (w : Nat) : Int := match single.read w with
  | .number s m e => signed s m (e + 149).toNat
  | _ => 0
theorem fin_read {w : Nat} (hf : w % 2 ^ 31 < 255 * 2 ^ 23) : ∃ s m, ∃ k : Nat, single.read w = .number s m (-149 + k) := by
  have c1 : single.signWeight = 2 ^ 31 := rfl
  have c2 : single.binade = 2 ^ 23 := rfl
  have c3 : single.infRung = 255 * 2 ^ 23 := rfl
  have c4 : single.leastPlace = -149 := rfl
  unfold Format.read
  simp only [c1, c2, c3, c4]
  by_cases h : w % 2 ^ 31 < 2 ^ 23
  · rw [if_pos h]
    exact ⟨_, _, 0, rfl⟩
  · rw [if_neg h, if_pos hf]
    exact ⟨_, _, _, rfl⟩
theorem nonfin_read {w : Nat} (hf : ¬ w % 2 ^ 31 < 255 * 2 ^ 23) : (∃ s, single.read w = .infinity s) ∨ (∃ s p, single.read w = .nan s p) := by
  have c1 : single.signWeight = 2 ^ 31 := rfl
  have c2 : single.binade = 2 ^ 23 := rfl
  have c3 : single.infRung = 255 * 2 ^ 23 := rfl
  unfold Format.read
  simp only [c1, c2, c3]
  rw [if_neg (by omega), if_neg hf]
  split
  · exact .inl ⟨_, rfl⟩
  · exact .inr ⟨_, _, rfl⟩
theorem signed_add (s : Bool) (m a b : Nat) : signed s m (a + b) = signed s m a * 2 ^ b := by
  unfold signed
  simp only [Nat.shiftLeft_eq, Nat.pow_add]
  cases s <;> simp [Int.mul_assoc, Int.neg_mul]
theorem cmp_mul (x y : Int) (b : Nat) : compare (x * 2 ^ b) (y * 2 ^ b) = compare x y := by
  have hp : (0 : Int) < 2 ^ b := Int.pow_pos (by omega)
  rcases Int.lt_trichotomy x y with h | h | h
  · have h2 : x * 2 ^ b < y * 2 ^ b := Int.mul_lt_mul_of_pos_right h hp
    rw [(Int.compare_eq_lt).2 h, (Int.compare_eq_lt).2 h2]
  · rw [h]
    rw [(Int.compare_eq_eq).2 rfl, (Int.compare_eq_eq).2 rfl]
  · have h2 : y * 2 ^ b < x * 2 ^ b := Int.mul_lt_mul_of_pos_right h hp
    rw [(Int.compare_eq_gt).2 h, (Int.compare_eq_gt).2 h2]
theorem order_fin {w v : Nat} (hw : w % 2 ^ 31 < 255 * 2 ^ 23) (hv : v % 2 ^ 31 < 255 * 2 ^ 23) : single.order w v = some (compare (valF w) (valF v)) := by
  obtain ⟨s, m, k, h1⟩ := fin_read hw
  obtain ⟨t, n, l, h2⟩ := fin_read hv
  unfold Format.order valF
  rw [h1, h2]
  simp only [Datum.order]
  have e1 : ((-149 : Int) + k + 149).toNat = k := by omega
  have e2 : ((-149 : Int) + l + 149).toNat = l := by omega
  have e3 : ((-149 : Int) + k - min (-149 + (k : Int)) (-149 + l)).toNat = k - min k l := by omega
  have e4 : ((-149 : Int) + l - min (-149 + (k : Int)) (-149 + l)).toNat = l - min k l := by omega
  rw [e1, e2, e3, e4]
  have e5 : signed s m k = signed s m (k - min k l) * 2 ^ (min k l) := by rw [← signed_add]; congr 1; omega
  have e6 : signed t n l = signed t n (l - min k l) * 2 ^ (min k l) := by rw [← signed_add]; congr 1; omega
  rw [e5, e6, cmp_mul]
theorem sub_self32 {w : Nat} (hf : w % 2 ^ 31 < 255 * 2 ^ 23) : single.sub w w = some 0 := by
  obtain ⟨s, m, k, h1⟩ := fin_read hf
  unfold Format.sub
  rw [h1]
  have hsum : (Datum.number s m (-149 + (k : Int))).sum (Datum.number s m (-149 + (k : Int))).opposite = some (.number false 0 (-149 + k)) := by
    simp only [Datum.opposite, Datum.sum, Int.min_self, Int.sub_self]
    have e : signed s m (0 : Int).toNat + signed (!s) m (0 : Int).toNat = 0 := by
      unfold signed; cases s <;> simp <;> omega
    rw [e]
    cases s <;> rfl
  rw [hsum, Option.map_some]
  show some (single.nearest _ _ _) = _
  congr 1
theorem sub_self_none {w : Nat} (hf : ¬ w % 2 ^ 31 < 255 * 2 ^ 23) : single.sub w w = none := by
  unfold Format.sub
  rcases nonfin_read hf with ⟨s, h⟩ | ⟨s, p, h⟩
  · rw [h]; cases s <;> rfl
  · rw [h]; rfl
end Go.Am
