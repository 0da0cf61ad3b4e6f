/- A part of the proof of a statement of this seat: the machine on which the program is read, and what it computes; for every input. -/
import Derived.Test.YtkmaeondbkpajaaGreatDoorT12
import Derived.Test.YtkmaeondbkpajaaGreatDoorT13
set_option linter.all false
set_option linter.all false
namespace Go.Am
open Go
variable [MaxLen]
set_option maxRecDepth 100000
set_option maxHeartbeats 8000000
/-! # A printed source has the tokens that were printed -/

def tokW (t : Str) : Bool := !t.isEmpty && t.all letter
def tokG (t : Str) : Bool := tokW t || cont t
theorem wlen_app : ∀ (w m : Str), w.all letter = true → (∀ c l, m = c :: l → letter c = false) → wlen (w ++ m) = w.length
  | [], [], _, _ => rfl
  | [], c :: l, _, h => by
    show wlen (c :: l) = 0
    rw [wlen, h c l rfl, br_false]
  | c :: w, m, hw, h => by
    rw [List.all_cons, Bool.and_eq_true] at hw
    show wlen (c :: (w ++ m)) = w.length + 1
    rw [wlen, hw.1, br_true, wlen_app w m hw.2 h]
theorem jn_head {l : List Str} (hl : ∀ t ∈ l, tokG t = true) : ∀ c m, jn false l = c :: m → letter c = false := by
  intro c m h
  cases l with
  | nil => cases h
  | cons t l =>
    rw [jn, Bool.false_or] at h
    cases hc : cont t with
    | false =>
      rw [hc, cond_false] at h
      cases h; rfl
    | true =>
      rw [hc, cond_true] at h
      simp only [cont, Bool.or_eq_true, beq_iff_eq] at hc
      rcases hc with rfl | rfl | rfl | rfl <;> (cases h <;> rfl)
theorem rtk_jn (S : Str) : ∀ (ts : List Str), (∀ t ∈ ts, tokG t = true) → ∀ (b : Bool) (f i : Nat), S.drop i = jn b ts → S.length < f + i → (rtk S f i).map (·.txt) = ts := by
  intro ts
  induction ts with
  | nil =>
    intro _ b f i h hf
    cases f with
    | zero => rfl
    | succ f => rw [rtk, h]; rfl
  | cons t l ih =>
    intro ht b f i h hf
    have htg := ht t (by simp)
    have hl : ∀ x ∈ l, tokG x = true := fun x hx => ht x (List.mem_cons_of_mem _ hx)
    -- the token itself
    have core : ∀ f i, S.drop i = t ++ jn (t == [40]) l → S.length < f + i → (rtk S f i).map (·.txt) = t :: l := by
      intro f i h hf
      obtain ⟨c, w, rfl⟩ : ∃ c w, t = c :: w := by
        cases t with
        | nil => cases htg
        | cons c w => exact ⟨c, w, rfl⟩
      have hi : i < S.length := by
        rcases Nat.lt_or_ge i S.length with h1 | h1
        · exact h1
        · rw [List.drop_eq_nil_of_le h1] at h; cases h
      obtain ⟨f, rfl⟩ : ∃ q, f = q + 1 := ⟨f - 1, by omega⟩
      have hlen : (S.drop i).length = S.length - i := List.length_drop
      rw [h] at hlen
      simp only [List.length_append, List.length_cons] at hlen
      have htl : tlen c (w ++ jn (c :: w == [40]) l) = w.length + 1 := by
        unfold tlen
        cases hw : tokW (c :: w) with
        | true =>
          have hw2 := hw
          rw [tokW, Bool.and_eq_true, List.all_cons, Bool.and_eq_true] at hw2
          have h40 : (c :: w == [40]) = false := by
            rw [beq_eq_false_iff_ne]; rintro h40
            cases h40
            have : letter 40 = true := hw2.2.1
            exact absurd this (by decide)
          rw [hw2.2.1, br_true, h40, wlen_app w _ hw2.2.2 (fun c l h => jn_head hl c l h)]
        | false =>
          rw [tokG, hw, Bool.false_or] at htg
          simp only [cont, Bool.or_eq_true, beq_iff_eq] at htg
          rcases htg with h | h | h | h <;> (cases h <;> rfl)
      have hsp : (c == 32 || c == 10) = false := by
        cases hw : tokW (c :: w) with
        | true =>
          rw [tokW, Bool.and_eq_true, List.all_cons, Bool.and_eq_true] at hw
          have hw1 := hw.2.1
          cases hx : (c == 32 || c == 10)
          · rfl
          · rw [Bool.or_eq_true] at hx
            rcases hx with hx | hx <;> (rw [eq_of_beq hx] at hw1; exact absurd hw1 (by decide))
        | false =>
          rw [tokG, hw, Bool.false_or] at htg
          simp only [cont, Bool.or_eq_true, beq_iff_eq] at htg
          rcases htg with h | h | h | h <;> (cases h <;> rfl)
      have hsl : slc S i (i + (w.length + 1)) = c :: w := by
        unfold slc
        rw [List.drop_take, h]
        have : i + (w.length + 1) - i = (c :: w).length := by rw [List.length_cons]; omega
        rw [this, List.take_left']
        rfl
      have hdr : S.drop (i + (w.length + 1)) = jn (c :: w == [40]) l := by
        rw [← List.drop_drop, h]
        have : w.length + 1 = (c :: w).length := rfl
        rw [this, List.drop_left']
        rfl
      rw [rtk, h]
      simp only [List.cons_append, hsp, br_false, htl, List.map_cons, hsl]
      rw [ih hl _ f _ hdr (by omega)]
    rw [jn] at h
    cases hb : (b || cont t) with
    | true => rw [hb, cond_true] at h; exact core f i h hf
    | false =>
      rw [hb, cond_false] at h
      have hi : i < S.length := by
        rcases Nat.lt_or_ge i S.length with h1 | h1
        · exact h1
        · rw [List.drop_eq_nil_of_le h1] at h; cases h
      obtain ⟨f, rfl⟩ : ∃ q, f = q + 1 := ⟨f - 1, by omega⟩
      rw [rtk, h]
      simp only [List.cons_append]
      have e : ((32 : UInt8) == 32 || (32 : UInt8) == 10) = true := rfl
      rw [e, br_true]
      refine core f (i + 1) ?_ (by omega)
      rw [← List.drop_drop, h]; rfl
theorem rtoks_jn {ts : List Str} (h : ∀ t ∈ ts, tokG t = true) : (rtoks (jn true ts)).map (·.txt) = ts := rtk_jn _ ts h true _ 0 rfl (by omega)
/-! # Numbers and words as they are printed -/

theorem digs_dec (n : Nat) : digs n = Lib.decDigits n := by
  induction n using Nat.strongRecOn with
  | ind n ih =>
    rw [Lib.decDigits]
    by_cases h : n < 10
    · rw [digs_small h, dif_pos h]
    · rw [digs_big h, dif_neg h, ih (n / 10) (by omega)]
theorem dg_ito {n : Int} (h0 : 0 ≤ n) (h1 : n ≤ 255) : dg n = itoE n := by
  rw [itoE_eq (by omega) (by omega)]
  unfold dg Lib.itoa
  rw [if_neg (by omega), digs_dec]
theorem num_all : ((List.range 256).all fun k => rnumOf (itoE (k : Nat)) == some (k : Int) && tokW (itoE (k : Nat))) = true := by kernel_rfl
theorem num_rd {n : Int} (h0 : 0 ≤ n) (h1 : n ≤ 255) : rnumOf (dg n) = some n ∧ tokW (dg n) = true := by
  obtain ⟨k, rfl⟩ := Int.eq_ofNat_of_zero_le h0
  have := List.all_eq_true.1 num_all k (List.mem_range.2 (by omega))
  rw [Bool.and_eq_true, beq_iff_eq] at this
  rw [dg_ito (by omega) (by omega)]
  exact this
theorem c75t {n : Int} (h0 : 0 ≤ n) (h1 : n ≤ 255) : calV U 75 [.int .i64 n] = some (.str (dg n)) := by
  rw [dg_ito h0 h1]
  exact c1075 n (by omega) (by omega)
theorem kind_w {k : Str} (h : (kdOf k).known = true) : tokW k = true := by
  rw [kd_str h]
  cases hk : kdOf k <;> first | rfl | (rw [hk] at h; cases h)
theorem rd_num (en : Nat) {t : Tok} {l : List Tok} {bad n : Int} (hb : bad < 0) (h0 : 0 ≤ n) (h1 : n ≤ 255) (ht : t.txt = dg n) : rnum en ⟨t :: l, bad⟩ = (n, ⟨l, bad⟩) := by
  unfold rnum
  have : decide ((Rd.mk (t :: l) bad).bad ≥ 0) = false := decide_eq_false (by show ¬ bad ≥ 0; omega)
  rw [this, br_false]
  simp only [ht, (num_rd h0 h1).1]
  rfl
theorem rd_word (en : Nat) {t : Tok} {l : List Tok} {bad : Int} (hb : bad < 0) (hw : tokW t.txt = true) : rword en ⟨t :: l, bad⟩ = (t.txt, ⟨l, bad⟩) := by
  unfold rword
  have : decide ((Rd.mk (t :: l) bad).bad ≥ 0) = false := decide_eq_false (by show ¬ bad ≥ 0; omega)
  rw [this, br_false]
  rw [tokW, Bool.and_eq_true] at hw
  cases ht : t.txt with
  | nil => rw [ht] at hw; exact absurd hw.1 (by simp)
  | cons c w =>
    rw [ht, List.all_cons, Bool.and_eq_true] at hw
    simp only [ht, hw.2.1, Bool.not_true, br_false]
    rfl
theorem rd_is {t : Tok} {l : List Tok} {bad : Int} (hb : bad < 0) (w : Str) : ris w ⟨t :: l, bad⟩ = (t.txt == w) := by
  unfold ris
  rw [decide_eq_true (show (Rd.mk (t :: l) bad).bad < 0 from hb), Bool.true_and]
theorem rd_take (en : Nat) {t : Tok} {l : List Tok} {bad : Int} (hb : bad < 0) {w : Str} (ht : t.txt = w) : rtake en w ⟨t :: l, bad⟩ = ⟨l, bad⟩ := by
  unfold rtake
  rw [rd_is hb, ht, beq_self_eq_true]; rfl
theorem rd_kind {t : Tok} {l : List Tok} {bad : Int} (hb : bad < 0) : rkind ⟨t :: l, bad⟩ = t.txt := by
  unfold rkind
  rw [decide_eq_true (show (Rd.mk (t :: l) bad).bad < 0 from hb), br_true]
end Go.Am
