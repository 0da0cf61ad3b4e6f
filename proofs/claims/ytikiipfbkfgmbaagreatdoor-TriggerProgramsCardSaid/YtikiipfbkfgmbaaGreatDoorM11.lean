/- A part of the proof of a statement of this seat: the machine on which the program is read, and what it computes; for every input. -/
import Derived.Test.YtikiipfbkfgmbaaGreatDoorM05
set_option linter.all false
namespace Go.Am
open Go
variable [MaxLen]
set_option maxRecDepth 100000

/-! # strconv.Itoa at the numbers that are printed: all of them, one by one -/

def digs3 (n : Nat) : Str := bif Nat.blt n 10 then [UInt8.ofNat (48 + n)] else bif Nat.blt n 100 then [UInt8.ofNat (48 + n / 10), UInt8.ofNat (48 + n % 10)] else [UInt8.ofNat (48 + n / 100), UInt8.ofNat (48 + n / 10 % 10), UInt8.ofNat (48 + n % 10)]
theorem blt_t {n m : Nat} (h : n < m) : Nat.blt n m = true := by rw [Nat.blt_eq]; exact h
theorem blt_f {n m : Nat} (h : ¬ n < m) : Nat.blt n m = false := by rw [Bool.eq_false_iff, ne_eq, Nat.blt_eq]; exact h
theorem digs3_eq (n : Nat) (h : n < 1000) : digs n = digs3 n := by
  unfold digs3
  by_cases h1 : n < 10
  · rw [digs_small h1, blt_t h1]; rfl
  · rw [blt_f h1, cond_false, digs_big h1]
    by_cases h2 : n < 100
    · rw [blt_t h2, digs_small (by omega)]; rfl
    · rw [blt_f h2, digs_big (n := n / 10) (by omega), digs_small (n := n / 10 / 10) (by omega), Nat.div_div_eq_div_mul]; rfl
def isS (x : Option AV) (s : Str) : Bool := match x with
  | some (.str t) => t == s
  | _ => false
theorem isS_eq {x : Option AV} {s : Str} (h : isS x s = true) : x = some (.str s) := by
  unfold isS at h
  split at h
  · rw [eq_of_beq h]
  · cases h
theorem itoa_all : ((List.range 256).all fun n => isS (callQ U (exec U 100000) 127 [.int .i64 (Int.ofNat n)] true) (digs3 n)) = true := by kernel_rfl
theorem c127 (n : Int) (h0 : 0 ≤ n) (h1 : n ≤ 255) : calV U 127 [.int .i64 n] = some (.str (dg n)) := by
  obtain ⟨k, rfl⟩ := Int.eq_ofNat_of_zero_le h0
  have hk : k < 256 := by omega
  have h := isS_eq (List.all_eq_true.1 itoa_all k (List.mem_range.2 hk))
  rw [← digs3_eq k (by omega)] at h
  exact v_of_q (by kernel_rfl) rfl (callQ_run U (n := 100000) h)
end Go.Am
