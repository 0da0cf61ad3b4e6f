/- A part of the proof of a statement of this seat: the machine on which the program is read, and what it computes; for every input. -/
import Derived.Test.YtaoeblefgefgpaaGreatDoorC03
import Derived.Laws.BitsLemmas
set_option linter.all false
set_option linter.all false
namespace Go.Am
open Go
/-! # The data of lines and records, and how they stand as values of the machine -/

/-- a slice that nobody writes: nil or not -/
def encS (nl : Bool) (l : List AV) : AV := match nl, l with
  | true, [] => .nils
  | _, l => .fz l
def ints (l : List Int) : List AV := l.map (.int .i64 ·)
def bools (l : List Bool) : List AV := l.map .bool
def flts (l : List Nat) : List AV := l.map (.flt .f32 ·)
def words (l : List Nat) : List AV := l.map fun n => .int .u16 (n : Nat)
/-! ### How such slices read -/
theorem encS_fz (l : List AV) : encS false l = .fz l := by cases l <;> rfl
theorem encS_cons (nl : Bool) (x : AV) (l : List AV) : encS nl (x :: l) = .fz (x :: l) := by cases nl <;> rfl
theorem still_encS (nl : Bool) (l : List AV) : still (encS nl l) = true := by
  cases nl <;> cases l <;> simp [encS, still]
theorem noAgg_encS (nl : Bool) (l : List AV) : noAgg (encS nl l) = true := by
  cases nl <;> cases l <;> simp [encS, noAgg]
theorem cells_encS (nl : Bool) (l : List AV) : (encS nl l).cells = [encS nl l] := by
  cases nl <;> cases l <;> simp [encS, AV.cells]
theorem lenL_encS (nl : Bool) (l : List AV) : lenRL (encS nl l) = some (.int .i64 l.length) := by
  cases nl <;> cases l <;> simp [encS, lenRL]
theorem frz_encS (X : Cx) (s : St) (d : Nat) (nl : Bool) (l : List AV) : frz X s (d + 1) (encS nl l) = some (encS nl l) := by
  cases nl <;> cases l <;> simp [encS, frz]
theorem ixa_encS (n : Nat) (nl : Bool) (l : List AV) (k : IntKind) (i : Int) (x : AV) (h0 : 0 ≤ i) (hx : l[i.toNat]? = some x) (hc : x.cells.length = n) (hn : n ≠ 0) : ixRA n (encS nl l) (.int k i) = some (.fp x.cells 0) := by
  have hl : l ≠ [] := by intro h; rw [h] at hx; simp at hx
  have : encS nl l = .fz l := by cases l with
    | nil => exact absurd rfl hl
    | cons y l => exact encS_cons ..
  rw [this, ixa_fz]
  simp [h0, hx, ixF, hc, hn]

theorem wrap_i64 {n : Int} (h0 : -2 ^ 63 ≤ n) (h1 : n < 2 ^ 63) : IntKind.i64.wrap n = n := by
  rw [IntKind.wrap_i64]
  omega
end Go.Am
