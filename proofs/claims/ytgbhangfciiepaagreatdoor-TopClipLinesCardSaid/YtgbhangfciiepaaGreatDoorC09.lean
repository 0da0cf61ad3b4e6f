/- A part of the proof of a statement of this seat: the machine on which the program is read, and what it computes; for every input. -/
import Derived.Test.YtgbhangfciiepaaGreatDoorC06
import Derived.Test.YtgbhangfciiepaaGreatDoorC07
import Derived.Test.YtgbhangfciiepaaGreatDoorC08
set_option linter.all false
set_option linter.all false
namespace Go.Am
open Go
variable [MaxLen]
set_option maxRecDepth 100000
set_option maxHeartbeats 8000000
/-! # Small functions; checks of samples, levels and records -/
def geF (a b : Nat) : Bool := FloatKind.f32.format.order a b == some .gt || FloatKind.f32.format.order a b == some .eq
def leF (a b : Nat) : Bool := FloatKind.f32.format.order a b == some .lt || FloatKind.f32.format.order a b == some .eq
theorem bin_fgeq (X : Cx) (t : TypeId) (c : Bool) (a b : Nat) : binA X .geq t c (.flt .f32 a) (.flt .f32 b) = some (.bool (geF a b)) := (fun h => h) rfl
theorem bin_fleq (X : Cx) (t : TypeId) (c : Bool) (a b : Nat) : binA X .leq t c (.flt .f32 a) (.flt .f32 b) = some (.bool (leF a b)) := (fun h => h) rfl
theorem bin_feql (X : Cx) (t : TypeId) (c : Bool) (a b : Nat) : binA X .eql t c (.flt .f32 a) (.flt .f32 b) = some (.bool (FloatKind.f32.format.order a b == some .eq)) := (fun h => h) rfl
theorem bin_fsub (X : Cx) (t : TypeId) (c : Bool) (a b : Nat) : binA X .sub t c (.flt .f32 a) (.flt .f32 b) = (Ieee.single.sub a b).map (.flt .f32) := (fun h => h) rfl
theorem bin_fadd (X : Cx) (t : TypeId) (c : Bool) (a b : Nat) : binA X .add t c (.flt .f32 a) (.flt .f32 b) = (Ieee.single.add a b).map (.flt .f32) := (fun h => h) rfl
theorem noAgg_flt (k : FloatKind) (b : Nat) : noAgg (.flt k b) = true := (fun h => h) rfl
theorem cells_flt (k : FloatKind) (b : Nat) : AV.cells (.flt k b) = [.flt k b] := (fun h => h) rfl
theorem still_flt (k : FloatKind) (b : Nat) : still (.flt k b) = true := by simp [still]
theorem frz_flt (X : Cx) (s : St) (d : Nat) (k : FloatKind) (b : Nat) : frz X s (d + 1) (.flt k b) = some (.flt k b) := (fun h => h) rfl
attribute [go_sem] bin_fgeq bin_fleq noAgg_flt cells_flt still_flt
attribute [go_sem ↓] frz_flt
theorem flts_len (l : List Nat) : (flts l).length = l.length := by simp [flts]
theorem flts_get (l : List Nat) (i : Nat) : (flts l)[i]? = (l[i]?).map (.flt .f32 ·) := by simp [flts]
theorem ixa_flts {nl : Bool} {l : List Nat} {i : Nat} (h : i < l.length) : ixRA 1 (encS nl (flts l)) (.int .i64 (i : Int)) = some (.fp [.flt .f32 l[i]] 0) :=
  ixa_encS 1 nl (flts l) .i64 i (.flt .f32 l[i]) (by omega) (by rw [Int.toNat_natCast, flts_get, List.getElem?_eq_getElem h]; rfl) rfl (by decide)
theorem c18 (b : Nat) : calV U 18 [.flt .f32 b] = some (.bool (fin32 b)) := calV_of fun s => by
  unfold cal callF; rw [U_ext]; rfl
theorem clip_ok : calV U 6 [] = some (.bool true) := v_of_q (by kernel_rfl) rfl (callQ_run U awC)
theorem c23 (p : Bool) (n : Int) : calV U 23 [.bool p, .int .i64 n] = some (.int .i64 (br p n 0)) := by
  refine pure_go k23 (by kernel_rfl) rfl ?_
  simp +contextual only [go_sem, ↓reduceIte, r23]
theorem c58 (p : Bool) (n : Int) : calV U 58 [.bool p, .int .i64 n] = some (.int .i64 (br p n 0)) := by
  refine pure_go k58 (by kernel_rfl) rfl ?_
  simp +contextual only [go_sem, ↓reduceIte, r58]
theorem c25 (n a b : Int) : calV U 25 [.int .i64 n, .int .i64 a, .int .i64 b] = some (.int .i64 (br (decide (n < a) || decide (n > b)) 3 0)) := by
  refine pure_go k25 (by kernel_rfl) rfl ?_
  simp +contextual only [go_sem, ↓reduceIte, r25, c23]
theorem c25_in {n a b : Int} (h : a ≤ n ∧ n ≤ b) : calV U 25 [.int .i64 n, .int .i64 a, .int .i64 b] = some (.int .i64 0) := by
  rw [c25, show decide (n < a) = false from decide_eq_false (by omega), show decide (n > b) = false from decide_eq_false (by omega)]; rfl
theorem c35 {n : Nat} (h : n ≤ 2 ^ 30) : calV U 35 [.int .i64 (n : Int)] = some (.int .i64 (((n + 15) / 16 : Nat) : Int)) := by
  refine pure_go k35 (by kernel_rfl) rfl ?_
  have e1 : IntKind.i64.wrap ((n : Int) + 16) = (n : Int) + 16 := wrap_i64 (by omega) (by omega)
  have e2 : IntKind.i64.wrap ((n : Int) + 16 - 1) = ((n + 15 : Nat) : Int) := by rw [wrap_i64] <;> omega
  have e3 : binA U .quo 3 true (.int .i64 ((n + 15 : Nat) : Int)) (.int .i64 16) = some (.int .i64 (((n + 15) / 16 : Nat) : Int)) := by
    have h1 : (((n + 15 : Nat) : Int).tdiv 16) = (((n + 15) / 16 : Nat) : Int) := rfl
    simp only [binA, intA, h1, if_true]
    rw [if_neg (by decide), wrap_i64 (by omega) (by omega)]
  simp +contextual only [go_sem, ↓reduceIte, r35, e1, e2, e3]
theorem c34 {l : AV} {n : Int} (hl : lenRL l = some (.int .i64 n)) (hs : still l = true) (h : n ≤ 4096) : calV U 34 [l] = some (.int .i64 0) := by
  refine pure_go k34 (by kernel_rfl) (by simp [stills, hs]) ?_
  have e : decide (n > 4096) = false := decide_eq_false (by omega)
  simp +contextual only [go_sem, ↓reduceIte, r34, hl, c23, e]
theorem c40 {l : AV} {n : Int} (hl : lenRL l = some (.int .i64 n)) (hs : still l = true) (h : n ≤ 4096) : calV U 40 [l] = some (.int .i64 0) := by
  refine pure_go k40 (by kernel_rfl) (by simp [stills, hs]) ?_
  have e : decide (n > 4096) = false := decide_eq_false (by omega)
  simp +contextual only [go_sem, ↓reduceIte, r40, hl, c23, e]
theorem c41 {l : AV} {n : Int} (hl : lenRL l = some (.int .i64 n)) (hs : still l = true) (h : n ≤ 4096) : calV U 41 [l] = some (.int .i64 0) := by
  refine pure_go k41 (by kernel_rfl) (by simp [stills, hs]) ?_
  have e : decide (n > 4096) = false := decide_eq_false (by omega)
  simp +contextual only [go_sem, ↓reduceIte, r41, hl, c23, e]
theorem q22_2 : callQ U (exec U 1000) 22 [.fz [.int .i64 0, .int .i64 0]] true = some (.int .i64 0) := by kernel_rfl
theorem q22_3 : callQ U (exec U 1000) 22 [.fz [.int .i64 0, .int .i64 0, .int .i64 0]] true = some (.int .i64 0) := by kernel_rfl
theorem cz22_2 (s : St) : calZ U 22 (some [.fz [.int .i64 0, .int .i64 0]]) s = some (.int .i64 0, s) := cz_of (v_of_q (by kernel_rfl) rfl (callQ_run U q22_2)) (by kernel_rfl) rfl rfl s
theorem cz22_3 (s : St) : calZ U 22 (some [.fz [.int .i64 0, .int .i64 0, .int .i64 0]]) s = some (.int .i64 0, s) := cz_of (v_of_q (by kernel_rfl) rfl (callQ_run U q22_3)) (by kernel_rfl) rfl rfl s
theorem z22 {args : List AV} {s : St} (h : stills args = false) : callK U (calV U 22 args) 22 args s = calZ U 22 (mapO (frz U s 4000) args) s := z_of (by kernel_rfl) s h
theorem c59 {b : Nat} (h : fin32 b = true) : calV U 59 [.flt .f32 b] = some (.bool true) := by
  refine pure_go k59 (by kernel_rfl) rfl ?_
  have hs : Ieee.single.sub b b = some 0 := sub_self32 (by unfold fin32 at h; rwa [Nat.blt_eq] at h)
  have h0 : (FloatKind.f32.format.order 0 0 == some .eq) = true := by decide
  simp +contextual only [go_sem, ↓reduceIte, r59, bin_fsub, hs, bin_feql, h0]
theorem c57 (i : Int) {b : Nat} (h : fin32 b = true) : calV U 57 [.int .i64 i, .flt .f32 b] = some (.int .i64 0) := by
  refine pure_go k57 (by kernel_rfl) rfl ?_
  simp +contextual only [go_sem, ↓reduceIte, r57, c59 h, c58]
theorem c56 (nl : Bool) (l : List Nat) (hf : ∀ b ∈ l, fin32 b = true) (hl : l.length < 2 ^ 62) : calV U 56 [encS nl (flts l), .fn (.func 57) [] []] = some (.int .i64 0) := by
  refine pure_go k56 (by kernel_rfl) (by simp [stills, still_encS, still]) ?_
  simp +contextual only [go_sem, ↓reduceIte, r56, lenL_encS, flts_len]
  refine loop_to (σ := Nat) (fun i => l.length - i) (fun i => some (AV.int .i64 0)) (fun i e s => i ≤ l.length ∧ Env.get e 1 = .fn (.func 57) [] [] ∧ Env.get e 8 = encS nl (flts l) ∧ Env.get e 9 = .int .i64 l.length ∧ Env.get e 10 = .int .i64 i) 0 ?_ rfl ?_
  · rintro L i e s ⟨hi, h1, h8, h9, h10⟩ ih
    by_cases hd : i < l.length
    · have hx := ixa_flts (nl := nl) hd
      have hw := wrap_succ hd hl
      have hc := c57 i (hf _ (List.getElem_mem hd))
      simp +contextual only [go_sem, ↓reduceIte, r56_l0, h1, h8, h9, h10, nat_lt_dec, hd, hx, hc, hw]
      refine ih (i + 1) _ _ (by omega) ⟨by omega, ?_, ?_, ?_, ?_⟩ <;> simp +contextual only [go_sem, ↓reduceIte, h1, h8, h9, h10, hw]
    · have : i = l.length := by omega
      subst this
      simp +contextual only [go_sem, ↓reduceIte, r56_l0, h1, h8, h9, h10, nat_lt_dec, Nat.lt_irrefl]
  · refine ⟨Nat.zero_le _, ?_, ?_, ?_, ?_⟩ <;> simp +contextual only [go_sem, ↓reduceIte] <;> rfl
theorem c24 (nl : Bool) (l : List Nat) (hf : ∀ b ∈ l, fin32 b = true) (hl : l.length ≤ 4096) : calV U 24 [encS nl (flts l)] = some (.int .i64 0) := by
  refine pure_go k24 (by kernel_rfl) (by simp [stills, still_encS]) ?_
  have e : decide ((l.length : Int) > 4096) = false := decide_eq_false (by omega)
  simp +contextual only [go_sem, ↓reduceIte, r24, lenL_encS, flts_len, e, c56 nl l hf (by omega)]
def ckS (l : List Nat) : Int := br (decide ((l.length : Int) > 4096)) 5 (br (l.all fin32) 0 1)
theorem c17 (nl : Bool) (l : List Nat) : calV U 17 [encS nl (flts l)] = some (.int .i64 (ckS l)) := by
  refine pure_go k17 (by kernel_rfl) (by simp [stills, still_encS]) ?_
  rw [ckS]
  simp +contextual only [go_sem, ↓reduceIte, r17, lenL_encS, flts_len]
  simp only [brI_some]
  refine br_r fun hle => ?_
  have hle : l.length ≤ 4096 := by simp at hle; omega
  refine loop_to (σ := Nat) (fun i => l.length - i) (fun i => some (AV.int .i64 (br ((l.drop i).all fin32) 0 1))) (fun i e s => i ≤ l.length ∧ Env.get e 0 = encS nl (flts l) ∧ Env.get e 3 = .int .i64 i) 0 ?_ ?_ ?_
  · rintro L i e s ⟨hi, g0, g3⟩ ih
    by_cases hd : i < l.length
    · have hx := ixa_flts (nl := nl) hd
      have hw := wrap_succ hd (by omega)
      simp +contextual only [go_sem, ↓reduceIte, r17_l0, g0, g3, nat_lt_dec, hd, hx, lenL_encS, flts_len, c18]
      rw [List.drop_eq_getElem_cons hd, List.all_cons]
      cases hb : fin32 l[i] with
      | false => simp +contextual only [go_sem, ↓reduceIte, Bool.false_and]
      | true =>
        simp +contextual only [go_sem, ↓reduceIte, hw, Bool.true_and]
        refine ih (i + 1) _ _ (by omega) ⟨by omega, ?_, ?_⟩ <;> simp +contextual only [go_sem, ↓reduceIte, g0, g3, hw]
    · have : i = l.length := by omega
      subst this
      simp +contextual only [go_sem, ↓reduceIte, r17_l0, g0, g3, nat_lt_dec, Nat.lt_irrefl, lenL_encS, flts_len]
      rw [List.drop_length]; rfl
  · simp only [List.drop_zero, brI_some]
  · refine ⟨Nat.zero_le _, ?_, ?_⟩ <;> simp +contextual only [go_sem, ↓reduceIte] <;> rfl
/-! # Checks of levels and records -/
def ckLv (lo hi : Nat) : Int := br (!fin32 lo || !fin32 hi) 1 (br (geF lo hi) 11 0)
theorem c5 (lo hi : Nat) : calV U 5 [.agg [.flt .f32 lo, .flt .f32 hi]] = some (.int .i64 (ckLv lo hi)) := by
  refine pure_go k5 (by kernel_rfl) rfl ?_
  unfold ckLv
  cases h1 : fin32 lo <;> cases h2 : fin32 hi <;> cases h3 : geF lo hi
  all_goals simp +contextual only [go_sem, ↓reduceIte, r5, c18, h1, h2, h3, gateV_true, gateR_true, gateC_true, gateV_false, gateR_false, gateC_false, Bool.or_true, Bool.true_or, Bool.or_false]
theorem z24 {args : List AV} {s : St} (h : stills args = false) : callK U (calV U 24 args) 24 args s = calZ U 24 (mapO (frz U s 4000) args) s := z_of (by kernel_rfl) s h
theorem cz24 {l : List Nat} (hf : ∀ b ∈ l, fin32 b = true) (hl : l.length ≤ 4096) (s : St) : calZ U 24 (some [.fz (flts l)]) s = some (.int .i64 0, s) :=
  cz_of (by rw [← encS_fz]; exact c24 false l hf hl) (by kernel_rfl) (by simp [stills, still]) rfl s
theorem cz24_2 {a b : Nat} (ha : fin32 a = true) (hb : fin32 b = true) (s : St) : calZ U 24 (some [.fz [.flt .f32 a, .flt .f32 b]]) s = some (.int .i64 0, s) :=
  cz24 (l := [a, b]) (by simp [ha, hb]) (by simp) s
theorem c28 {lo hi : Nat} (h1 : fin32 lo = true) (h2 : fin32 hi = true) (h3 : geF lo hi = false) : calV U 28 [.agg [.flt .f32 lo, .flt .f32 hi]] = some (.int .i64 0) := by
  refine pure_go k28 (by kernel_rfl) rfl ?_
  have st1 : ∀ b o n c z, stills [.sl b o n c z] = false := fun b o n c z => by simp [stills, still]
  simp +contextual only [go_sem, ↓reduceIte, r28, go_drcU d28_0, h3, c23, z24 (st1 _ _ _ _ _), z22 (st1 _ _ _ _ _), cz24_2 h1 h2, cz22_2]
def ckK : List Int → Int
  | [] => 0
  | s :: l => br (decide (s < -1000) || decide (s > 1000)) 3 (ckK l)
def ckL : List (Bool × List Nat) → Int → Int
  | [], z => z
  | r :: l, z => br (ckS r.2 != 0) (ckS r.2) (ckL l z)
def encR (r : Bool × List Nat) : AV := encS r.1 (flts r.2)
def recs (l : List (Bool × List Nat)) : List AV := l.map encR
def ckR (R : List (Bool × List Nat)) (S : List Int) : Int := br ((R.length : Int) == 0) 12 (br (decide ((R.length : Int) > 8)) 5 (ckL R (br ((S.length : Int) != R.length) 2 (ckK S))))
theorem recs_len (l : List (Bool × List Nat)) : (recs l).length = l.length := by simp [recs]
theorem recs_get (l : List (Bool × List Nat)) (i : Nat) : (recs l)[i]? = (l[i]?).map encR := by simp [recs]
theorem cells_encR (r : Bool × List Nat) : (encR r).cells = [encR r] := cells_encS _ _
theorem ixa_recs {nl : Bool} {l : List (Bool × List Nat)} {i : Nat} (h : i < l.length) : ixRA 1 (encS nl (recs l)) (.int .i64 (i : Int)) = some (.fp [encR l[i]] 0) := by
  have := ixa_encS 1 nl (recs l) .i64 i (encR l[i]) (by omega) (by rw [Int.toNat_natCast, recs_get, List.getElem?_eq_getElem h]; rfl) (by rw [cells_encR]; rfl) (by decide)
  rw [cells_encR] at this
  exact this
theorem ixa_ints {nl : Bool} {l : List Int} {i : Nat} (h : i < l.length) : ixRA 1 (encS nl (ints l)) (.int .i64 (i : Int)) = some (.fp [.int .i64 l[i]] 0) :=
  ixa_encS 1 nl (ints l) .i64 i (.int .i64 l[i]) (by omega) (by rw [Int.toNat_natCast, ints_get, List.getElem?_eq_getElem h]; rfl) rfl (by decide)
theorem c4 (nr : Bool) (R : List (Bool × List Nat)) (ns : Bool) (S : List Int) : calV U 4 [encS nr (recs R), encS ns (ints S)] = some (.int .i64 (ckR R S)) := by
  refine pure_go k4 (by kernel_rfl) (by simp [stills, still_encS]) ?_
  unfold ckR
  simp +contextual only [go_sem, ↓reduceIte, r4, lenL_encS, recs_len]
  simp only [brI_some]
  refine br_r fun h0 => br_r fun h8 => ?_
  have h8 : R.length ≤ 8 := by simp at h8; omega
  refine loop_to (σ := Nat) (fun i => R.length - i) (fun i => some (AV.int .i64 (ckL (R.drop i) (br ((S.length : Int) != R.length) 2 (ckK S))))) (fun i e s => i ≤ R.length ∧ Env.get e 0 = encS nr (recs R) ∧ Env.get e 1 = encS ns (ints S) ∧ Env.get e 5 = .int .i64 i) 0 ?_ (by rw [List.drop_zero]) ?_
  · rintro L i e s ⟨hi, g0, g1, g5⟩ ih
    by_cases hd : i < R.length
    · have hx := ixa_recs (nl := nr) hd
      have hw := wrap_succ hd (by omega)
      have hc := c17 R[i].1 R[i].2
      have hc : calV U 17 [encR R[i]] = some (.int .i64 (ckS R[i].2)) := hc
      simp +contextual only [go_sem, ↓reduceIte, r4_l0, g0, g1, g5, nat_lt_dec, hd, hx, lenL_encS, recs_len, hc]
      rw [List.drop_eq_getElem_cons hd, ckL]
      cases hb : ckS R[i].2 != 0 with
      | true => simp +contextual only [go_sem, ↓reduceIte]
      | false =>
        simp +contextual only [go_sem, ↓reduceIte, hw]
        refine ih (i + 1) _ _ (by omega) ⟨by omega, ?_, ?_, ?_⟩ <;> simp +contextual only [go_sem, ↓reduceIte, g0, g1, g5, hw]
    · have : i = R.length := by omega
      subst this
      simp +contextual only [go_sem, ↓reduceIte, r4_l0, g0, g1, g5, nat_lt_dec, Nat.lt_irrefl, lenL_encS, recs_len, ints_len]
      rw [List.drop_length, ckL]
      simp only [brI_some]
      refine br_r fun hne => ?_
      have hS : S.length < 2 ^ 62 := by simp at hne; omega
      refine loop_to (σ := Nat) (fun i => S.length - i) (fun i => some (AV.int .i64 (ckK (S.drop i)))) (fun i e s => i ≤ S.length ∧ Env.get e 1 = encS ns (ints S) ∧ Env.get e 7 = .int .i64 i) 0 ?_ (by rw [List.drop_zero]) ?_
      · rintro L i e s ⟨hi, g1, g7⟩ ih
        by_cases hd : i < S.length
        · have hx := ixa_ints (nl := ns) hd
          have hw := wrap_succ hd hS
          simp +contextual only [go_sem, ↓reduceIte, r4_l1, g1, g7, nat_lt_dec, hd, hx, lenL_encS, ints_len]
          rw [List.drop_eq_getElem_cons hd, ckK]
          cases hb : decide (S[i] < -1000) with
          | true => simp +contextual only [go_sem, ↓reduceIte, Bool.true_or]
          | false =>
            cases hb2 : decide (S[i] > 1000) with
            | true => simp +contextual only [go_sem, ↓reduceIte, Bool.false_or]
            | false =>
              simp +contextual only [go_sem, ↓reduceIte, hw, Bool.false_or]
              refine ih (i + 1) _ _ (by omega) ⟨by omega, ?_, ?_⟩ <;> simp +contextual only [go_sem, ↓reduceIte, g1, g7, hw]
        · have : i = S.length := by omega
          subst this
          simp +contextual only [go_sem, ↓reduceIte, r4_l1, g1, g7, nat_lt_dec, Nat.lt_irrefl, lenL_encS, ints_len]
          rw [List.drop_length]; rfl
      · refine ⟨Nat.zero_le _, ?_, ?_⟩ <;> simp +contextual only [go_sem, ↓reduceIte, g1] <;> rfl
  · refine ⟨Nat.zero_le _, ?_, ?_, ?_⟩ <;> simp +contextual only [go_sem, ↓reduceIte] <;> rfl
/-- what a good check tells -/
structure Good2 (R : List (Bool × List Nat)) (S : List Int) : Prop where
  pos : 0 < R.length
  le : R.length ≤ 8
  fin : ∀ r ∈ R, r.2.length ≤ 4096 ∧ ∀ b ∈ r.2, fin32 b = true
  len : S.length = R.length
  sk : ∀ s ∈ S, -1000 ≤ s ∧ s ≤ 1000
theorem br_zero {p : Bool} {e x : Int} (h : br p e x = 0) (he : e ≠ 0) : p = false ∧ x = 0 := by
  cases p
  · exact ⟨rfl, h⟩
  · exact absurd h he
theorem ckS_zero {l : List Nat} (h : ckS l = 0) : l.length ≤ 4096 ∧ ∀ b ∈ l, fin32 b = true := by
  unfold ckS at h
  obtain ⟨h1, h2⟩ := br_zero h (by decide)
  refine ⟨by simp at h1; omega, ?_⟩
  cases hb : l.all fin32 with
  | true => exact List.all_eq_true.1 hb
  | false => rw [hb] at h2; cases h2
theorem ckL_zero : ∀ {l : List (Bool × List Nat)} {z : Int}, ckL l z = 0 → (∀ r ∈ l, ckS r.2 = 0) ∧ z = 0
  | [], z, h => ⟨by simp, h⟩
  | r :: l, z, h => by
    rw [ckL] at h
    cases hb : ckS r.2 != 0 with
    | true => rw [hb, br_true] at h; rw [h] at hb; cases hb
    | false =>
      rw [hb, br_false] at h
      obtain ⟨h1, h2⟩ := ckL_zero h
      refine ⟨fun x hx => ?_, h2⟩
      rcases List.mem_cons.1 hx with rfl | hx
      · simpa using hb
      · exact h1 x hx
theorem ckK_zero : ∀ {l : List Int}, ckK l = 0 → ∀ s ∈ l, -1000 ≤ s ∧ s ≤ 1000
  | [], _ => by simp
  | s :: l, h => by
    rw [ckK] at h
    obtain ⟨h1, h2⟩ := br_zero h (by decide)
    intro x hx
    rcases List.mem_cons.1 hx with rfl | hx
    · simp at h1; omega
    · exact ckK_zero h2 x hx
theorem good2 {R : List (Bool × List Nat)} {S : List Int} (h : ckR R S = 0) : Good2 R S := by
  unfold ckR at h
  obtain ⟨h1, h2⟩ := br_zero h (by decide)
  obtain ⟨h3, h4⟩ := br_zero h2 (by decide)
  obtain ⟨h5, h6⟩ := ckL_zero h4
  obtain ⟨h7, h8⟩ := br_zero h6 (by decide)
  exact ⟨by simp at h1; exact Nat.pos_of_ne_zero (by intro h; exact h1 (List.eq_nil_of_length_eq_zero h)), by simp at h3; omega, fun r hr => ckS_zero (h5 r hr), by simp at h7; omega, ckK_zero h8⟩
/-! # Lists compared; changes of a line and back -/
theorem words_len (l : List Nat) : (words l).length = l.length := by simp [words]
theorem words_get (l : List Nat) (i : Nat) : (words l)[i]? = (l[i]?).map fun n => AV.int .u16 (n : Nat) := by simp [words]
theorem ixa_words {nl : Bool} {l : List Nat} {i : Nat} (h : i < l.length) : ixRA 1 (encS nl (words l)) (.int .i64 (i : Int)) = some (.fp [.int .u16 (l[i] : Nat)] 0) :=
  ixa_encS 1 nl (words l) .i64 i (.int .u16 (l[i] : Nat)) (by omega) (by rw [Int.toNat_natCast, words_get, List.getElem?_eq_getElem h]; rfl) rfl (by decide)
theorem ixa_bools {nl : Bool} {l : List Bool} {i : Nat} (h : i < l.length) : ixRA 1 (encS nl (bools l)) (.int .i64 (i : Int)) = some (.fp [.bool l[i]] 0) :=
  ixa_encS 1 nl (bools l) .i64 i (.bool l[i]) (by omega) (by rw [Int.toNat_natCast, bools_get, List.getElem?_eq_getElem h]; rfl) rfl (by decide)
theorem bin_bneq (c : Bool) (a b : Bool) : binA U .neq 4 c (.bool a) (.bool b) = some (.bool (a != b)) := by
  have h : eqTop U c 4 (.bool a) (.bool b) = some (a == b) := by
    unfold eqTop eqT
    rw [und_4]
  show (match eqTop U c 4 (.bool a) (.bool b) with | some b => some (AV.bool !b) | none => none) = _
  rw [h]; rfl
theorem c12 (na nb : Bool) (a : List Nat) (ha : a.length < 2 ^ 62) : calV U 12 [encS na (words a), encS nb (words a)] = some (.bool true) := by
  refine pure_go k12 (by kernel_rfl) (by simp [stills, still_encS]) ?_
  simp +contextual only [go_sem, ↓reduceIte, r12, lenL_encS, words_len, bne_self_eq_false]
  refine loop_to (σ := Nat) (fun i => a.length - i) (fun i => some (AV.bool true)) (fun i e s => i ≤ a.length ∧ Env.get e 0 = encS na (words a) ∧ Env.get e 1 = encS nb (words a) ∧ Env.get e 5 = .int .i64 i) 0 ?_ rfl ?_
  · rintro L i e s ⟨hi, g0, g1, g5⟩ ih
    by_cases hd : i < a.length
    · have hx := ixa_words (nl := na) hd
      have hy := ixa_words (nl := nb) hd
      have hw := wrap_succ hd ha
      simp +contextual only [go_sem, ↓reduceIte, r12_l0, g0, g1, g5, nat_lt_dec, hd, hx, hy, lenL_encS, words_len, hw, bne_self_eq_false]
      refine ih (i + 1) _ _ (by omega) ⟨by omega, ?_, ?_, ?_⟩ <;> simp +contextual only [go_sem, ↓reduceIte, g0, g1, g5, hw]
    · have : i = a.length := by omega
      subst this
      simp +contextual only [go_sem, ↓reduceIte, r12_l0, g0, g1, g5, nat_lt_dec, Nat.lt_irrefl, lenL_encS, words_len]
  · refine ⟨Nat.zero_le _, ?_, ?_, ?_⟩ <;> simp +contextual only [go_sem, ↓reduceIte] <;> rfl
theorem c16 (na nb : Bool) (a : List Bool) (ha : a.length < 2 ^ 62) : calV U 16 [encS na (bools a), encS nb (bools a)] = some (.bool true) := by
  refine pure_go k16 (by kernel_rfl) (by simp [stills, still_encS]) ?_
  simp +contextual only [go_sem, ↓reduceIte, r16, lenL_encS, bools_len, bne_self_eq_false]
  refine loop_to (σ := Nat) (fun i => a.length - i) (fun i => some (AV.bool true)) (fun i e s => i ≤ a.length ∧ Env.get e 0 = encS na (bools a) ∧ Env.get e 1 = encS nb (bools a) ∧ Env.get e 5 = .int .i64 i) 0 ?_ rfl ?_
  · rintro L i e s ⟨hi, g0, g1, g5⟩ ih
    by_cases hd : i < a.length
    · have hx := ixa_bools (nl := na) hd
      have hy := ixa_bools (nl := nb) hd
      have hw := wrap_succ hd ha
      simp +contextual only [go_sem, ↓reduceIte, r16_l0, g0, g1, g5, nat_lt_dec, hd, hx, hy, lenL_encS, bools_len, hw, bin_bneq, bne_self_eq_false]
      refine ih (i + 1) _ _ (by omega) ⟨by omega, ?_, ?_, ?_⟩ <;> simp +contextual only [go_sem, ↓reduceIte, g0, g1, g5, hw]
    · have : i = a.length := by omega
      subst this
      simp +contextual only [go_sem, ↓reduceIte, r16_l0, g0, g1, g5, nat_lt_dec, Nat.lt_irrefl, lenL_encS, bools_len]
  · refine ⟨Nat.zero_le _, ?_, ?_, ?_⟩ <;> simp +contextual only [go_sem, ↓reduceIte] <;> rfl
/-- one element more, of a slice made just before -/
theorem RowI.app1 {s : St} {B : Nat} {t : TypeId} {i : Nat} {cs : List AV} {v : AV} (h : RowI s B t 1 i cs v) (hB : B ≤ s.next) (x : AV) (hx : Go.Am.noAgg x = true) :
    ∃ s1, appD t 1 1 [x] v (s.new (.cells [x] t false 0 0)) = some (.sl (s.next + 1) 0 (i + 1) none 1, s1) ∧ s1.next = s.next + 2 ∧ RowI s1 B t 1 (i + 1) (cs ++ [x]) (.sl (s.next + 1) 0 (i + 1) none 1) ∧
      (∀ j, j < B → s1.get j = s.get j) ∧ (∀ j, j < s.next → v ≠ .sl j 0 i none 1 → s1.get j = s.get j) ∧ (Fr s → Fr s1) := by
  have h0 : RowI (s.new (.cells [x] t false 0 0)) B t 1 i cs v := h.mono (by rw [next_new]; omega) fun j _ hj => by rw [get_new, if_neg (by omega)]
  obtain ⟨s1, e1, e2, e3, e4, e5⟩ := h0.app2 (by rw [next_new]; omega) (m := 1) (new := [x]) (by omega) rfl (by simp [hx])
  rw [next_new] at e1 e2 e3 e4
  refine ⟨s1, e1, e2, e3, fun j hj => ?_, fun j hj hv => ?_, fun hf => e5 (hf.new _)⟩
  · rw [e4 j (by omega) (h.far (.inr hj)), get_new, if_neg (by omega)]
  · rw [e4 j (by omega) hv, get_new, if_neg (by omega)]
/-- the times at which a line changes -/
def chg : Bool → Nat → List Bool → List Int
  | _, _, [] => []
  | b, i, x :: l => if x != b then (i : Int) :: chg x (i + 1) l else chg x (i + 1) l
theorem chg_len : ∀ (l : List Bool) (b : Bool) (i : Nat), (chg b i l).length ≤ l.length
  | [], b, i => by simp [chg]
  | x :: l, b, i => by
    have := chg_len l x (i + 1)
    rw [chg]
    split <;> simp <;> omega
theorem chg_in : ∀ (l : List Bool) (b : Bool) (i : Nat), ∀ t ∈ chg b i l, (i : Int) ≤ t ∧ t < i + l.length
  | [], b, i => by simp [chg]
  | x :: l, b, i => by
    have ih := chg_in l x (i + 1)
    rw [chg]
    intro t ht
    split at ht
    · rcases List.mem_cons.1 ht with rfl | ht
      · simp; omega
      · have := ih t ht
        simp; omega
    · have := ih t ht
      simp; omega
theorem chg_asc : ∀ (l : List Bool) (b : Bool) (i : Nat), (chg b i l).Pairwise (· < ·)
  | [], b, i => by simp [chg]
  | x :: l, b, i => by
    have ih := chg_asc l x (i + 1)
    rw [chg]
    split
    · refine List.pairwise_cons.2 ⟨fun t ht => ?_, ih⟩
      have := chg_in l x (i + 1) t ht
      omega
    · exact ih
theorem chg_snoc : ∀ (l : List Bool) (b : Bool) (i : Nat) (x : Bool), chg b i (l ++ [x]) = chg b i l ++ (if x != (l.getLast?.getD b) then [((i + l.length : Nat) : Int)] else [])
  | [], b, i, x => by
    simp only [List.nil_append, chg, List.getLast?_nil, Option.getD_none, List.length_nil, Nat.add_zero]
    rfl
  | y :: l, b, i, x => by
    have ih := chg_snoc l y (i + 1) x
    have e : (y :: l).getLast?.getD b = l.getLast?.getD y := by
      cases l with
      | nil => rfl
      | cons z l => simp [List.getLast?_cons]
    rw [List.cons_append, chg, chg, ih, e]
    have e2 : i + 1 + l.length = i + (y :: l).length := by simp; omega
    rw [e2]
    split <;> simp
def prevB (l : List Bool) (i : Nat) : Bool := ((l.take i).getLast?).getD false
theorem prevB_succ {l : List Bool} {i : Nat} (h : i < l.length) : prevB l (i + 1) = l[i] := by
  unfold prevB
  rw [List.take_succ_eq_append_getElem h, List.getLast?_concat]; rfl
theorem c14 (nl : Bool) (l : List Bool) (hl : l.length ≤ 4096) : calV U 14 [encS nl (bools l), .bool false] = some (.tup [encS true (ints (chg false 0 l)), .int .i64 0]) := by
  refine pure_go k14 (by kernel_rfl) (by simp [stills, still_encS, still]) ?_
  have h40 := c40 (l := encS nl (bools l)) (lenL_encS _ _) (still_encS _ _) (by rw [bools_len]; omega)
  simp +contextual only [go_sem, ↓reduceIte, r14, h40, lenL_encS, bools_len]
  refine loop_to (σ := Nat) (fun i => l.length - i) (fun i => some (AV.tup [encS true (ints (chg false 0 l)), .int .i64 0])) (fun i e s => i ≤ l.length ∧ Env.get e 15 = encS nl (bools l) ∧ Env.get e 16 = .int .i64 l.length ∧ Env.get e 17 = .int .i64 i ∧ Env.get e 1 = .bool (prevB l i) ∧ 11 ≤ s.next ∧ Fr s ∧ ∃ v, Env.get e 7 = v ∧ RowI s 11 3 1 (chg false 0 (l.take i)).length (ints (chg false 0 (l.take i))) v) 0 ?_ rfl ?_
  · rintro L i e s ⟨hi, g15, g16, g17, g1, hn, fr, v, g7, row⟩ ih
    by_cases hd : i < l.length
    · have hx := ixa_bools (nl := nl) hd
      have hw := wrap_succ hd (by omega)
      have hla := row.lenA
      have hcl := chg_len (l.take i) false 0
      rw [List.length_take] at hcl
      have hb1 : ((chg false 0 (l.take i)).length + 1) * 8 ≤ 1099511627776 := by omega
      have hb2 : (chg false 0 (l.take i)).length + 1 ≤ 1099511627776 := by omega
      have hsn := chg_snoc (l.take i) false 0 l[i]
      rw [← List.take_succ_eq_append_getElem hd] at hsn
      have hmin : min i l.length = i := by omega
      rw [List.length_take, hmin, Nat.zero_add] at hsn
      simp +contextual only [go_sem, ↓reduceIte, r14_l0, g15, g16, g17, g1, g7, nat_lt_dec, hd, hx, bin_bneq]
      have hpb : prevB l i = ((l.take i).getLast?).getD false := rfl
      rw [← hpb] at hsn
      cases hb : l[i] != prevB l i with
      | true =>
        rw [hb, if_pos rfl] at hsn
        obtain ⟨s1, e1, e2, e3, _, _, e5⟩ := row.app1 hn (.int .i64 (i : Int)) rfl
        have hint : ints (chg false 0 (l.take i)) ++ [.int .i64 (i : Int)] = ints (chg false 0 (l.take (i + 1))) := by rw [hsn, ints, ints, List.map_append]; rfl
        have hlen : (chg false 0 (l.take (i + 1))).length = (chg false 0 (l.take i)).length + 1 := by rw [hsn]; simp
        simp +contextual only [go_sem, ↓reduceIte, appK_some, Nat.reducePow, Nat.one_mul, hla, hb1, hb2, e1, g17, hw]
        refine ih (i + 1) _ _ (by omega) ⟨by omega, ?_, ?_, ?_, ?_, by omega, e5 fr, _, rfl, ?_⟩
        · simp +contextual only [go_sem, ↓reduceIte, g15]
        · simp +contextual only [go_sem, ↓reduceIte, g16]
        · simp +contextual only [go_sem, ↓reduceIte]
        · simp +contextual only [go_sem, ↓reduceIte, prevB_succ hd]
        · simp +contextual only [go_sem, ↓reduceIte]
          rw [hint, ← hlen] at e3
          rw [← hlen]; exact e3
      | false =>
        rw [hb, if_neg (by decide), List.append_nil] at hsn
        simp +contextual only [go_sem, ↓reduceIte, g17, hw]
        refine ih (i + 1) _ _ (by omega) ⟨by omega, ?_, ?_, ?_, ?_, hn, fr, v, ?_, ?_⟩
        · simp +contextual only [go_sem, ↓reduceIte, g15]
        · simp +contextual only [go_sem, ↓reduceIte, g16]
        · simp +contextual only [go_sem, ↓reduceIte]
        · simp +contextual only [go_sem, ↓reduceIte, prevB_succ hd]
        · simp +contextual only [go_sem, ↓reduceIte, g7]
        · rw [hsn]; exact row
    · have : i = l.length := by omega
      subst this
      rw [List.take_length] at row
      have hfz := fun d => row.frz_ints d
      simp +contextual only [go_sem, ↓reduceIte, r14_l0, g15, g16, g17, g7, nat_lt_dec, Nat.lt_irrefl, hfz]
  · refine ⟨Nat.zero_le _, ?_, ?_, ?_, ?_, ?_, ?_, .nils, ?_, RowI.nil _ _ _ _⟩
    case refine_6 => exact Fr.own
    all_goals simp +contextual only [go_sem, ↓reduceIte]
    all_goals rfl
/-! # A line of its changes -/
theorem opA_mksB {ex : Ex} {a : Nat} {e : Env} {s : St} {n : Nat} (h : Env.get e a = .int .i64 (n : Int)) (hn : n ≤ 2 ^ 20) :
    opA U ex e (.makeSlice 35 (.tmp a) (.tmp a)) s = some (.sl s.next 0 n (some n) 1, s.new (.cells (List.replicate n (.bool false)) 4 false 0 0)) := by
  have h40 : U.und 35 = some (.slice 4) := by kernel_rfl
  have hz : zero U 4 = some (.bool false) := by kernel_rfl
  have hi : (U.inf 4).map (fun i => (i.bytes, i.size)) = some (1, 1) := by kernel_rfl
  cases hj : U.inf 4 with
  | none => rw [hj] at hi; cases hi
  | some j =>
    rw [hj] at hi
    simp only [Option.map_some, Option.some.injEq, Prod.mk.injEq] at hi
    obtain ⟨h1, h2⟩ := hi
    rw [← repeatL_one]
    simp only [opA, eval, h, h40, hj, hz]
    rw [if_pos ⟨by omega, by omega, by rw [h1]; omega, by omega, by rw [h2]; rfl, by omega⟩, h2]
    rfl
theorem bools_set (l : List Bool) (i : Nat) (x : Bool) : (bools l).set i (.bool x) = bools (l.set i x) := by rw [bools, bools, List.map_set]
theorem frz_slB {s : St} {b d : Nat} {cap : Option Nat} {l : List Bool} (hg : s.get b = some (.cells (bools l) 4 false 0 0)) : frz U s (d + 2) (.sl b 0 l.length cap 1) = some (.fz (bools l)) := by
  have e : l.length = (bools l).length := (bools_len l).symm
  rw [frz_sl, hg, frzS_cells, Nat.mul_one, e, grab_all, ag_4, sz_4, frzT_one, if_pos (noAgg_bools l), chunks_all, frz_bools, fzK_some]
theorem pair_lt {T : List Int} (h : T.Pairwise (· < ·)) {i : Nat} (hi : i + 1 < T.length) : T[i] < T[i + 1] := List.pairwise_iff_getElem.1 h i (i + 1) (by omega) hi (by omega)
theorem slr1 {nl : Bool} {x : Int} {l : List Int} : slRL 1 (encS nl (ints (x :: l))) (some (.int .i64 1)) none = some (encS false (ints l)) := by
  have : encS nl (ints (x :: l)) = .fz (.int .i64 x :: ints l) := encS_cons ..
  rw [this, encS_fz]
  have hall : (AV.int .i64 x :: ints l).all (fun x => x.cells.length == 1) = true := by
    rw [List.all_eq_true]; intro y hy
    rcases List.mem_cons.1 hy with rfl | hy
    · rfl
    · obtain ⟨z, _, rfl⟩ := List.mem_map.1 hy; rfl
  simp only [slRL, boundA, List.length_cons]
  rw [if_pos (by omega)]
  simp only [hall, if_true]
  simp
theorem c15 (nt : Bool) (l : List Bool) (hl : l.length ≤ 4096) : calV U 15 [encS nt (ints (chg false 0 l)), .bool false, .int .i64 l.length] = some (.tup [.fz (bools l), .int .i64 0]) := by
  refine pure_go k15 (by kernel_rfl) (by simp [stills, still_encS, still]) ?_
  have st1 : ∀ b o n c z, stills [.sl b o n c z] = false := fun b o n c z => by simp [stills, still]
  obtain ⟨T, hT⟩ : ∃ T, T = chg false 0 l := ⟨_, rfl⟩
  have hlen := chg_len l false 0
  have hin := chg_in l false 0
  have hasc := chg_asc l false 0
  rw [← hT] at hlen hin hasc ⊢
  have h41 := c41 (l := encS nt (ints T)) (lenL_encS _ _) (still_encS _ _) (by rw [ints_len]; omega)
  have h25 := c25_in (n := l.length) (a := 0) (b := 4096) ⟨by omega, by omega⟩
  simp +contextual only [go_sem, ↓reduceIte, r15, h41, h25, lenL_encS, ints_len, z22 (st1 _ _ _ _ _), cz22_2]
  refine loop_to (σ := Nat) (fun i => T.length - i) (fun i => some (AV.tup [.fz (bools l), .int .i64 0])) (fun i e s => i ≤ T.length ∧ Env.get e 0 = encS nt (ints T) ∧ Env.get e 1 = .bool false ∧ Env.get e 2 = .int .i64 l.length ∧ Env.get e 23 = encS nt (ints T) ∧ Env.get e 24 = .int .i64 T.length ∧ Env.get e 25 = .int .i64 i) 0 ?_ rfl ?_
  · rintro L i e s ⟨hi, g0, g1, g2, g23, g24, g25⟩ ih
    by_cases hd : i < T.length
    · have hx := ixa_ints (nl := nt) hd
      have hw := wrap_succ hd (by omega)
      have hti := hin _ (List.getElem_mem hd)
      have hw1 : IntKind.i64.wrap ((l.length : Int) - 1) = (l.length : Int) - 1 := by rw [wrap_i64] <;> omega
      have hc := c25_in (n := T[i]) (a := 0) (b := (l.length : Int) - 1) ⟨by omega, by omega⟩
      rcases Nat.eq_zero_or_pos i with h0 | hp
      · have hpi : ((0 : Int) < (i : Int)) = False := by simp; omega
        simp +contextual only [go_sem, ↓reduceIte, r15_l0, g0, g2, g23, g24, g25, nat_lt_dec, hd, hx, hw1, hc, gt_iff_lt, hpi, c23, z22 (st1 _ _ _ _ _), cz22_2, hw, gateV_false, gateC_false, gateR_false]
        refine ih (i + 1) _ _ (by omega) ⟨by omega, ?_, ?_, ?_, ?_, ?_, ?_⟩ <;> simp +contextual only [go_sem, ↓reduceIte, g0, g1, g2, g23, g24, hw]
      · have hpi : ((0 : Int) < (i : Int)) = True := by simp; omega
        have hm : max (0 : Int) (IntKind.i64.wrap ((i : Int) - 1)) = ((i - 1 : Nat) : Int) := by rw [wrap_i64] <;> omega
        have hx1 := ixa_ints (nl := nt) (l := T) (i := i - 1) (by omega)
        have hlt : T[i - 1]'(by omega) < T[i] := by
          have := pair_lt hasc (i := i - 1) (by omega)
          simpa [show i - 1 + 1 = i by omega] using this
        have hle : decide (T[i] ≤ T[i - 1]'(by omega)) = false := decide_eq_false (by omega)
        simp +contextual only [go_sem, ↓reduceIte, r15_l0, g0, g2, g23, g24, g25, nat_lt_dec, hd, hx, hw1, hc, gt_iff_lt, hpi, hm, hx1, hle, c23, z22 (st1 _ _ _ _ _), cz22_2, hw, gateV_true, gateC_true, gateR_true]
        refine ih (i + 1) _ _ (by omega) ⟨by omega, ?_, ?_, ?_, ?_, ?_, ?_⟩ <;> simp +contextual only [go_sem, ↓reduceIte, g0, g1, g2, g23, g24, hw]
    · have : i = T.length := by omega
      subst this
      have hmk := fun (e : Env) (s : St) (h : Env.get e 53 = .int .i64 l.length) => opA_mksB (ex := execL U) (s := s) h (by omega)
      simp +contextual only [go_sem, ↓reduceIte, r15_l0, g0, g1, g2, g23, g24, g25, nat_lt_dec, Nat.lt_irrefl, hmk]
      refine loop_to (σ := Nat) (fun i => l.length - i) (fun i => some (AV.tup [.fz (bools l), .int .i64 0])) (fun i e' s' => i ≤ l.length ∧ (∃ nt', Env.get e' 0 = encS nt' (ints (chg (prevB l i) i (l.drop i)))) ∧ Env.get e' 1 = .bool (prevB l i) ∧ Env.get e' 12 = .sl s.next 0 l.length (some l.length) 1 ∧ Env.get e' 55 = .int .i64 l.length ∧ Env.get e' 56 = .int .i64 i ∧ s'.get s.next = some (.cells (bools (part l false l.length i)) 4 false 0 0)) 0 ?_ rfl ?_
      · rintro L i e' s' ⟨hi, ⟨nt', q0⟩, q1, q12, q55, q56, qb⟩ ih
        by_cases hd : i < l.length
        · have hw := wrap_succ hd (by omega)
          have hps := prevB_succ hd
          rw [List.drop_eq_getElem_cons hd, chg] at q0
          have hly : ∀ x, x = l[i] → lay i [.bool x] (bools (part l false l.length i)) = some (bools (part l false l.length (i + 1))) := by
            rintro x rfl
            rw [lay_set _ _ _ (by rw [bools_len, part_len _ _ rfl hi]; exact hd), bools_set, part_set _ _ rfl hd]
          cases hb : l[i] != prevB l i with
          | true =>
            rw [hb, if_pos rfl] at q0
            have hnb : (!prevB l i) = l[i] := by
              revert hb; cases l[i] <;> cases prevB l i <;> simp
            have hlp : ((0 : Int) < (((chg l[i] (i + 1) (l.drop (i + 1))).length + 1 : Nat) : Int)) = True := by simp
            have hx0 : ixRA 1 (encS nt' (ints ((i : Int) :: chg l[i] (i + 1) (l.drop (i + 1))))) (.int .i64 0) = some (.fp [.int .i64 (i : Int)] 0) := ixa_ints (nl := nt') (l := (i : Int) :: chg l[i] (i + 1) (l.drop (i + 1))) (i := 0) (by simp)
            have hly' := hly _ hnb
            simp +contextual only [go_sem, ↓reduceIte, r15_l1, q0, q1, q12, q55, q56, nat_lt_dec, hd, lenL_encS, ints_len, List.length_cons, gt_iff_lt, hlp, hx0, beq_self_eq_true, slr1, qb, hly', hw, Nat.mul_one, gateV_true, gateC_true, gateR_true]
            refine ih (i + 1) _ _ (by omega) ⟨by omega, ⟨false, ?_⟩, ?_, ?_, ?_, ?_, ?_⟩
            · simp +contextual only [go_sem, ↓reduceIte]
              rw [hps]
            · simp +contextual only [go_sem, ↓reduceIte, hnb, hps]
            · simp +contextual only [go_sem, ↓reduceIte, q12]
            · simp +contextual only [go_sem, ↓reduceIte, q55]
            · simp +contextual only [go_sem, ↓reduceIte, hw]
            · rw [get_put, if_pos rfl]
          | false =>
            rw [hb, if_neg (by decide)] at q0
            have hnb : prevB l i = l[i] := by
              revert hb; cases l[i] <;> cases prevB l i <;> simp
            have hly' := hly _ hnb
            have hq : ∃ p : Bool, p = false ∧ (∀ (X : List Int), X = chg l[i] (i + 1) (l.drop (i + 1)) → (X = [] ∨ ∃ y X', X = y :: X' ∧ ((y == (i : Int)) = false))) := ⟨false, rfl, by
              rintro X rfl
              cases hX : chg l[i] (i + 1) (l.drop (i + 1)) with
              | nil => exact .inl rfl
              | cons y X' =>
                refine .inr ⟨y, X', rfl, ?_⟩
                have := chg_in (l.drop (i + 1)) l[i] (i + 1) y (by rw [hX]; exact List.mem_cons_self ..)
                rw [beq_eq_false_iff_ne]
                omega⟩
            obtain ⟨_, _, hq⟩ := hq
            have fin : ∀ e2 s2, (∃ nt', Env.get e2 0 = encS nt' (ints (chg l[i] (i + 1) (l.drop (i + 1))))) → Env.get e2 1 = .bool (prevB l i) → Env.get e2 12 = .sl s.next 0 l.length (some l.length) 1 → Env.get e2 55 = .int .i64 l.length → Env.get e2 56 = .int .i64 ((i + 1 : Nat) : Int) → s2.get s.next = some (.cells (bools (part l false l.length (i + 1))) 4 false 0 0) →
                goL U (finP U [.tmp 6, .tmp 7]) [.bk 2, .sq (.seq (.ops [⟨some 78, none, none, false, .mov (.t 12)⟩, ⟨some 6, none, none, false, .mov (.t 78)⟩, ⟨some 7, none, none, false, .mov (.v (.int .i64 0))⟩]) .ret)] L e2 s2 = some (AV.tup [.fz (bools l), .int .i64 0]) := by
              intro e2 s2 p0 p1 p12 p55 p56 pb
              refine ih (i + 1) _ _ (by omega) ⟨by omega, ?_, ?_, p12, p55, p56, pb⟩
              · obtain ⟨n2, p0⟩ := p0
                exact ⟨n2, by rw [hps]; exact p0⟩
              · rw [hps, ← hnb]; exact p1
            rcases hq _ rfl with hX | ⟨y, X', hX, hy⟩
            · rw [hX] at q0 fin
              have hl0 : encS nt' (ints []) = encS nt' [] := rfl
              rw [hl0] at q0
              have hlp : ((0 : Int) < (([] : List AV).length : Int)) = False := by simp
              simp +contextual only [go_sem, ↓reduceIte, r15_l1, q0, q1, q12, q55, q56, nat_lt_dec, hd, lenL_encS, gt_iff_lt, hlp, qb, hly', hw, Nat.mul_one, gateV_false, gateC_false, gateR_false, Int.natCast_zero, Int.lt_irrefl]
              refine fin _ _ ⟨nt', ?_⟩ ?_ ?_ ?_ ?_ ?_
              · simp +contextual only [go_sem, ↓reduceIte, q0]; rfl
              · simp +contextual only [go_sem, ↓reduceIte, q1]
              · simp +contextual only [go_sem, ↓reduceIte, q12]
              · simp +contextual only [go_sem, ↓reduceIte, q55]
              · simp +contextual only [go_sem, ↓reduceIte, hw]
              · rw [get_put, if_pos rfl]
            · rw [hX] at q0 fin
              have hlp : ((0 : Int) < ((X'.length + 1 : Nat) : Int)) = True := by simp
              have hx0 : ixRA 1 (encS nt' (ints (y :: X'))) (.int .i64 0) = some (.fp [.int .i64 y] 0) := ixa_ints (nl := nt') (l := y :: X') (i := 0) (by simp)
              simp +contextual only [go_sem, ↓reduceIte, r15_l1, q0, q1, q12, q55, q56, nat_lt_dec, hd, lenL_encS, ints_len, List.length_cons, gt_iff_lt, hlp, hx0, hy, qb, hly', hw, Nat.mul_one, gateV_true, gateC_true, gateR_true]
              refine fin _ _ ⟨nt', ?_⟩ ?_ ?_ ?_ ?_ ?_
              · simp +contextual only [go_sem, ↓reduceIte, q0]
              · simp +contextual only [go_sem, ↓reduceIte, q1]
              · simp +contextual only [go_sem, ↓reduceIte, q12]
              · simp +contextual only [go_sem, ↓reduceIte, q55]
              · simp +contextual only [go_sem, ↓reduceIte, hw]
              · rw [get_put, if_pos rfl]
        · have : i = l.length := by omega
          subst this
          rw [part_full _ _ rfl] at qb
          have hfz := fun d => frz_slB (d := d) (cap := some l.length) qb
          simp +contextual only [go_sem, ↓reduceIte, r15_l1, q12, q55, q56, nat_lt_dec, Nat.lt_irrefl, ↓hfz]
      · have hp0 : prevB l 0 = false := rfl
        refine ⟨Nat.zero_le _, ⟨nt, ?_⟩, ?_, ?_, ?_, ?_, ?_⟩
        · simp +contextual only [go_sem, ↓reduceIte, g0]
          rw [hp0, hT]
        · simp +contextual only [go_sem, ↓reduceIte, g1, hp0]
        · simp +contextual only [go_sem, ↓reduceIte]
        · simp +contextual only [go_sem, ↓reduceIte, g2]
        · simp +contextual only [go_sem, ↓reduceIte]; rfl
        · rw [get_new, if_pos rfl, part_none]
          simp [bools]
  · refine ⟨Nat.zero_le _, ?_, ?_, ?_, ?_, ?_, ?_⟩ <;> simp +contextual only [go_sem, ↓reduceIte] <;> rfl
/-! # Lists mapped by a function that is handed over -/
/-- what the function does with each element; J: what stands then -/
structure MapSp (F : AV) (n : Nat) (xs ys : Nat → AV) (J : Nat → St → Prop) (B : Nat) : Prop where
  step : ∀ i s, i < n → J i s → B ≤ s.next → Fr s → ∃ s', calv U F [xs i] s = some (ys i, s') ∧ J (i + 1) s' ∧ s'.next = s.next ∧ (∀ j, B ≤ j → s'.get j = s.get j) ∧ Fr s'
  keep : ∀ i s s', J i s → s.next ≤ s'.next → (∀ j, j < B → s'.get j = s.get j) → J i s'
  cells : ∀ i, (ys i).cells = [ys i]
  plain : ∀ i, noAgg (ys i) = true
def upTo (f : Nat → AV) (n : Nat) : List AV := (List.range n).map f
theorem upTo_succ (f : Nat → AV) (n : Nat) : upTo f (n + 1) = upTo f n ++ [f n] := by
  unfold upTo; rw [List.range_succ, List.map_append]; rfl
theorem c26 {A F : AV} {n : Nat} {xs ys : Nat → AV} {J : Nat → St → Prop} {s : St} (hl : lenRL A = some (.int .i64 n)) (hx : ∀ i : Nat, i < n → ixRA 1 A (.int .i64 (i : Int)) = some (.fp [xs i] 0)) (M : MapSp F n xs ys J s.next) (hJ : J 0 s) (fr : Fr s) (hn : n ≤ 4096) :
    ∃ v s', cal U 26 [A, F] s = some (v, s') ∧ RowI s' s.next 24 1 n (upTo ys n) v ∧ J n s' ∧ Fr s' ∧ s.next ≤ s'.next := by
  refine kept_ex k26 (by kernel_rfl) (Q := fun v s' => RowI s' s.next 24 1 n (upTo ys n) v ∧ J n s' ∧ Fr s' ∧ s.next ≤ s'.next) ?_
  simp +contextual only [go_sem, ↓reduceIte, r26, hl]
  refine loop_ex (Post := okQ _) (σ := Nat) (fun i => n - i) (fun i e' s' => i ≤ n ∧ Env.get e' 1 = F ∧ Env.get e' 8 = A ∧ Env.get e' 9 = .int .i64 n ∧ Env.get e' 10 = .int .i64 (i : Nat) ∧ s.next ≤ s'.next ∧ Fr s' ∧ J i s' ∧ ∃ v, Env.get e' 5 = v ∧ RowI s' s.next 24 1 i (upTo ys i) v) 0 ?_ ?_
  · rintro L i e' s' ⟨hi, g1, g8, g9, g10, hB, fr', hJ', v, g5, row⟩ ih
    by_cases hd : i < n
    · have hx := hx i hd
      have hw := wrap_succ hd (by omega)
      obtain ⟨s1, p1, p2, p3, p4, p5⟩ := M.step i s' hd hJ' hB fr'
      have row1 : RowI s1 s.next 24 1 i (upTo ys i) v := row.mono (by omega) fun j h1 _ => p4 j h1
      have hla := row1.lenA
      have hb1 : (i + 1) * 4 ≤ 1099511627776 := by omega
      have hb2 : i + 1 ≤ 1099511627776 := by omega
      obtain ⟨s2, e1, e2, e3, e4, _, e5⟩ := row1.app1 (by omega) (ys i) (M.plain i)
      have hyc := M.cells i
      have hyp := M.plain i
      simp +contextual only [go_sem, ↓reduceIte, r26_l0, g1, g8, g9, g10, g5, nat_lt_dec, hd, hx, p1, hyc, hyp, appK_some, Nat.reducePow, Nat.one_mul, hla, hb1, hb2, e1, hw]
      refine ih (i + 1) _ _ (by omega) ⟨by omega, ?_, ?_, ?_, ?_, by omega, e5 p5, M.keep _ _ _ p2 (by omega) e4, _, rfl, ?_⟩
      · simp +contextual only [go_sem, ↓reduceIte, g1]
      · simp +contextual only [go_sem, ↓reduceIte, g8]
      · simp +contextual only [go_sem, ↓reduceIte, g9]
      · simp +contextual only [go_sem, ↓reduceIte]
      · simp +contextual only [go_sem, ↓reduceIte]
        rw [upTo_succ]; exact e3
    · have : i = n := by omega
      subst this
      simp +contextual only [go_sem, ↓reduceIte, r26_l0, g1, g8, g9, g10, g5, nat_lt_dec, Nat.lt_irrefl, okQ_some]
      exact ⟨row, hJ', fr', hB⟩
  · refine ⟨Nat.zero_le _, ?_, ?_, ?_, ?_, Nat.le_refl _, fr, hJ, .nils, ?_, RowI.nil _ _ _ _⟩
    all_goals simp +contextual only [go_sem, ↓reduceIte]
    all_goals rfl
theorem c29 {A F : AV} {n : Nat} {xs ys : Nat → AV} {J : Nat → St → Prop} {s : St} (hl : lenRL A = some (.int .i64 n)) (hx : ∀ i : Nat, i < n → ixRA 1 A (.int .i64 (i : Int)) = some (.fp [xs i] 0)) (M : MapSp F n xs ys J s.next) (hJ : J 0 s) (fr : Fr s) (hn : n ≤ 4096) :
    ∃ v s', cal U 29 [A, F] s = some (v, s') ∧ RowI s' s.next 4 1 n (upTo ys n) v ∧ J n s' ∧ Fr s' ∧ s.next ≤ s'.next := by
  refine kept_ex k29 (by kernel_rfl) (Q := fun v s' => RowI s' s.next 4 1 n (upTo ys n) v ∧ J n s' ∧ Fr s' ∧ s.next ≤ s'.next) ?_
  simp +contextual only [go_sem, ↓reduceIte, r29, hl]
  refine loop_ex (Post := okQ _) (σ := Nat) (fun i => n - i) (fun i e' s' => i ≤ n ∧ Env.get e' 1 = F ∧ Env.get e' 8 = A ∧ Env.get e' 9 = .int .i64 n ∧ Env.get e' 10 = .int .i64 (i : Nat) ∧ s.next ≤ s'.next ∧ Fr s' ∧ J i s' ∧ ∃ v, Env.get e' 5 = v ∧ RowI s' s.next 4 1 i (upTo ys i) v) 0 ?_ ?_
  · rintro L i e' s' ⟨hi, g1, g8, g9, g10, hB, fr', hJ', v, g5, row⟩ ih
    by_cases hd : i < n
    · have hx := hx i hd
      have hw := wrap_succ hd (by omega)
      obtain ⟨s1, p1, p2, p3, p4, p5⟩ := M.step i s' hd hJ' hB fr'
      have row1 : RowI s1 s.next 4 1 i (upTo ys i) v := row.mono (by omega) fun j h1 _ => p4 j h1
      have hla := row1.lenA
      have hb1 : (i + 1) * 1 ≤ 1099511627776 := by omega
      have hb2 : i + 1 ≤ 1099511627776 := by omega
      obtain ⟨s2, e1, e2, e3, e4, _, e5⟩ := row1.app1 (by omega) (ys i) (M.plain i)
      have hyc := M.cells i
      have hyp := M.plain i
      simp +contextual only [go_sem, ↓reduceIte, r29_l0, g1, g8, g9, g10, g5, nat_lt_dec, hd, hx, p1, hyc, hyp, appK_some, Nat.reducePow, Nat.one_mul, hla, hb1, hb2, e1, hw]
      refine ih (i + 1) _ _ (by omega) ⟨by omega, ?_, ?_, ?_, ?_, by omega, e5 p5, M.keep _ _ _ p2 (by omega) e4, _, rfl, ?_⟩
      · simp +contextual only [go_sem, ↓reduceIte, g1]
      · simp +contextual only [go_sem, ↓reduceIte, g8]
      · simp +contextual only [go_sem, ↓reduceIte, g9]
      · simp +contextual only [go_sem, ↓reduceIte]
      · simp +contextual only [go_sem, ↓reduceIte]
        rw [upTo_succ]; exact e3
    · have : i = n := by omega
      subst this
      simp +contextual only [go_sem, ↓reduceIte, r29_l0, g1, g8, g9, g10, g5, nat_lt_dec, Nat.lt_irrefl, okQ_some]
      exact ⟨row, hJ', fr', hB⟩
  · refine ⟨Nat.zero_le _, ?_, ?_, ?_, ?_, Nat.le_refl _, fr, hJ, .nils, ?_, RowI.nil _ _ _ _⟩
    all_goals simp +contextual only [go_sem, ↓reduceIte]
    all_goals rfl
theorem c38 {A F : AV} {n : Nat} {xs ys : Nat → AV} {J : Nat → St → Prop} {s : St} (hl : lenRL A = some (.int .i64 n)) (hx : ∀ i : Nat, i < n → ixRA 1 A (.int .i64 (i : Int)) = some (.fp [xs i] 0)) (M : MapSp F n xs ys J s.next) (hJ : J 0 s) (fr : Fr s) (hn : n ≤ 4096) :
    ∃ v s', cal U 38 [A, F] s = some (v, s') ∧ RowI s' s.next 4 1 n (upTo ys n) v ∧ J n s' ∧ Fr s' ∧ s.next ≤ s'.next := by
  refine kept_ex k38 (by kernel_rfl) (Q := fun v s' => RowI s' s.next 4 1 n (upTo ys n) v ∧ J n s' ∧ Fr s' ∧ s.next ≤ s'.next) ?_
  simp +contextual only [go_sem, ↓reduceIte, r38, hl]
  refine loop_ex (Post := okQ _) (σ := Nat) (fun i => n - i) (fun i e' s' => i ≤ n ∧ Env.get e' 1 = F ∧ Env.get e' 8 = A ∧ Env.get e' 9 = .int .i64 n ∧ Env.get e' 10 = .int .i64 (i : Nat) ∧ s.next ≤ s'.next ∧ Fr s' ∧ J i s' ∧ ∃ v, Env.get e' 5 = v ∧ RowI s' s.next 4 1 i (upTo ys i) v) 0 ?_ ?_
  · rintro L i e' s' ⟨hi, g1, g8, g9, g10, hB, fr', hJ', v, g5, row⟩ ih
    by_cases hd : i < n
    · have hx := hx i hd
      have hw := wrap_succ hd (by omega)
      obtain ⟨s1, p1, p2, p3, p4, p5⟩ := M.step i s' hd hJ' hB fr'
      have row1 : RowI s1 s.next 4 1 i (upTo ys i) v := row.mono (by omega) fun j h1 _ => p4 j h1
      have hla := row1.lenA
      have hb1 : (i + 1) * 1 ≤ 1099511627776 := by omega
      have hb2 : i + 1 ≤ 1099511627776 := by omega
      obtain ⟨s2, e1, e2, e3, e4, _, e5⟩ := row1.app1 (by omega) (ys i) (M.plain i)
      have hyc := M.cells i
      have hyp := M.plain i
      simp +contextual only [go_sem, ↓reduceIte, r38_l0, g1, g8, g9, g10, g5, nat_lt_dec, hd, hx, p1, hyc, hyp, appK_some, Nat.reducePow, Nat.one_mul, hla, hb1, hb2, e1, hw]
      refine ih (i + 1) _ _ (by omega) ⟨by omega, ?_, ?_, ?_, ?_, by omega, e5 p5, M.keep _ _ _ p2 (by omega) e4, _, rfl, ?_⟩
      · simp +contextual only [go_sem, ↓reduceIte, g1]
      · simp +contextual only [go_sem, ↓reduceIte, g8]
      · simp +contextual only [go_sem, ↓reduceIte, g9]
      · simp +contextual only [go_sem, ↓reduceIte]
      · simp +contextual only [go_sem, ↓reduceIte]
        rw [upTo_succ]; exact e3
    · have : i = n := by omega
      subst this
      simp +contextual only [go_sem, ↓reduceIte, r38_l0, g1, g8, g9, g10, g5, nat_lt_dec, Nat.lt_irrefl, okQ_some]
      exact ⟨row, hJ', fr', hB⟩
  · refine ⟨Nat.zero_le _, ?_, ?_, ?_, ?_, Nat.le_refl _, fr, hJ, .nils, ?_, RowI.nil _ _ _ _⟩
    all_goals simp +contextual only [go_sem, ↓reduceIte]
    all_goals rfl
/-! # A line of words -/
theorem bin_shr16 (c : Bool) (w n : Nat) (hn : n ≤ 15) : binA U .shr 63 c (.int .u16 (w : Nat)) (.int .i64 (n : Nat)) = some (.int .u16 ((w / 2 ^ n : Nat) : Int)) := by
  have h0 : ¬ ((n : Int) < 0) := by omega
  have hm : min (n : Int).toNat IntKind.u16.bits = n := by
    have : IntKind.u16.bits = 16 := rfl
    rw [this]; omega
  simp only [binA, shiftA, h0, if_false, hm]
  have e : ((w : Nat) : Int).fdiv (2 ^ n) = ((w / 2 ^ n : Nat) : Int) := by
    rw [Int.fdiv_eq_ediv_of_nonneg _ (Int.pow_nonneg (by omega)), Int.natCast_ediv, Int.natCast_pow]; rfl
  rw [e]
theorem bin_and1 (c : Bool) (a : Nat) (ha : a < 2 ^ 16) : binA U .and 63 c (.int .u16 (a : Nat)) (.int .u16 1) = some (.int .u16 ((a % 2 : Nat) : Int)) := by
  have h : (BitVec.ofInt IntKind.u16.bits (a : Int) &&& BitVec.ofInt IntKind.u16.bits 1).toNat = a % 2 := by
    refine (BitVec.toNat_and (v := 16) (BitVec.ofInt 16 a) (BitVec.ofInt 16 1)).trans ?_
    have e1 : BitVec.ofInt 16 (a : Int) = BitVec.ofNat 16 a := BitVec.ofInt_natCast ..
    have e2 : BitVec.ofInt 16 1 = BitVec.ofNat 16 1 := rfl
    rw [e1, e2, BitVec.toNat_ofNat, BitVec.toNat_ofNat, Nat.mod_eq_of_lt ha]
    exact Nat.and_one_is_mod a
  have hw : IntKind.u16.wrap ((a % 2 : Nat) : Int) = ((a % 2 : Nat) : Int) := by
    have : a % 2 < 2 := Nat.mod_lt _ (by omega)
    rcases (show a % 2 = 0 ∨ a % 2 = 1 by omega) with h | h <;> rw [h] <;> rfl
  simp only [binA, intA, if_true, h, hw]
def bitW (n w : Nat) : Bool := w / 2 ^ n % 2 == 1
theorem c39 {w n b : Nat} {s : St} (hw : w < 2 ^ 16) (hn : n ≤ 15) (hs : s.get b = some (.cells [.int .i64 (n : Nat)] 3 false 0 0)) : cal U 39 [.int .u16 (w : Nat), .ptr b 0] s = some (.bool (bitW n w), s) := by
  refine kept_go k39 (by kernel_rfl) ?_
  have h1 := bin_shr16 false w n hn
  have h2 := bin_and1 true (w / 2 ^ n) (Nat.lt_of_le_of_lt (Nat.div_le_self _ _) hw)
  have h3 : ((((w / 2 ^ n % 2 : Nat) : Int)) == 1) = bitW n w := by
    unfold bitW
    rw [Bool.eq_iff_iff, beq_iff_eq, beq_iff_eq]; omega
  simp +contextual only [go_sem, ↓reduceIte, r39, hs, h1, h2, h3]
theorem calv_kept {g : FuncId} {cap args : List AV} {s : St} : calv U (.fn (.func g) [] cap) args s = cal U g (args ++ cap) s := by
  rw [calv_fn, List.nil_append, ck]
theorem upTo_bools (f : Nat → Bool) (n : Nat) : upTo (fun i => .bool (f i)) n = bools ((List.range n).map f) := by
  unfold upTo bools; rw [List.map_map]; rfl
theorem range_getD {A : Type} (l : List A) (d : A) : (List.range l.length).map (fun i => l.getD i d) = l := by
  refine List.ext_getElem (by simp) fun i h1 h2 => ?_
  simp [List.getD_eq_getElem?_getD, List.getElem?_eq_getElem h2]
theorem range_map {A C : Type} (l : List A) (d : A) (f : A → C) : (List.range l.length).map (fun i => f (l.getD i d)) = l.map f := by
  have := congrArg (List.map f) (range_getD l d)
  rw [List.map_map] at this
  exact this
theorem c13 (nw : Bool) (W : List Nat) (n : Nat) (hW : ∀ w ∈ W, w < 2 ^ 16) (hl : W.length ≤ 4096) (hn : n ≤ 15) : calV U 13 [encS nw (words W), .int .i64 (n : Nat)] = some (.tup [encS true (bools (W.map (bitW n))), .int .i64 0]) := by
  refine pure_go k13 (by kernel_rfl) (by simp [stills, still_encS, still]) ?_
  have st1 : ∀ b o n c z, stills [.sl b o n c z] = false := fun b o n c z => by simp [stills, still]
  have h34 := c34 (l := encS nw (words W)) (lenL_encS _ _) (still_encS _ _) (by rw [words_len]; omega)
  have h25 := c25_in (n := n) (a := 0) (b := 15) ⟨by omega, by omega⟩
  have hown := own_next U
  simp +contextual only [go_sem, ↓reduceIte, r13, h34, h25, z22 (st1 _ _ _ _ _), cz22_2, Option.isNone_none, ck]
  generalize hS : ((((ownSt U).new (Blk.cells [AV.int .i64 (n : Nat)] 3 false 0 0)).upto 19).put 16 (Blk.cells [AV.int .i64 0, AV.int .i64 0] 31 false 0 0)) = S
  have hg : S.get 11 = some (.cells [.int .i64 (n : Nat)] 3 false 0 0) := by rw [← hS]; simp +contextual only [go_sem, ↓reduceIte]
  have hN : S.next = 19 := by rw [← hS]; rfl
  have hF : Fr S := by
    rw [← hS]
    exact (((Fr.own.new _).upto (by rw [next_new, own_next, U_glob]; omega)).put (by rw [upto_next]; omega) _)
  obtain ⟨v, s', q1, q2, _, _, _⟩ := c38 (A := encS nw (words W)) (F := .fn (.func 39) [] [.ptr 11 0]) (n := W.length) (xs := fun i => .int .u16 ((W.getD i 0 : Nat) : Int)) (ys := fun i => .bool (bitW n (W.getD i 0))) (J := fun _ s => s.get 11 = some (.cells [.int .i64 (n : Nat)] 3 false 0 0))
    (by rw [lenL_encS, words_len]) (fun i hi => by
      rw [ixa_words hi, List.getD_eq_getElem?_getD, List.getElem?_eq_getElem hi]; rfl)
    ⟨fun i s hi hJ hB fr => ⟨s, by
      rw [calv_kept]
      refine c39 ?_ hn hJ
      rw [List.getD_eq_getElem?_getD, List.getElem?_eq_getElem hi]
      exact hW _ (List.getElem_mem hi), hJ, rfl, fun _ _ => rfl, fr⟩, fun i s s' hJ _ h => by rw [h 11 (by omega)]; exact hJ, fun _ => rfl, fun _ => rfl⟩ hg hF hl
  rw [upTo_bools (fun i => bitW n (W.getD i 0)), range_map] at q2
  have q2 : RowI s' S.next 4 1 (W.map (bitW n)).length (bools (W.map (bitW n))) v := by rw [List.length_map]; exact q2
  have hfz := fun d => q2.frz_bools d
  simp +contextual only [go_sem, ↓reduceIte, q1, hfz]
/-! # Digital -/
def stepF (lo hi : Nat) (v : Bool) (f : Nat) : Bool := bif geF f hi then true else bif leF f lo then false else v
def vAt (lo hi : Nat) (l : List Nat) (i : Nat) : Bool := (l.take i).foldl (stepF lo hi) false
def dig (lo hi : Nat) (l : List Nat) : List Bool := (List.range l.length).map fun i => vAt lo hi l (i + 1)
theorem vAt_succ {lo hi : Nat} {l : List Nat} {i : Nat} (h : i < l.length) : vAt lo hi l (i + 1) = stepF lo hi (vAt lo hi l i) l[i] := by
  unfold vAt
  rw [List.take_succ_eq_append_getElem h, List.foldl_append]; rfl
theorem dig_len (lo hi : Nat) (l : List Nat) : (dig lo hi l).length = l.length := by simp [dig]
theorem c60 {f lo hi b1 b2 : Nat} {v : Bool} {s : St} (h1 : s.get b1 = some (.cells [.flt .f32 lo, .flt .f32 hi] 38 false 0 0)) (h2 : s.get b2 = some (.cells [.bool v] 4 false 0 0)) (hne : b1 ≠ b2) (l1 : b1 < s.next) (l2 : b2 < s.next) (fr : Fr s) :
    ∃ s', cal U 60 [.flt .f32 f, .ptr b1 0, .ptr b2 0] s = some (.bool (stepF lo hi v f), s') ∧ s'.get b2 = some (.cells [.bool (stepF lo hi v f)] 4 false 0 0) ∧ s'.next = s.next ∧ (∀ j, j ≠ b2 → s'.get j = s.get j) ∧ Fr s' := by
  unfold stepF
  cases hg : geF f hi with
  | true =>
    refine ⟨s.put b2 (.cells [.bool true] 4 false 0 0), kept_go k60 (by kernel_rfl) ?_, by rw [get_put, if_pos rfl]; rfl, rfl, fun j hj => by rw [get_put, if_neg (fun e => hj e.symm)], fr.put l2 _⟩
    simp +contextual only [go_sem, ↓reduceIte, r60, h1, h2, hg]
  | false =>
    cases hl : leF f lo with
    | true =>
      refine ⟨s.put b2 (.cells [.bool false] 4 false 0 0), kept_go k60 (by kernel_rfl) ?_, by rw [get_put, if_pos rfl]; rfl, rfl, fun j hj => by rw [get_put, if_neg (fun e => hj e.symm)], fr.put l2 _⟩
      simp +contextual only [go_sem, ↓reduceIte, r60, h1, h2, hg, hl]
    | false =>
      refine ⟨s, kept_go k60 (by kernel_rfl) ?_, h2, rfl, fun j _ => rfl, fr⟩
      simp +contextual only [go_sem, ↓reduceIte, r60, h1, h2, hg, hl]
theorem c30 {lo hi : Nat} {v : Bool} {s : St} : cal U 30 [.agg [.flt .f32 lo, .flt .f32 hi], .bool v] s = some (.fn (.func 60) [] [.ptr s.next 0, .ptr (s.next + 1) 0], (s.new (.cells [.flt .f32 lo, .flt .f32 hi] 38 false 0 0)).new (.cells [.bool v] 4 false 0 0)) := by
  refine kept_go k30 (by kernel_rfl) ?_
  simp +contextual only [go_sem, ↓reduceIte, r30]
/-- levels that are in order -/
structure Lv (lo hi : Nat) : Prop where
  flo : fin32 lo = true
  fhi : fin32 hi = true
  lt : geF lo hi = false
theorem o8 {β : Type} {fin : Fl → β} {Post : β → Prop} (ns : Bool) {l : List Nat} {lo hi : Nat} (hf : ∀ b ∈ l, fin32 b = true) (hl : l.length ≤ 4096) (lv : Lv lo hi)
    (hk : ∀ e s v B, Env.get e 6 = v → Env.get e 7 = .int .i64 0 → RowI s B 4 1 (dig lo hi l).length (bools (dig lo hi l)) v → Post (fin (some (.ret, e, s)))) :
    Post (go U fin [] r8 (bindArgs 0 [encS ns (flts l), .agg [.flt .f32 lo, .flt .f32 hi], .bool false] .nil) (ownSt U)) := by
  have st1 : ∀ b o n c z, stills [.sl b o n c z] = false := fun b o n c z => by simp [stills, still]
  have h24 := c24 ns l hf hl
  have h28 := c28 lv.flo lv.fhi lv.lt
  simp +contextual only [go_sem, ↓reduceIte, r8, h24, h28, z22 (st1 _ _ _ _ _), cz22_2, Option.isNone_none, ck, c30]
  generalize hS : ((((((ownSt U).new (Blk.cells [AV.flt .f32 lo, AV.flt .f32 hi] 38 false 0 0)).upto 19).put 16 (Blk.cells [AV.int .i64 0, AV.int .i64 0] 31 false 0 0)).new (Blk.cells [AV.flt .f32 lo, AV.flt .f32 hi] 38 false 0 0)).new (Blk.cells [AV.bool false] 4 false 0 0)) = S
  have hg1 : S.get 19 = some (.cells [.flt .f32 lo, .flt .f32 hi] 38 false 0 0) := by rw [← hS]; simp +contextual only [go_sem, ↓reduceIte]
  have hg2 : S.get 20 = some (.cells [.bool false] 4 false 0 0) := by rw [← hS]; simp +contextual only [go_sem, ↓reduceIte]
  have hN : S.next = 21 := by rw [← hS]; rfl
  have hF : Fr S := by
    rw [← hS]
    exact (((((Fr.own.new _).upto (by rw [next_new, own_next, U_glob]; omega)).put (by rw [upto_next]; omega) _).new _).new _)
  obtain ⟨v, s', q1, q2, _, _, _⟩ := c29 (A := encS ns (flts l)) (F := .fn (.func 60) [] [.ptr 19 0, .ptr 20 0]) (n := l.length) (xs := fun i => .flt .f32 (l.getD i 0)) (ys := fun i => .bool (vAt lo hi l (i + 1)))
    (J := fun i s => s.get 19 = some (.cells [.flt .f32 lo, .flt .f32 hi] 38 false 0 0) ∧ s.get 20 = some (.cells [.bool (vAt lo hi l i)] 4 false 0 0))
    (by rw [lenL_encS, flts_len]) (fun i hi => by
      rw [ixa_flts hi, List.getD_eq_getElem?_getD, List.getElem?_eq_getElem hi]; rfl)
    ⟨fun i s hi hJ hB fr => by
      obtain ⟨s', p1, p2, p3, p4, p5⟩ := c60 (f := l[i]) hJ.1 hJ.2 (by decide) (by omega) (by omega) fr
      have hgd : l.getD i 0 = l[i] := by rw [List.getD_eq_getElem?_getD, List.getElem?_eq_getElem hi]; rfl
      refine ⟨s', ?_, ⟨(p4 19 (by decide)).trans hJ.1, ?_⟩, p3, fun j hj => p4 j (by omega), p5⟩
      · rw [calv_kept, hgd, vAt_succ hi]; exact p1
      · rw [vAt_succ hi]; exact p2, fun i s s' hJ _ h => ⟨(h 19 (by omega)).trans hJ.1, (h 20 (by omega)).trans hJ.2⟩, fun _ => rfl, fun _ => rfl⟩ ⟨hg1, hg2⟩ hF hl
  rw [upTo_bools (fun i => vAt lo hi l (i + 1))] at q2
  have q2 : RowI s' S.next 4 1 (dig lo hi l).length (bools (dig lo hi l)) v := by rw [dig_len]; exact q2
  simp +contextual only [go_sem, ↓reduceIte, q1]
  refine hk _ _ v S.next ?_ ?_ q2
  all_goals simp +contextual only [go_sem, ↓reduceIte]
theorem c8 (ns : Bool) {l : List Nat} {lo hi : Nat} (hf : ∀ b ∈ l, fin32 b = true) (hl : l.length ≤ 4096) (lv : Lv lo hi) :
    calV U 8 [encS ns (flts l), .agg [.flt .f32 lo, .flt .f32 hi], .bool false] = some (.tup [encS true (bools (dig lo hi l)), .int .i64 0]) := by
  refine pure_go k8 (by kernel_rfl) (by simp [stills, still_encS, still]) ?_
  refine o8 (fin := finP U [.tmp 6, .tmp 7]) (Post := fun x => x = some (AV.tup [encS true (bools (dig lo hi l)), .int .i64 0])) ns hf hl lv fun e s v B h6 h7 row => ?_
  have hfz := fun d => row.frz_bools d
  simp +contextual only [go_sem, ↓reduceIte, h6, h7, hfz]
theorem frzN_pair {s : St} {d : Nat} {v v' : AV} {k : IntKind} {n : Int} (h : frzN U s (d + 1) v = some v') : frzN U s (d + 2) (.tup [v, .int k n]) = some (.tup [v', .int k n]) := by
  have h2 : frzN U s (d + 1) (.int k n) = some (.int k n) := rfl
  show (match mapO (frzN U s (d + 1)) [v, .int k n] with | some cs' => some (AV.tup cs') | none => none) = _
  simp only [mapO, h, h2]
theorem callB_k {f : FuncId} {rs : List ResultVar} {r : RC} (h : fnRC f = some (rs, r)) {args : List AV} {s : St} {x : AV × St} (hg : go U (finB U rs) [] r (bindArgs 0 args .nil) s = some x) : callB U (execL U) f args s = some x := by
  obtain ⟨fn, c, h1, h2, h3, h4⟩ := fnRC_some h
  exact callB_go U h1 h2 h3 h4 hg
theorem frz_row2 {s : St} {B : Nat} {t : TypeId} {l : List AV} {v : AV} {n : Int} (h : RowI s B t 1 l.length l v) (hag : isAggT U t = some false) (hsz : size U t = some 1) (hna : l.all noAgg = true) (hf : ∀ d, mapO (frzN U s (d + 1)) l = some l) :
    (if flat (.tup [v, .int .i64 n]) = true then some (AV.tup [v, .int .i64 n]) else frzN U s frzDepth (.tup [v, .int .i64 n])) = some (.tup [encS true l, .int .i64 n]) := by
  rcases Nat.eq_zero_or_pos l.length with h0 | h0
  · have hl : l = [] := List.eq_nil_of_length_eq_zero h0
    subst hl
    rcases h with ⟨_, rfl, _⟩ | ⟨h1, _⟩
    · rfl
    · exact absurd h1 (by simp)
  · have hfl : flat (.tup [v, .int .i64 n]) = false := by
      rcases h with ⟨h1, _⟩ | ⟨_, _, b, _, _, rfl, _⟩
      · omega
      · rfl
    have hd : frzDepth = 3998 + 2 := rfl
    rw [hfl, hd, if_neg (by decide)]
    exact frzN_pair (h.frzN_one hag hsz hna (hf 3997))
theorem cz8 (ns : Bool) {l : List Nat} {lo hi : Nat} (hf : ∀ b ∈ l, fin32 b = true) (hl : l.length ≤ 4096) (lv : Lv lo hi) (s : St) :
    calZ U 8 (some [encS ns (flts l), .agg [.flt .f32 lo, .flt .f32 hi], .bool false]) s = some (.tup [encS true (bools (dig lo hi l)), .int .i64 0], s) := by
  refine calZ_some U s ?_
  obtain ⟨w, s', B, h1, h2⟩ := o8 (fin := finB U [.tmp 6, .tmp 7]) (Post := fun x => ∃ w s' B, x = some (AV.tup [w, .int .i64 0], s') ∧ RowI s' B 4 1 (dig lo hi l).length (bools (dig lo hi l)) w) ns hf hl lv
    fun e s w B h4 h5 hv => ⟨w, s, B, by simp +contextual only [go_sem, ↓reduceIte, h4, h5], hv⟩
  unfold callQ
  rw [callB_k k8 h1]
  simp only [Bool.false_eq_true, if_false]
  exact frz_row2 (by rw [bools_len]; exact h2) ag_4 sz_4 (noAgg_bools _) (fun d => frzN_boolsV _ _ _)
/-! # Words of lines: plain facts, and the check of the lines' lengths -/
def wAcc (L : List (List Bool)) (t : Nat) : Nat → Nat
  | 0 => 0
  | i + 1 => wAcc L t i + bif (L.getD i []).getD t false then 2 ^ i else 0
theorem wAcc_lt (L : List (List Bool)) (t : Nat) : ∀ i, wAcc L t i < 2 ^ i
  | 0 => by simp [wAcc]
  | i + 1 => by
    have ih := wAcc_lt L t i
    rw [wAcc, Nat.pow_succ]
    cases (L.getD i []).getD t false <;> simp only [cond_true, cond_false] <;> omega
theorem bitW_add {i k x : Nat} (b : Bool) (h : i < k) : bitW i (x + bif b then 2 ^ k else 0) = bitW i x := by
  unfold bitW
  cases b
  · rfl
  · simp only [cond_true]
    have e : x + 2 ^ k = x + 2 ^ i * (2 * 2 ^ (k - i - 1)) := by
      rw [← Nat.pow_succ', ← Nat.pow_add]; congr 2; omega
    rw [e, Nat.add_mul_div_left _ _ (Nat.pow_pos (by omega)), Nat.add_mul_mod_self_left]
theorem bitW_top {k x : Nat} (b : Bool) (h : x < 2 ^ k) : bitW k (x + bif b then 2 ^ k else 0) = b := by
  unfold bitW
  cases b
  · simp only [cond_false, Nat.add_zero, Nat.div_eq_of_lt h]; rfl
  · simp only [cond_true]
    rw [Nat.add_div_right _ (Nat.pow_pos (by omega)), Nat.div_eq_of_lt h]; rfl
theorem wAcc_bit (L : List (List Bool)) (t : Nat) : ∀ (k i : Nat), i < k → bitW i (wAcc L t k) = (L.getD i []).getD t false
  | 0, i, h => by omega
  | k + 1, i, h => by
    rw [wAcc]
    rcases Nat.lt_or_ge i k with h1 | h1
    · rw [bitW_add _ h1, wAcc_bit L t k i h1]
    · have : i = k := by omega
      subst this
      exact bitW_top _ (wAcc_lt L t i)
def wds (L : List (List Bool)) (n : Nat) : List Nat := (List.range n).map fun t => wAcc L t L.length
theorem wds_len (L : List (List Bool)) (n : Nat) : (wds L n).length = n := by simp [wds]
theorem wds_lt {L : List (List Bool)} {n : Nat} (h : L.length ≤ 16) : ∀ w ∈ wds L n, w < 2 ^ 16 := by
  intro w hw
  obtain ⟨t, _, rfl⟩ := List.mem_map.1 hw
  exact Nat.lt_of_lt_of_le (wAcc_lt L t _) (Nat.pow_le_pow_right (by omega) h)
theorem wds_line {L : List (List Bool)} {n i : Nat} (hi : i < L.length) (hn : L[i].length = n) : (wds L n).map (bitW i) = L[i] := by
  unfold wds
  rw [List.map_map]
  subst hn
  refine List.ext_getElem (by simp) fun t h1 h2 => ?_
  simp only [List.getElem_map, List.getElem_range, Function.comp]
  have e : L.getD i [] = L[i] := by rw [List.getD_eq_getElem?_getD, List.getElem?_eq_getElem hi]; rfl
  rw [wAcc_bit L t _ i hi, e, List.getD_eq_getElem?_getD, List.getElem?_eq_getElem h2]; rfl
/-- lines as they are handed over -/
def encB (l : List Bool) : AV := encS true (bools l)
theorem cells_encB (l : List Bool) : (encB l).cells = [encB l] := cells_encS _ _
theorem len_encB (l : List Bool) : lenRL (encB l) = some (.int .i64 l.length) := by unfold encB; rw [lenL_encS, bools_len]
theorem ixa_lines {L : List (List Bool)} {i : Nat} (h : i < L.length) : ixRA 1 (.fz (L.map encB)) (.int .i64 (i : Int)) = some (.fp [encB L[i]] 0) := by
  have := ixa_encS 1 false (L.map encB) .i64 i (encB L[i]) (by omega) (by rw [Int.toNat_natCast, List.getElem?_map, List.getElem?_eq_getElem h]; rfl) (by rw [cells_encB]; rfl) (by decide)
  rw [encS_fz, cells_encB] at this
  exact this
/-- lines of one length -/
structure Lns (L : List (List Bool)) (n : Nat) : Prop where
  pos : 0 < L.length
  le : L.length ≤ 16
  len : ∀ l ∈ L, l.length = n
  n_le : n ≤ 4096
theorem Lns.at {L : List (List Bool)} {n : Nat} (h : Lns L n) {i : Nat} (hi : i < L.length) : L[i].length = n := h.len _ (List.getElem_mem hi)
theorem ixa_line0 {L : List (List Bool)} {n : Nat} (h : Lns L n) : ixRA 1 (.fz (L.map encB)) (.int .i64 0) = some (.fp [encB (L[0]'h.pos)] 0) := ixa_lines (i := 0) h.pos
theorem c32 {L : List (List Bool)} {n : Nat} (h : Lns L n) {l : List Bool} (hl : l.length = n) {b : Nat} {s : St} (hb : s.get b = some (.cells [.fz (L.map encB)] 34 false 0 0)) : cal U 32 [encB l, .ptr b 0] s = some (.bool false, s) := by
  refine kept_go k32 (by kernel_rfl) ?_
  have h0 := ixa_line0 h
  have e1 := h.at h.pos
  simp +contextual only [go_sem, ↓reduceIte, r32, hb, h0, len_encB, hl, e1, bne_self_eq_false]
theorem c61 {L : List (List Bool)} {n : Nat} (h : Lns L n) {b : Nat} {s : St} (hb : s.get b = some (.cells [.fz (L.map encB)] 34 false 0 0)) : cal U 61 [.fz (L.map encB), .fn (.func 32) [] [.ptr b 0]] s = some (.int .i64 (-1), s) := by
  obtain ⟨v, s', q1, rfl, rfl⟩ : ∃ v s', cal U 61 [.fz (L.map encB), .fn (.func 32) [] [.ptr b 0]] s = some (v, s') ∧ v = .int .i64 (-1) ∧ s' = s := by
    refine kept_ex k61 (by kernel_rfl) (Q := fun v s' => v = .int .i64 (-1) ∧ s' = s) ?_
    simp +contextual only [go_sem, ↓reduceIte, r61, List.length_map]
    refine loop_ex (Post := okQ _) (σ := Nat) (fun i => L.length - i) (fun i e' s' => i ≤ L.length ∧ s' = s ∧ Env.get e' 0 = .fz (L.map encB) ∧ Env.get e' 1 = .fn (.func 32) [] [.ptr b 0] ∧ Env.get e' 7 = .int .i64 L.length ∧ Env.get e' 8 = .int .i64 (i : Nat)) 0 ?_ ?_
    · rintro Lp i e' s' ⟨hi, rfl, g0, g1, g7, g8⟩ ih
      by_cases hd : i < L.length
      · have hx := ixa_lines hd
        have hw := wrap_succ hd (by have := h.le; omega)
        have hc := c32 h (h.at hd) hb
        simp +contextual only [go_sem, ↓reduceIte, r61_l0, g0, g1, g7, g8, nat_lt_dec, hd, hx, ck, hc, hw]
        refine ih (i + 1) _ _ (by omega) ⟨by omega, rfl, ?_, ?_, ?_, ?_⟩
        all_goals simp +contextual only [go_sem, ↓reduceIte, g0, g1, g7, hw]
      · have : i = L.length := by omega
        subst this
        simp +contextual only [go_sem, ↓reduceIte, r61_l0, g0, g1, g7, g8, nat_lt_dec, Nat.lt_irrefl, okQ_some]
    · refine ⟨Nat.zero_le _, rfl, ?_, ?_, ?_, ?_⟩
      all_goals simp +contextual only [go_sem, ↓reduceIte]
      all_goals rfl
  exact q1
theorem c31 {L : List (List Bool)} {n : Nat} (h : Lns L n) {b : Nat} {s : St} (hb : s.get b = some (.cells [.fz (L.map encB)] 34 false 0 0)) : cal U 31 [.fz (L.map encB), .fn (.func 32) [] [.ptr b 0]] s = some (.bool false, s) := by
  refine kept_go k31 (by kernel_rfl) ?_
  have hd : decide ((-1 : Int) ≥ 0) = false := by decide
  simp +contextual only [go_sem, ↓reduceIte, r31, ck, c61 h hb, hd]
theorem c33 {A : AV} {s : St} : cal U 33 [A] s = some (.fn (.func 62) [] [.ptr s.next 0], s.new (.cells A.cells 34 false 0 0)) := by
  refine kept_go k33 (by kernel_rfl) ?_
  simp +contextual only [go_sem, ↓reduceIte, r33]
end Go.Am
