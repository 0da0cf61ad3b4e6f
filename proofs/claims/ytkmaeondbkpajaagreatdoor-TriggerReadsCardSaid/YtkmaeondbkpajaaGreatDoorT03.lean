/- A part of the proof of a statement of this seat: the machine on which the program is read, and what it computes; for every input. -/
import Derived.Test.YtkmaeondbkpajaaGreatDoorT02
import Derived.Lib.AtoiTie
import Derived.Lib.AtoiAllCases
import Derived.Lib.ItoaNum
set_option linter.all false
set_option linter.all false
namespace Go.Am
open Go
/-! # Numbers as they are written: what Atoi and Itoa tell, and what the reference reads -/

/-- the numeral, by steps that the kernel can count -/
def itoF : Nat → Nat → Str → Str
  | 0, _, acc => acc
  | f + 1, n, acc => bif Nat.blt n 10 then UInt8.ofNat (48 + n) :: acc else itoF f (n / 10) (UInt8.ofNat (48 + n % 10) :: acc)
theorem itoF_eq : ∀ (f n : Nat) (acc : Str), n < 10 ^ f → f ≠ 0 → itoF f n acc = Lib.decDigits n ++ acc
  | 0, n, acc, h, h0 => absurd rfl h0
  | f + 1, n, acc, h, _ => by
    rw [itoF, Lib.decDigits]
    by_cases hn : n < 10
    · rw [show Nat.blt n 10 = true by rw [Nat.blt_eq]; exact hn, cond_true, dif_pos hn]; rfl
    · have hb : Nat.blt n 10 = false := by rw [Bool.eq_false_iff, ne_eq, Nat.blt_eq]; exact hn
      have hf : f ≠ 0 := by rintro rfl; simp at h; omega
      rw [hb, cond_false, dif_neg hn, itoF_eq f (n / 10) _ (by rw [Nat.pow_succ] at h; omega) hf, List.append_assoc]; rfl
def itoE (n : Int) : Str := bif decide (n < 0) then 45 :: itoF 20 n.natAbs [] else itoF 20 n.toNat []
theorem itoE_eq {n : Int} (h0 : -2 ^ 63 ≤ n) (h1 : n < 2 ^ 63) : itoE n = Lib.itoa n := by
  unfold itoE Lib.itoa
  by_cases h : n < 0
  · rw [decide_eq_true h, cond_true, if_pos h, itoF_eq 20 _ _ (by omega) (by omega), List.append_nil]
  · rw [decide_eq_false h, cond_false, if_neg h, itoF_eq 20 _ _ (by omega) (by omega), List.append_nil]

/-- what the program takes for a number -/
def pnumOf (s : Str) : Option Int := match Lib.atoiAll s with
  | .ok n => br (decide (s.length > 9)) none (br (itoE n != s) none (br (decide (n < 0)) none (some n)))
  | _ => none

def dgV (c : UInt8) : Int := IntKind.i64.wrap (IntKind.u8.wrap ((c.toNat : Int) - 48))
/-- what the reference takes for one: byte by byte -/
def rnL (big lead : Bool) : Int → Str → Option Int
  | n, [] => some n
  | n, c :: l => br (decide (c.toNat < 48) || decide (c.toNat > 57) || big || lead) none (rnL big lead (IntKind.i64.wrap (IntKind.i64.wrap (10 * n) + dgV c)) l)
def rnumOf (s : Str) : Option Int := rnL (decide (s.length > 9)) (s.head? == some 48 && decide (s.length > 1)) 0 s

theorem dgV_digit {c : UInt8} (h0 : ¬ c.toNat < 48) (h1 : ¬ c.toNat > 57) : dgV c = ((c.toNat - 48 : Nat) : Int) := by
  have e1 : IntKind.u8.wrap ((c.toNat : Int) - 48) = (c.toNat : Int) - 48 := by
    simp only [IntKind.wrap, IntKind.bits, IntKind.signed]
    simp
    omega
  unfold dgV
  rw [e1, wrap_i64 (by omega) (by omega)]
  omega
theorem digitVal_some {c : UInt8} (h0 : ¬ c.toNat < 48) (h1 : ¬ c.toNat > 57) : Lib.digitVal c = some (c.toNat - 48) := by
  unfold Lib.digitVal
  rw [if_pos (by omega)]
theorem digitVal_none {c : UInt8} (h : c.toNat < 48 ∨ c.toNat > 57) : Lib.digitVal c = none := by
  unfold Lib.digitVal
  rw [if_neg (by omega)]

theorem rnL_eq : ∀ (s : Str) (n k : Nat), n < 10 ^ k → s.length + k ≤ 9 → rnL false false (n : Int) s = (Lib.decFrom n s).map fun (m : Nat) => (m : Int)
  | [], n, k, hn, hk => by simp [rnL, Lib.decFrom]
  | c :: l, n, k, hn, hk => by
    have hk : l.length + (k + 1) ≤ 9 := by rw [List.length_cons] at hk; omega
    have hp : 10 ^ k ≤ 10 ^ 9 := Nat.pow_le_pow_right (by omega) (by omega)
    rw [rnL, Lib.decFrom]
    by_cases h0 : c.toNat < 48
    · rw [digitVal_none (.inl h0)]; simp [h0, br]
    by_cases h1 : c.toNat > 57
    · rw [digitVal_none (.inr h1)]; simp [h1, br]
    rw [digitVal_some h0 h1, dgV_digit h0 h1, decide_eq_false h0, decide_eq_false h1]
    simp only [Bool.or_false, br_false]
    rw [wrap_i64 (n := 10 * (n : Int)) (by omega) (by omega), wrap_i64 (by omega) (by omega)]
    have e : (10 * (n : Int) + ((c.toNat - 48 : Nat) : Int)) = ((n * 10 + (c.toNat - 48) : Nat) : Int) := by omega
    rw [e, rnL_eq l _ (k + 1) (by rw [Nat.pow_succ]; omega) hk]
theorem rnL_big (b l : Bool) (h : (b || l) = true) (n : Int) (c : UInt8) (s : Str) : rnL b l n (c :: s) = none := by
  rw [rnL]
  have : (decide (c.toNat < 48) || decide (c.toNat > 57) || b || l) = true := by
    cases b <;> cases l <;> simp at h ⊢
  rw [this, br_true]

/-! ### The numeral of a number, and the number of a numeral -/
theorem decFrom_snoc : ∀ (l : Str) (a : Nat) (c : UInt8), Lib.decFrom a (l ++ [c]) = (Lib.decFrom a l).bind fun m => (Lib.digitVal c).map fun d => m * 10 + d
  | [], a, c => by
    rw [List.nil_append, Lib.decFrom, Lib.decFrom]
    cases Lib.digitVal c <;> simp [Lib.decFrom]
  | b :: l, a, c => by
    rw [List.cons_append, Lib.decFrom, Lib.decFrom]
    cases Lib.digitVal b with
    | none => rfl
    | some d => exact decFrom_snoc l _ c
theorem digit_toNat {n : Nat} (h : n < 10) : (UInt8.ofNat (48 + n)).toNat = 48 + n := by
  rw [UInt8.toNat_ofNat']; omega
theorem decFrom_dec (n : Nat) : Lib.decFrom 0 (Lib.decDigits n) = some n := by
  induction n using Nat.strongRecOn with
  | _ n ih =>
    rw [Lib.decDigits]
    by_cases h : n < 10
    · rw [dif_pos h]
      have h1 := digit_toNat h
      simp only [Lib.decFrom]
      rw [digitVal_some (by omega) (by omega), h1]
      simp
    · rw [dif_neg h, decFrom_snoc, ih (n / 10) (by omega)]
      have h1 := digit_toNat (n := n % 10) (by omega)
      rw [digitVal_some (by omega) (by omega), h1]
      simp only [Option.bind_some, Option.map_some, Option.some.injEq]
      omega
theorem dec_ne (n : Nat) : Lib.decDigits n ≠ [] := by
  intro h
  have := congrArg List.length h
  rw [Lib.decDigits_length] at this
  have := Lib.nDigits_pos n
  simp at *
  omega
theorem hd_app : ∀ (l m : Str), l ≠ [] → (l ++ m).head? = l.head?
  | [], m, h => absurd rfl h
  | a :: l, m, h => rfl
theorem dec_head (n : Nat) : n ≠ 0 → (Lib.decDigits n).head? ≠ some 48 := by
  induction n using Nat.strongRecOn with
  | _ n ih =>
    intro h0
    rw [Lib.decDigits]
    by_cases h : n < 10
    · rw [dif_pos h]
      simp only [List.head?_cons, ne_eq, Option.some.injEq]
      intro e
      have := congrArg UInt8.toNat e
      rw [digit_toNat h] at this
      have h48 : (48 : UInt8).toNat = 48 := rfl
      omega
    · rw [dif_neg h, hd_app _ _ (dec_ne _)]
      exact ih (n / 10) (by omega) (by omega)
theorem dec_lead (n : Nat) : ((Lib.decDigits n).head? == some 48 && decide ((Lib.decDigits n).length > 1)) = false := by
  by_cases h : n = 0
  · subst h
    rw [Lib.decDigits_one (by omega)]; rfl
  · have := dec_head n h
    cases hh : (Lib.decDigits n).head? == some 48
    · rfl
    · exact absurd (eq_of_beq hh) this
/-- a row of digits without a nought ahead is the numeral of its number -/
theorem dec_of : ∀ (k : Nat) (s : Str) (m : Nat), s.length = k → Lib.decFrom 0 s = some m → s ≠ [] → (s.head? == some 48 && decide (s.length > 1)) = false → Lib.decDigits m = s := by
  intro k
  induction k with
  | zero => intro s m hk _ hs; exact absurd (List.length_eq_zero_iff.1 hk) hs
  | succ k ih =>
    intro s m hk hm hs hl
    rcases List.eq_nil_or_concat s with rfl | ⟨t, c, rfl⟩
    · exact absurd rfl hs
    rw [List.concat_eq_append] at *
    have hk : t.length = k := by simpa using hk
    rw [decFrom_snoc] at hm
    cases ht : Lib.decFrom 0 t with
    | none => rw [ht] at hm; simp at hm
    | some a =>
      rw [ht] at hm
      simp only [Option.bind_some] at hm
      cases hd : Lib.digitVal c with
      | none => rw [hd] at hm; simp at hm
      | some d =>
        rw [hd] at hm
        simp only [Option.map_some, Option.some.injEq] at hm
        obtain ⟨q1, q2, q3⟩ := Lib.digitVal_eq hd
        have hc : UInt8.ofNat (48 + d) = c := by
          rw [q3, show 48 + (c.toNat - 48) = c.toNat by omega, UInt8.ofNat_toNat]
        rw [Lib.decDigits]
        cases t with
        | nil =>
          rw [Lib.decFrom] at ht
          cases ht
          rw [dif_pos (by omega), ← hc]
          simp only [List.nil_append]
          rw [show m = d by omega]
        | cons b t =>
          have hb : (b :: t).head? ≠ some 48 := by
            intro e
            rw [hd_app _ _ (by simp), e] at hl
            simp at hl
          have ha : a ≠ 0 := by
            rintro rfl
            simp only [Lib.decFrom] at ht
            cases hbd : Lib.digitVal b with
            | none => rw [hbd] at ht; simp at ht
            | some x =>
              rw [hbd] at ht
              obtain ⟨r1, r2, r3⟩ := Lib.digitVal_eq hbd
              have hx : x ≠ 0 := by
                rintro rfl
                apply hb
                simp only [List.head?_cons, Option.some.injEq]
                have : b.toNat = 48 := by omega
                rw [← UInt8.ofNat_toNat (x := b), this]; rfl
              have hge : ∀ (l : Str) (a n : Nat), Lib.decFrom a l = some n → a ≤ n := by
                intro l
                induction l with
                | nil => intro a n h; rw [Lib.decFrom] at h; cases h; omega
                | cons y l ih =>
                  intro a n h
                  rw [Lib.decFrom] at h
                  cases hy : Lib.digitVal y with
                  | none => rw [hy] at h; simp at h
                  | some z => rw [hy] at h; have := ih _ _ h; omega
              have := hge _ _ _ ht
              omega
          have ih' := ih (b :: t) a hk ht (by simp) (by
            cases hh : (b :: t).head? == some 48
            · rfl
            · exact absurd (eq_of_beq hh) hb)
          rw [dif_neg (by omega), show m / 10 = a by omega, show m % 10 = d by omega, ih', hc]

theorem num_eq (s : Str) (hs : s ≠ []) : rnumOf s = pnumOf s := by
  obtain ⟨c, l, rfl⟩ := List.exists_cons_of_ne_nil hs
  by_cases h9 : (c :: l).length > 9
  · unfold rnumOf pnumOf
    rw [decide_eq_true h9, rnL_big _ _ rfl]
    split <;> rfl
  unfold rnumOf pnumOf
  rw [decide_eq_false h9]
  rw [Lib.atoiAll_short _ (by omega)]
  -- the number that comes out of a numeral of the program's
  have back : ∀ n : Int, Lib.atoi (c :: l) = some n → 0 ≤ n → Lib.itoa n = c :: l → Lib.decDigits n.toNat = c :: l := by
    intro n h h0 hi
    unfold Lib.itoa at hi
    rw [if_neg (by omega)] at hi
    exact hi
  cases hlead : ((c :: l).head? == some 48 && decide ((c :: l).length > 1)) with
  | true =>
    rw [rnL_big _ _ rfl]
    cases ha : Lib.atoi (c :: l) with
    | none => rfl
    | some n =>
      simp only [Lib.NumEnd.ofOption, br_false]
      cases h2 : itoE n != c :: l
      · cases h3 : decide (n < 0)
        · have h3 : ¬ n < 0 := by simpa using h3
          exfalso
          have hb := Lib.atoiAll_bounds (l := c :: l) (v := n) (by rw [Lib.atoiAll_short _ (by omega), ha]; rfl)
          have hi : Lib.itoa n = c :: l := by
            rw [← itoE_eq (by omega) (by omega)]; simpa using h2
          have := dec_lead n.toNat
          rw [back n ha (by omega) hi, hlead] at this
          cases this
        · rfl
      · rfl
  | false =>
    have h1 := rnL_eq (c :: l) 0 0 (by decide) (by omega)
    have h1 : rnL false false 0 (c :: l) = Option.map (fun m : Nat => (m : Int)) (Lib.decFrom 0 (c :: l)) := h1
    rw [h1]
    cases hd : Lib.decFrom 0 (c :: l) with
    | some m =>
      have hdec := dec_of _ _ m rfl hd (by simp) hlead
      have hc := Lib.digit_of_decFrom _ _ _ hd 0 c rfl
      obtain ⟨d, hc⟩ := hc
      obtain ⟨q1, q2, q3⟩ := Lib.digitVal_eq hc
      have n45 : (c == 45) = false := by rw [beq_eq_false_iff_ne]; rintro rfl; simp at q1
      have n43 : (c == 43) = false := by rw [beq_eq_false_iff_ne]; rintro rfl; simp at q1
      have ha : Lib.atoi (c :: l) = some (m : Int) := by
        simp only [Lib.atoi, n45, n43, Bool.false_eq_true, if_false, Lib.decNat, List.isEmpty_cons, hd, Option.map_some]
      have hm := Lib.decFrom_lt18 hd (by omega)
      rw [ha]
      simp only [Lib.NumEnd.ofOption, br_false]
      have hi : itoE (m : Int) = c :: l := by
        rw [itoE_eq (by omega) (by omega)]
        unfold Lib.itoa
        rw [if_neg (by omega), Int.toNat_natCast, hdec]
      have hm0 : decide ((m : Int) < 0) = false := by simp
      rw [hi, hm0]
      simp [br]
    | none =>
      cases ha : Lib.atoi (c :: l) with
      | none => rfl
      | some n =>
        simp only [Lib.NumEnd.ofOption, br_false]
        cases h2 : itoE n != c :: l
        · cases h3 : decide (n < 0)
          · have h3 : ¬ n < 0 := by simpa using h3
            exfalso
            have hb := Lib.atoiAll_bounds (l := c :: l) (v := n) (by rw [Lib.atoiAll_short _ (by omega), ha]; rfl)
            have hi : Lib.itoa n = c :: l := by
              rw [← itoE_eq (by omega) (by omega)]; simpa using h2
            have := decFrom_dec n.toNat
            rw [back n ha (by omega) hi, hd] at this
            cases this
          · rfl
        · rfl
/-! # Sources: how the program reads them, how the reference does -/

structure Tok where
  off : Nat
  txt : Str
structure Rd where
  l : List Tok
  bad : Int
structure PS where
  cond : Cond
  times : Int
  within : Int

def letter (c : UInt8) : Bool := decide (c.toNat ≥ 97) && decide (c.toNat ≤ 122) || decide (c.toNat ≥ 48) && decide (c.toNat ≤ 57)
def C0 : Cond := .mk [] 0 0 0 0 [] true []
def sLines : Str := [108, 105, 110, 101, 115]
def sTimes : Str := [116, 105, 109, 101, 115]
def sWithin : Str := [119, 105, 116, 104, 105, 110]
def sNot : Str := [110, 111, 116]

/-! ### The program -/
def Rd.pk (r : Rd) : Str := match r.l with
  | t :: _ => t.txt
  | [] => []
def Rd.at_ (r : Rd) : Int := match r.l with
  | t :: _ => t.off
  | [] => 0
def Rd.nx (r : Rd) : Rd := match r.l with
  | _ :: t :: l => ⟨t :: l, r.bad⟩
  | _ => r
def pfail (r : Rd) : Rd := br (decide (r.bad < 0)) ⟨r.l, r.at_⟩ r
def ptake (w : Str) (r : Rd) : Rd := br (r.pk != w) (pfail r) r.nx
def pnum (r : Rd) : Int × Rd := match pnumOf r.pk with
  | some n => (n, r.nx)
  | none => (0, pfail r)
def pword (r : Rd) : Str × Rd := match r.pk with
  | [] => ([], pfail r)
  | c :: _ => br (!letter c) ([], pfail r) (r.pk, r.nx)
def popt (w : Str) (o : Int) (r : Rd) : Int × Rd := br (decide (r.bad ≥ 0) || r.pk != w) (o, r) (pnum r.nx)
def pnumIf (u : Bool) (r : Rd) : Int × Rd := br (u && decide (r.bad < 0)) (pnum r) (0, r)
def pwordIf (u : Bool) (r : Rd) : Str × Rd := br u (pword r) ([], r)
/-- the fields of a condition, but the kids -/
def pflds (k : Str) (u : Uses) (r : Rd) : Cond × Rd :=
  let a := pnumIf u.a r
  let b := pnumIf u.b a.2
  let mi := pnumIf u.mi b.2
  let ma := pnumIf u.ma mi.2
  let p := pwordIf u.pat ma.2
  (.mk k a.1 b.1 mi.1 ma.1 p.1 true [], p.2)
def withK (c : Cond) (l : List Cond) : Cond := .mk c.kind c.a c.b c.mi c.ma c.pat true l
mutual
def pcond : Nat → Rd → Cond × Rd
  | 0, r => (C0, r)
  | n + 1, r => br (!(kdOf r.pk).known) (C0, pfail r) <| br (decide (r.bad ≥ 0)) (C0, r) <|
      let x := pflds r.pk (usesOf (kdOf r.pk)) r.nx
      br (!(usesOf (kdOf r.pk)).kids) x <|
      let y := pkids n (r.pk == sNot) (ptake [40] x.2)
      (withK x.1 y.1, br (decide (y.2.bad < 0)) (ptake [41] y.2) y.2)
def pkids : Nat → Bool → Rd → List Cond × Rd
  | 0, _, r => ([], r)
  | n + 1, nt, r => br (decide (r.bad ≥ 0)) ([], r) <|
      let x := pcond n r
      br (nt || x.2.pk != [44]) ([x.1], x.2) <|
      let y := pkids n nt x.2.nx
      (x.1 :: y.1, y.2)
end
def psteps (N : Nat) : Nat → Rd → List PS × Rd
  | 0, r => ([], r)
  | n + 1, r => br (decide (r.bad ≥ 0)) ([], r) <|
      let r := ptake [59] r
      br (r.pk == [] || decide (r.bad ≥ 0)) ([], r) <|
      let c := pcond N r
      let t := popt sTimes 1 c.2
      let w := popt sWithin 0 t.2
      let y := psteps N n w.2
      (⟨c.1, t.1, w.1⟩ :: y.1, y.2)

/-! ### The reference -/
section
variable (en : Nat)
def rfail (r : Rd) : Rd := br (decide (r.bad < 0)) ⟨r.l, match r.l with | t :: _ => t.off | [] => en⟩ r
def ris (w : Str) (r : Rd) : Bool := decide (r.bad < 0) && (match r.l with | t :: _ => t.txt == w | [] => false)
def rtail (r : Rd) : Rd := ⟨r.l.tail, r.bad⟩
def rtake (w : Str) (r : Rd) : Rd := br (!ris w r) (rfail en r) (rtail r)
def rnum (r : Rd) : Int × Rd := br (decide (r.bad ≥ 0)) (0, rfail en r) (match r.l with
  | [] => (0, rfail en r)
  | t :: _ => match rnumOf t.txt with
    | some n => (n, rtail r)
    | none => (0, rfail en r))
def rword (r : Rd) : Str × Rd := br (decide (r.bad ≥ 0)) ([], rfail en r) (match r.l with
  | [] => ([], rfail en r)
  | t :: _ => match t.txt with
    | [] => ([], rfail en r)
    | c :: _ => br (!letter c) ([], rfail en r) (t.txt, rtail r))
def rkind (r : Rd) : Str := br (decide (r.bad < 0)) (match r.l with | t :: _ => t.txt | [] => []) []
def rnumIf (u : Bool) (r : Rd) : Int × Rd := br u (rnum en r) (0, r)
def rwordIf (u : Bool) (r : Rd) : Str × Rd := br u (rword en r) ([], r)
def rflds (k : Str) (u : Uses) (r : Rd) : Cond × Rd :=
  let a := rnumIf en u.a r
  let b := rnumIf en u.b a.2
  let mi := rnumIf en u.mi b.2
  let ma := rnumIf en u.ma mi.2
  let p := rwordIf en u.pat ma.2
  (.mk k a.1 b.1 mi.1 ma.1 p.1 true [], p.2)
mutual
def rcond : Nat → Rd → Cond × Rd
  | 0, r => (C0, r)
  | n + 1, r => br (!(kdOf (rkind r)).known) (C0, rfail en r) <|
      let x := rflds en (rkind r) (usesOf (kdOf (rkind r))) (rtake en (rkind r) r)
      br (!(usesOf (kdOf (rkind r))).kids) x <|
      let y := rkids n (rkind r == sNot) (rtake en [40] x.2)
      (withK x.1 y.1, rtake en [41] y.2)
def rkids : Nat → Bool → Rd → List Cond × Rd
  | 0, _, r => ([], r)
  | n + 1, nt, r =>
      let x := rcond n r
      br (!nt && ris [44] x.2) (let y := rkids n nt (rtake en [44] x.2); (x.1 :: y.1, y.2)) ([x.1], x.2)
end
def ropt (w : Str) (o : Int) (r : Rd) : Int × Rd := br (ris w r) (rnum en (rtake en w r)) (o, r)
def rsteps (N : Nat) : Nat → Rd → List PS × Rd
  | 0, r => ([], r)
  | n + 1, r =>
      let r := rtake en [59] r
      br (decide (r.bad < 0) && !r.l.isEmpty) (
        let c := rcond en N r
        let t := ropt en sTimes 1 c.2
        let w := ropt en sWithin 0 t.2
        let y := rsteps N n w.2
        (⟨c.1, t.1, w.1⟩ :: y.1, y.2)) ([], r)
end

/-! ### They agree -/
def jk (t : Tok) : Prop := ∃ c : UInt8, t.txt = [c] ∧ 128 ≤ c.toNat
/-- the tokens of both: alike up to one that nothing takes -/
inductive Mt (en : Nat) : List Tok → List Tok → Prop
  | nil : Mt en [] [⟨en, []⟩]
  | cons {t : Tok} {l p : List Tok} : t.txt ≠ [] → Mt en l p → Mt en (t :: l) (t :: p)
  | junk {t : Tok} {l p : List Tok} : jk t → Mt en (t :: l) (t :: p)
theorem Mt.ne {en : Nat} {l p : List Tok} (h : Mt en l p) : p ≠ [] := by cases h <;> simp

structure Rel (en : Nat) (r p : Rd) : Prop where
  bad : p.bad = r.bad
  mt : r.bad < 0 → Mt en r.l p.l

theorem Rel.dead {en : Nat} {r p : Rd} (h : p.bad = r.bad) (h0 : 0 ≤ r.bad) : Rel en r p := ⟨h, fun h1 => by omega⟩

theorem pfail_bad {r : Rd} (h : 0 ≤ r.bad) : pfail r = r := by unfold pfail; rw [decide_eq_false (by omega), br_false]
theorem rfail_bad {en : Nat} {r : Rd} (h : 0 ≤ r.bad) : rfail en r = r := by unfold rfail; rw [decide_eq_false (by omega), br_false]
theorem nx_bad (r : Rd) : r.nx.bad = r.bad := by unfold Rd.nx; split <;> rfl
theorem rfail_nn (en : Nat) (r : Rd) : 0 ≤ (rfail en r).bad := by
  unfold rfail
  by_cases h : r.bad < 0
  · rw [decide_eq_true h, br_true]
    show (0 : Int) ≤ (match r.l with | t :: _ => (t.off : Int) | [] => (en : Int))
    split <;> omega
  · rw [decide_eq_false h, br_false]; omega
theorem fail_rel {en : Nat} {r p : Rd} (h : Rel en r p) : Rel en (rfail en r) (pfail p) := by
  refine Rel.dead ?_ (rfail_nn en r)
  by_cases hb : r.bad < 0
  · have hm := h.mt hb
    have hp : p.bad < 0 := by rw [h.bad]; exact hb
    unfold rfail pfail
    rw [decide_eq_true hb, decide_eq_true hp, br_true, br_true]
    show p.at_ = (match r.l with | t :: _ => (t.off : Int) | [] => (en : Int))
    unfold Rd.at_
    generalize r.l = l, p.l = q at hm
    cases hm <;> rfl
  · rw [pfail_bad (by rw [h.bad]; omega), rfail_bad (by omega)]; exact h.bad

/-- both results: the readers go on alike, and while no error is noted the values are the same -/
structure Eqv {α : Type} (en : Nat) (x y : α × Rd) : Prop where
  rel : Rel en x.2 y.2
  val : x.2.bad < 0 → x.1 = y.1
theorem Eqv.fail {α : Type} {en : Nat} {r p : Rd} (h : Rel en r p) (a b : α) : Eqv en (a, rfail en r) (b, pfail p) := ⟨fail_rel h, fun h1 => by have := rfail_nn en r; have h1 : (rfail en r).bad < 0 := h1; omega⟩
theorem Eqv.dead {α : Type} {en : Nat} {x y : α × Rd} (h : y.2.bad = x.2.bad) (h0 : 0 ≤ x.2.bad) : Eqv en x y := ⟨Rel.dead h h0, fun h1 => by omega⟩

theorem nx_cons (t : Tok) (l : List Tok) (b : Int) (h : l ≠ []) : Rd.nx ⟨t :: l, b⟩ = ⟨l, b⟩ := by
  cases l with
  | nil => exact absurd rfl h
  | cons a l => rfl
theorem ris_bad {w : Str} {r : Rd} (h : 0 ≤ r.bad) : ris w r = false := by unfold ris; rw [decide_eq_false (by omega)]; rfl
theorem ptake_bad {w : Str} {r : Rd} (h : 0 ≤ r.bad) : (ptake w r).bad = r.bad := by
  unfold ptake
  cases r.pk != w
  · exact nx_bad r
  · rw [br_true, pfail_bad h]
theorem rtake_bad {en : Nat} {w : Str} {r : Rd} (h : 0 ≤ r.bad) : rtake en w r = r := by unfold rtake; rw [ris_bad h, Bool.not_false, br_true, rfail_bad h]
theorem pnum_bad {r : Rd} (h : 0 ≤ r.bad) : (pnum r).2.bad = r.bad := by
  unfold pnum
  split
  · exact nx_bad r
  · show (pfail r).bad = _; rw [pfail_bad h]
theorem rnum_bad {en : Nat} {r : Rd} (h : 0 ≤ r.bad) : rnum en r = (0, r) := by unfold rnum; rw [decide_eq_true (by omega), br_true, rfail_bad h]
theorem rword_bad {en : Nat} {r : Rd} (h : 0 ≤ r.bad) : rword en r = ([], r) := by unfold rword; rw [decide_eq_true (by omega), br_true, rfail_bad h]
theorem pword_bad {r : Rd} (h : 0 ≤ r.bad) : (pword r).2.bad = r.bad := by
  unfold pword
  split
  · show (pfail r).bad = _; rw [pfail_bad h]
  · rename_i c l _
    cases !letter c
    · exact nx_bad r
    · show (pfail r).bad = _; rw [pfail_bad h]

theorem pk_eq {en : Nat} {r p : Rd} (h : Rel en r p) (hb : r.bad < 0) : rkind r = p.pk := by
  have hm := h.mt hb
  unfold rkind Rd.pk
  rw [decide_eq_true hb, br_true]
  generalize r.l = l, p.l = q at hm
  cases hm <;> rfl
theorem ris_eq {en : Nat} {r p : Rd} (h : Rel en r p) (hb : r.bad < 0) {w : Str} (hw : w ≠ []) : ris w r = (p.pk == w) := by
  have hm := h.mt hb
  unfold ris Rd.pk
  rw [decide_eq_true hb, Bool.true_and]
  generalize r.l = l, p.l = q at hm
  cases hm with
  | nil => cases w with
    | nil => exact absurd rfl hw
    | cons c w => rfl
  | cons _ _ => rfl
  | junk _ => rfl

theorem take_rel {en : Nat} {r p : Rd} (h : Rel en r p) {w : Str} (hw : w ≠ []) (hj : ∀ t, jk t → t.txt ≠ w) : Rel en (rtake en w r) (ptake w p) := by
  by_cases hb : r.bad < 0
  · have hm := h.mt hb
    have hp : p.bad < 0 := by rw [h.bad]; exact hb
    unfold rtake ptake
    rw [ris_eq h hb hw]
    have e : (p.pk != w) = !(p.pk == w) := rfl
    rw [e]
    cases hq : p.pk == w
    · exact fail_rel h
    · have hq := eq_of_beq hq
      simp only [Bool.not_true, br_false]
      obtain ⟨rl, rb⟩ := r
      obtain ⟨pl, pb⟩ := p
      have hm : Mt en rl pl := hm
      have hq : Rd.pk ⟨pl, pb⟩ = w := hq
      cases hm with
      | nil => exact absurd hq.symm hw
      | cons h1 h2 =>
        refine ⟨?_, fun _ => ?_⟩
        · rw [nx_bad]; exact h.bad
        · rw [nx_cons _ _ _ h2.ne]; exact h2
      | junk h1 => exact absurd hq (hj _ h1)
  · rw [rtake_bad (by omega)]
    exact Rel.dead ((ptake_bad (by rw [h.bad]; omega)).trans h.bad) (by omega)
theorem asc_jk {w : Str} (h : ∀ c ∈ w, c.toNat < 128) (t : Tok) (ht : jk t) : t.txt ≠ w := by
  obtain ⟨c, h1, h2⟩ := ht
  rintro rfl
  have := h c (by rw [h1]; simp)
  omega
theorem take_word {en : Nat} {r p : Rd} (h : Rel en r p) {w : Str} (hw : (!w.isEmpty && w.all fun c => decide (c.toNat < 128)) = true) : Rel en (rtake en w r) (ptake w p) := by
  rw [Bool.and_eq_true] at hw
  refine take_rel h (by rintro rfl; simp at hw) (asc_jk fun c hc => ?_)
  have := List.all_eq_true.1 hw.2 c hc
  simpa using this

theorem jk_num {t : Tok} (h : jk t) : rnumOf t.txt = none := by
  obtain ⟨c, h1, h2⟩ := h
  rw [h1]
  unfold rnumOf
  rw [rnL]
  have : decide (c.toNat > 57) = true := decide_eq_true (by omega)
  rw [this]; simp [br]
theorem jk_letter {c : UInt8} (h : 128 ≤ c.toNat) : letter c = false := by
  unfold letter
  rw [decide_eq_false (p := c.toNat ≤ 122) (by omega), decide_eq_false (p := c.toNat ≤ 57) (by omega)]; simp
theorem num_rel {en : Nat} {r p : Rd} (h : Rel en r p) : Eqv en (rnum en r) (pnum p) := by
  by_cases hb : r.bad < 0
  · have hm := h.mt hb
    unfold rnum
    rw [decide_eq_false (by omega), br_false]
    unfold pnum
    obtain ⟨rl, rb⟩ := r
    obtain ⟨pl, pb⟩ := p
    have hm : Mt en rl pl := hm
    cases hm with
    | nil =>
      exact Eqv.fail h 0 0
    | @cons t l q h1 h2 =>
      show Eqv en (match rnumOf t.txt with | some n => (n, rtail ⟨t :: l, rb⟩) | none => (0, rfail en ⟨t :: l, rb⟩)) (match pnumOf t.txt with | some n => (n, Rd.nx ⟨t :: q, pb⟩) | none => (0, pfail ⟨t :: q, pb⟩))
      rw [num_eq _ h1]
      cases pnumOf t.txt with
      | none => exact Eqv.fail h _ _
      | some n => exact ⟨⟨by rw [nx_bad]; exact h.bad, fun _ => by rw [nx_cons _ _ _ h2.ne]; exact h2⟩, fun _ => rfl⟩
    | @junk t l q h1 =>
      show Eqv en (match rnumOf t.txt with | some n => (n, rtail ⟨t :: l, rb⟩) | none => (0, rfail en ⟨t :: l, rb⟩)) (match pnumOf t.txt with | some n => (n, Rd.nx ⟨t :: q, pb⟩) | none => (0, pfail ⟨t :: q, pb⟩))
      rw [← num_eq _ (by obtain ⟨c, h2, _⟩ := h1; rw [h2]; simp), jk_num h1]
      exact Eqv.fail h _ _
  · rw [rnum_bad (by omega)]
    exact Eqv.dead ((pnum_bad (by rw [h.bad]; omega)).trans h.bad) (by show 0 ≤ r.bad; omega)
theorem word_rel {en : Nat} {r p : Rd} (h : Rel en r p) : Eqv en (rword en r) (pword p) := by
  by_cases hb : r.bad < 0
  · have hm := h.mt hb
    unfold rword
    rw [decide_eq_false (by omega), br_false]
    unfold pword
    obtain ⟨rl, rb⟩ := r
    obtain ⟨pl, pb⟩ := p
    have hm : Mt en rl pl := hm
    cases hm with
    | nil => exact Eqv.fail h _ _
    | @cons t l q h1 h2 =>
      show Eqv en (match t.txt with | [] => ([], rfail en ⟨t :: l, rb⟩) | c :: _ => br (!letter c) ([], rfail en ⟨t :: l, rb⟩) (t.txt, rtail ⟨t :: l, rb⟩)) (match t.txt with | [] => ([], pfail ⟨t :: q, pb⟩) | c :: _ => br (!letter c) ([], pfail ⟨t :: q, pb⟩) (t.txt, Rd.nx ⟨t :: q, pb⟩))
      cases ht : t.txt with
      | nil => exact absurd ht h1
      | cons c w =>
        simp only
        cases !letter c
        · exact ⟨⟨by show (Rd.nx _).bad = _; rw [nx_bad]; exact h.bad, fun _ => by show Mt en l (Rd.nx _).l; rw [nx_cons _ _ _ h2.ne]; exact h2⟩, fun _ => rfl⟩
        · exact Eqv.fail h _ _
    | @junk t l q h1 =>
      show Eqv en (match t.txt with | [] => ([], rfail en ⟨t :: l, rb⟩) | c :: _ => br (!letter c) ([], rfail en ⟨t :: l, rb⟩) (t.txt, rtail ⟨t :: l, rb⟩)) (match t.txt with | [] => ([], pfail ⟨t :: q, pb⟩) | c :: _ => br (!letter c) ([], pfail ⟨t :: q, pb⟩) (t.txt, Rd.nx ⟨t :: q, pb⟩))
      obtain ⟨c, h2, h3⟩ := h1
      rw [h2]
      simp only [jk_letter h3, Bool.not_false, br_true]
      exact Eqv.fail h _ _
  · rw [rword_bad (by omega)]
    exact Eqv.dead ((pword_bad (by rw [h.bad]; omega)).trans h.bad) (by show 0 ≤ r.bad; omega)
theorem rnumIf_bad {en : Nat} {u : Bool} {r : Rd} (h : 0 ≤ r.bad) : rnumIf en u r = (0, r) := by unfold rnumIf; rw [rnum_bad h, br_self]
theorem rwordIf_bad {en : Nat} {u : Bool} {r : Rd} (h : 0 ≤ r.bad) : rwordIf en u r = ([], r) := by unfold rwordIf; rw [rword_bad h, br_self]
theorem numIf_rel {en : Nat} {r p : Rd} (h : Rel en r p) (u : Bool) : Eqv en (rnumIf en u r) (pnumIf u p) := by
  by_cases hb : r.bad < 0
  · unfold rnumIf pnumIf
    rw [decide_eq_true (by rw [h.bad]; exact hb), Bool.and_true]
    cases u
    · exact ⟨h, fun _ => rfl⟩
    · exact num_rel h
  · rw [rnumIf_bad (by omega)]
    unfold pnumIf
    rw [decide_eq_false (by rw [h.bad]; exact hb), Bool.and_false, br_false]
    exact ⟨h, fun _ => rfl⟩
theorem wordIf_rel {en : Nat} {r p : Rd} (h : Rel en r p) (u : Bool) : Eqv en (rwordIf en u r) (pwordIf u p) := by
  unfold rwordIf pwordIf
  cases u
  · exact ⟨h, fun _ => rfl⟩
  · exact word_rel h
/-- an error stays noted -/
theorem numIf_lt {en : Nat} {u : Bool} {r : Rd} (h : (rnumIf en u r).2.bad < 0) : r.bad < 0 := by
  by_cases hb : r.bad < 0
  · exact hb
  · rw [rnumIf_bad (by omega)] at h; exact h
theorem wordIf_lt {en : Nat} {u : Bool} {r : Rd} (h : (rwordIf en u r).2.bad < 0) : r.bad < 0 := by
  by_cases hb : r.bad < 0
  · exact hb
  · rw [rwordIf_bad (by omega)] at h; exact h
theorem flds_rel {en : Nat} {r p : Rd} (h : Rel en r p) (k : Str) (u : Uses) : Eqv en (rflds en k u r) (pflds k u p) := by
  have ha := numIf_rel h u.a
  have hb := numIf_rel ha.rel u.b
  have hc := numIf_rel hb.rel u.mi
  have hd := numIf_rel hc.rel u.ma
  have he := wordIf_rel hd.rel u.pat
  refine ⟨he.rel, fun h5 => ?_⟩
  have h5 : (rwordIf en u.pat (rnumIf en u.ma (rnumIf en u.mi (rnumIf en u.b (rnumIf en u.a r).2).2).2).2).2.bad < 0 := h5
  have h4 := wordIf_lt h5
  have h3 := numIf_lt h4
  have h2 := numIf_lt h3
  have h1 := numIf_lt h2
  unfold rflds pflds
  simp only [ha.val h1, hb.val h2, hc.val h3, hd.val h4, he.val h5]
theorem known_ne {k : Str} (h : (kdOf k).known = true) : k ≠ [] ∧ ∀ t, jk t → t.txt ≠ k := by
  refine ⟨?_, ?_⟩
  · rintro rfl
    have : (kdOf []).known = false := rfl
    rw [this] at h; cases h
  · rintro t ⟨c, h1, h2⟩ rfl
    rw [h1] at h
    obtain ⟨e, _⟩ := kd_facts [c]
    have hne : ∀ (a b : UInt8) (l : Str), ([c] == a :: b :: l) = false := fun a b l => by rw [beq_eq_false_iff_ne]; simp
    have : kdOf [c] = .other := by simp only [kdOf, hne, br_false]
    rw [this] at h; cases h
theorem rcond_bad {en : Nat} : ∀ (n : Nat) {r : Rd}, 0 ≤ r.bad → rcond en n r = (C0, r)
  | 0, r, h => by rw [rcond]
  | n + 1, r, h => by
    have hk : rkind r = [] := by unfold rkind; rw [decide_eq_false (by omega), br_false]
    have : (kdOf []).known = false := rfl
    rw [rcond, hk, this, Bool.not_false, br_true, rfail_bad h]
theorem pkids_bad : ∀ (n : Nat) {nt : Bool} {r : Rd}, 0 ≤ r.bad → pkids n nt r = ([], r)
  | 0, nt, r, h => by rw [pkids]
  | n + 1, nt, r, h => by rw [pkids, decide_eq_true (by omega), br_true]
theorem rkids_bad {en : Nat} : ∀ (n : Nat) {nt : Bool} {r : Rd}, 0 ≤ r.bad → (rkids en n nt r).2 = r
  | 0, nt, r, h => by rw [rkids]
  | n + 1, nt, r, h => by rw [rkids, rcond_bad n h, ris_bad h, Bool.and_false, br_false]

theorem cond_rel {en : Nat} : ∀ n : Nat, (∀ {r p : Rd}, Rel en r p → Eqv en (rcond en n r) (pcond n p)) ∧ (∀ {r p : Rd} (nt : Bool), Rel en r p → Eqv en (rkids en n nt r) (pkids n nt p))
  | 0 => ⟨fun h => by rw [rcond, pcond]; exact ⟨h, fun _ => rfl⟩, fun nt h => by rw [rkids, pkids]; exact ⟨h, fun _ => rfl⟩⟩
  | n + 1 => by
    obtain ⟨ih1, ih2⟩ := cond_rel (en := en) n
    refine ⟨fun {r p} h => ?_, fun {r p} nt h => ?_⟩
    · by_cases hb : r.bad < 0
      · rw [rcond, pcond, pk_eq h hb]
        cases hk : (kdOf p.pk).known
        · exact Eqv.fail h _ _
        rw [decide_eq_false (p := p.bad ≥ 0) (by rw [h.bad]; omega)]
        simp only [Bool.not_true, br_false]
        obtain ⟨q1, q2⟩ := known_ne hk
        have ht := take_rel h q1 q2
        have e : ptake p.pk p = p.nx := by unfold ptake; rw [bne_self_eq_false, br_false]
        rw [e] at ht
        have hx := flds_rel ht p.pk (usesOf (kdOf p.pk))
        cases (usesOf (kdOf p.pk)).kids
        · exact hx
        simp only [Bool.not_true, br_false]
        have hy := ih2 (p.pk == sNot) (take_word hx.rel (w := [40]) rfl)
        have hz := take_word hy.rel (w := [41]) rfl
        refine ⟨?_, fun h3 => ?_⟩
        · simp only
          by_cases hc : (rkids en n (p.pk == sNot) (rtake en [40] (rflds en p.pk (usesOf (kdOf p.pk)) (rtake en p.pk r)).2)).2.bad < 0
          · rw [decide_eq_true (by rw [hy.rel.bad]; exact hc), br_true]; exact hz
          · rw [decide_eq_false (by rw [hy.rel.bad]; exact hc), br_false, rtake_bad (by omega)]; exact hy.rel
        · simp only at h3 ⊢
          have h4 : (rkids en n (p.pk == sNot) (rtake en [40] (rflds en p.pk (usesOf (kdOf p.pk)) (rtake en p.pk r)).2)).2.bad < 0 := by
            rcases Int.lt_or_le (rkids en n (p.pk == sNot) (rtake en [40] (rflds en p.pk (usesOf (kdOf p.pk)) (rtake en p.pk r)).2)).2.bad 0 with h4 | h4
            · exact h4
            · rw [rtake_bad h4] at h3; omega
          have h5 : (rflds en p.pk (usesOf (kdOf p.pk)) (rtake en p.pk r)).2.bad < 0 := by
            rcases Int.lt_or_le (rflds en p.pk (usesOf (kdOf p.pk)) (rtake en p.pk r)).2.bad 0 with h5 | h5
            · exact h5
            · rw [rtake_bad h5, rkids_bad n h5] at h4; omega
          rw [hy.val h4, hx.val h5]
      · rw [rcond_bad (n + 1) (by omega), pcond]
        have hp : 0 ≤ p.bad := by rw [h.bad]; omega
        rw [pfail_bad hp, decide_eq_true (p := p.bad ≥ 0) hp, br_true, br_self]
        exact ⟨h, fun _ => rfl⟩
    · have hx := ih1 h
      by_cases hb : r.bad < 0
      · rw [rkids, pkids, decide_eq_false (p := p.bad ≥ 0) (by rw [h.bad]; omega)]
        simp only [br_false]
        by_cases hc : (rcond en n r).2.bad < 0
        · rw [ris_eq hx.rel hc (by simp)]
          cases nt
          · have e : ((pcond n p).2.pk != [44]) = !((pcond n p).2.pk == [44]) := rfl
            rw [e]
            cases hq : (pcond n p).2.pk == [44]
            · exact ⟨hx.rel, fun h1 => by show [_] = [_]; rw [hx.val hc]⟩
            · simp only [Bool.not_true, Bool.not_false, Bool.true_and, Bool.false_or, br_true, br_false]
              have ht := take_word hx.rel (w := [44]) rfl
              have e2 : ptake [44] (pcond n p).2 = (pcond n p).2.nx := by
                unfold ptake
                rw [e, hq]; rfl
              rw [e2] at ht
              have hy := ih2 false ht
              exact ⟨hy.rel, fun h1 => by simp only; rw [hx.val hc, hy.val h1]⟩
          · simp only [Bool.not_true, Bool.false_and, Bool.true_or, br_true, br_false]
            exact ⟨hx.rel, fun h1 => by simp only; rw [hx.val hc]⟩
        · have hc' : 0 ≤ (pcond n p).2.bad := by rw [hx.rel.bad]; omega
          rw [ris_bad (by omega), Bool.and_false, br_false]
          refine Eqv.dead ?_ (by show 0 ≤ (rcond en n r).2.bad; omega)
          cases nt || (pcond n p).2.pk != [44]
          · rw [br_false, pkids_bad n (by rw [nx_bad]; exact hc')]
            show (pcond n p).2.nx.bad = _
            rw [nx_bad]; exact hx.rel.bad
          · exact hx.rel.bad
      · have e1 := rkids_bad (en := en) (n + 1) (nt := nt) (r := r) (by omega)
        refine Eqv.dead ?_ (by rw [e1]; omega)
        rw [e1, pkids_bad (n + 1) (by rw [h.bad]; omega)]
        exact h.bad
theorem opt_rel {en : Nat} {r p : Rd} (h : Rel en r p) {w : Str} (hw : (!w.isEmpty && w.all fun c => decide (c.toNat < 128)) = true) (o : Int) : Eqv en (ropt en w o r) (popt w o p) := by
  by_cases hb : r.bad < 0
  · unfold ropt popt
    rw [ris_eq h hb (by rintro rfl; cases hw), decide_eq_false (p := p.bad ≥ 0) (by rw [h.bad]; omega), Bool.false_or]
    have e : (p.pk != w) = !(p.pk == w) := rfl
    rw [e]
    cases hq : p.pk == w
    · exact ⟨h, fun _ => rfl⟩
    · have ht := take_word h hw
      have e2 : ptake w p = p.nx := by unfold ptake; rw [e, hq]; rfl
      rw [e2] at ht
      exact num_rel ht
  · unfold ropt popt
    rw [ris_bad (by omega), br_false, decide_eq_true (p := p.bad ≥ 0) (by rw [h.bad]; omega), Bool.true_or, br_true]
    exact ⟨h, fun _ => rfl⟩
theorem opt_lt {en : Nat} {w : Str} {o : Int} {r : Rd} (h : (ropt en w o r).2.bad < 0) : r.bad < 0 := by
  rcases Int.lt_or_le r.bad 0 with hb | hb
  · exact hb
  · unfold ropt at h; rw [ris_bad hb, br_false] at h; exact h
theorem rsteps_bad {en N : Nat} : ∀ (n : Nat) {r : Rd}, 0 ≤ r.bad → rsteps en N n r = ([], r)
  | 0, r, h => by rw [rsteps]
  | n + 1, r, h => by
    rw [rsteps, rtake_bad h]
    simp only
    rw [decide_eq_false (p := r.bad < 0) (by omega), Bool.false_and, br_false]
theorem empty_eq {en : Nat} {r p : Rd} (h : Rel en r p) (hb : r.bad < 0) : r.l.isEmpty = (p.pk == []) := by
  have hm := h.mt hb
  unfold Rd.pk
  generalize r.l = l, p.l = q at hm
  cases hm with
  | nil => rfl
  | @cons t l q h1 h2 =>
    show false = (t.txt == [])
    cases ht : t.txt with
    | nil => exact absurd ht h1
    | cons => rfl
  | @junk t l q h1 =>
    obtain ⟨c, h2, _⟩ := h1
    show false = (t.txt == [])
    rw [h2]; rfl
theorem steps_rel {en N : Nat} : ∀ (n : Nat) {r p : Rd}, Rel en r p → Eqv en (rsteps en N n r) (psteps N n p)
  | 0, r, p, h => by rw [rsteps, psteps]; exact ⟨h, fun _ => rfl⟩
  | n + 1, r, p, h => by
    by_cases hb : r.bad < 0
    · rw [rsteps, psteps, decide_eq_false (p := p.bad ≥ 0) (by rw [h.bad]; omega)]
      simp only [br_false]
      have ht := take_word h (w := [59]) rfl
      generalize rtake en [59] r = r1, ptake [59] p = p1 at ht
      by_cases hc : r1.bad < 0
      · rw [empty_eq ht hc, decide_eq_true hc, decide_eq_false (p := p1.bad ≥ 0) (by rw [ht.bad]; omega), Bool.true_and, Bool.or_false]
        cases p1.pk == []
        · simp only [Bool.not_false, br_true, br_false]
          have h1 := (cond_rel (en := en) N).1 ht
          have h2 := opt_rel h1.rel (w := sTimes) rfl 1
          have h3 := opt_rel h2.rel (w := sWithin) rfl 0
          have h4 := steps_rel (N := N) n h3.rel
          refine ⟨h4.rel, fun g4 => ?_⟩
          have g4 : (rsteps en N n (ropt en sWithin 0 (ropt en sTimes 1 (rcond en N r1).2).2).2).2.bad < 0 := g4
          have g3 : (ropt en sWithin 0 (ropt en sTimes 1 (rcond en N r1).2).2).2.bad < 0 := by
            rcases Int.lt_or_le (ropt en sWithin 0 (ropt en sTimes 1 (rcond en N r1).2).2).2.bad 0 with g | g
            · exact g
            · rw [rsteps_bad n g] at g4; exact g4
          have g2 := opt_lt g3
          have g1 := opt_lt g2
          simp only
          rw [h1.val g1, h2.val g2, h3.val g3, h4.val g4]
        · exact ⟨ht, fun _ => rfl⟩
      · rw [decide_eq_false hc, decide_eq_true (p := p1.bad ≥ 0) (by rw [ht.bad]; omega), Bool.false_and, Bool.or_true, br_false, br_true]
        exact ⟨ht, fun _ => rfl⟩
    · rw [rsteps_bad (n + 1) (by omega), psteps, decide_eq_true (p := p.bad ≥ 0) (by rw [h.bad]; omega), br_true]
      exact ⟨h, fun _ => rfl⟩
end Go.Am
set_option linter.all false
namespace Go.Am
open Go
/-! # The tokens of a source: rune by rune, and byte by byte -/

def slc (s : Str) (a b : Nat) : Str := (s.take b).drop a
def isW (r : Nat) : Bool := decide (r ≥ 97) && decide (r ≤ 122) || decide (r ≥ 48) && decide (r ≤ 57)
def flush (s : Str) (bg : Option Nat) (i : Nat) : List Tok := match bg with
  | some b => [⟨b, slc s b i⟩]
  | none => []
/-- the program's tokens from place i on; bg: where a word began -/
def ptk (s : Str) : Nat → Nat → Option Nat → List Tok
  | 0, _, _ => []
  | f + 1, i, bg => match s.drop i with
    | [] => flush s bg s.length ++ [⟨s.length, []⟩]
    | c :: l => br (isW (decodeL (c :: l)).1) (ptk s f (i + (decodeL (c :: l)).2) (some (bg.getD i)))
        (flush s bg i ++ (br ((decodeL (c :: l)).1 == 32 || (decodeL (c :: l)).1 == 10) [] [⟨i, slc s i (i + 1)⟩] ++ ptk s f (i + (decodeL (c :: l)).2) none))
def ptoks (s : Str) : List Tok := ptk s (s.length + 1) 0 none

def wlen : Str → Nat
  | [] => 0
  | c :: l => br (letter c) (wlen l + 1) 0
def tlen (c : UInt8) (l : Str) : Nat := br (letter c) (wlen l + 1) 1
def rtk (s : Str) : Nat → Nat → List Tok
  | 0, _ => []
  | f + 1, i => match s.drop i with
    | [] => []
    | c :: l => br (c == 32 || c == 10) (rtk s f (i + 1)) (⟨i, slc s i (i + tlen c l)⟩ :: rtk s f (i + tlen c l))
def rtoks (s : Str) : List Tok := rtk s (s.length + 1) 0

theorem decode_lo (c : UInt8) (l : Str) (h : c.toNat < 128) : decodeL (c :: l) = (c.toNat, 1) := by
  unfold decodeL
  simp only [List.getElem?_cons_zero, Option.getD_some]
  rw [if_pos h]
theorem decode_hi (c : UInt8) (l : Str) (h : ¬ c.toNat < 128) : 128 ≤ (decodeL (c :: l)).1 ∧ 1 ≤ (decodeL (c :: l)).2 := by
  unfold decodeL
  simp only [List.getElem?_cons_zero, Option.getD_some]
  rw [if_neg h]
  have he : Utf8.runeError = 65533 := rfl
  split
  · split
    · constructor <;> (simp only; omega)
    · simp only [he]; omega
  · split
    · split
      · rename_i h1
        rw [Bool.and_eq_true, decide_eq_true_eq] at h1
        constructor <;> (simp only; omega)
      · simp only [he]; omega
    · split
      · split
        · rename_i h1
          rw [Bool.and_eq_true, decide_eq_true_eq] at h1
          constructor <;> (simp only; omega)
        · simp only [he]; omega
      · simp only [he]; omega
theorem isW_letter (c : UInt8) : isW c.toNat = letter c := rfl
theorem isW_hi {r : Nat} (h : 128 ≤ r) : isW r = false := by
  unfold isW
  rw [decide_eq_false (p := r ≤ 122) (by omega), decide_eq_false (p := r ≤ 57) (by omega)]; simp
theorem letter_hi {c : UInt8} (h : ¬ c.toNat < 128) : letter c = false := isW_hi (by omega)

/-- a word that reaches from b to i -/
theorem wlen_eq (s : Str) : ∀ (k b i : Nat), i - b = k → b ≤ i → i ≤ s.length → (∀ j (h : j < s.length), b ≤ j → j < i → letter s[j] = true) → (∀ h : i < s.length, letter s[i] = false) → wlen (s.drop b) = i - b
  | 0, b, i, hk, hb, hi, h1, h2 => by
    have : b = i := by omega
    subst this
    by_cases hl : b < s.length
    · rw [List.drop_eq_getElem_cons hl, wlen, h2 hl, br_false]; omega
    · rw [List.drop_eq_nil_of_le (by omega), wlen]; omega
  | k + 1, b, i, hk, hb, hi, h1, h2 => by
    have hl : b < s.length := by omega
    rw [List.drop_eq_getElem_cons hl, wlen, h1 b hl (by omega) (by omega), br_true, wlen_eq s k (b + 1) i (by omega) (by omega) hi (fun j h q1 q2 => h1 j h (by omega) q2) h2]
    omega
theorem rtk_word (s : Str) (f b i : Nat) (hb : b < i) (hi : i ≤ s.length) (h1 : ∀ j (h : j < s.length), b ≤ j → j < i → letter s[j] = true) (h2 : ∀ h : i < s.length, letter s[i] = false) :
    rtk s (f + 1) b = ⟨b, slc s b i⟩ :: rtk s f i := by
  have hl : b < s.length := by omega
  have hw := wlen_eq s (i - (b + 1)) (b + 1) i rfl (by omega) hi (fun j h q1 q2 => h1 j h (by omega) q2) h2
  have hc := h1 b hl (by omega) hb
  have e : b + tlen s[b] (s.drop (b + 1)) = i := by unfold tlen; rw [hc, br_true, hw]; omega
  have hsp : (s[b] == 32 || s[b] == 10) = false := by
    cases hx : (s[b] == 32 || s[b] == 10)
    · rfl
    · rw [Bool.or_eq_true] at hx
      rcases hx with hx | hx <;> (rw [eq_of_beq hx] at hc; cases hc)
  rw [rtk, List.drop_eq_getElem_cons hl]
  simp only [hsp, br_false, e]
theorem ptk_flush (s : Str) (g b i : Nat) (h : ∀ c l, s.drop i = c :: l → isW (decodeL (c :: l)).1 = false) (hn : s.drop i = [] → i = s.length) :
    ptk s (g + 1) i (some b) = ⟨b, slc s b i⟩ :: ptk s (g + 1) i none := by
  rw [ptk, ptk]
  cases hd : s.drop i with
  | nil => simp only [flush, List.nil_append, List.singleton_append]; rw [hn hd]
  | cons c l => simp only [h c l hd, br_false, flush, List.nil_append, List.singleton_append]

theorem toks_mt (s : Str) : ∀ (k i : Nat), s.length - i = k → i ≤ s.length →
    (∀ f g, k < f → k < g → Mt s.length (rtk s f i) (ptk s g i none)) ∧
    (∀ b f g, b < i → k + 1 < f → k < g → (∀ j (h : j < s.length), b ≤ j → j < i → letter s[j] = true) → Mt s.length (rtk s f b) (ptk s g i (some b)))
  | 0, i, hk, hi => by
    have hi : i = s.length := by omega
    subst hi
    have hd : s.drop s.length = [] := List.drop_length
    refine ⟨fun f g hf hg => ?_, fun b f g hb hf hg hw => ?_⟩
    · obtain ⟨f, rfl⟩ : ∃ x, f = x + 1 := ⟨f - 1, by omega⟩
      obtain ⟨g, rfl⟩ : ∃ x, g = x + 1 := ⟨g - 1, by omega⟩
      rw [rtk, ptk, hd]
      exact Mt.nil
    · obtain ⟨f, rfl⟩ : ∃ x, f = x + 1 + 1 := ⟨f - 2, by omega⟩
      obtain ⟨g, rfl⟩ : ∃ x, g = x + 1 := ⟨g - 1, by omega⟩
      rw [rtk_word s (f + 1) b s.length hb (Nat.le_refl _) hw (fun h => by omega), ptk_flush s g b s.length (fun c l h => by rw [hd] at h; cases h) (fun _ => rfl)]
      refine Mt.cons ?_ ?_
      · intro h0
        have := congrArg List.length h0
        simp [slc] at this
        omega
      · rw [rtk, ptk, hd]
        exact Mt.nil
  | k + 1, i, hk, hi => by
    have hl : i < s.length := by omega
    have hd := List.drop_eq_getElem_cons hl
    obtain ⟨ih1, ih2⟩ := toks_mt s k (i + 1) (by omega) (by omega)
    have one : slc s i (i + 1) = [s[i]] := by
      unfold slc
      rw [List.take_succ_eq_append_getElem hl, List.drop_append_of_le_length (by simp; omega), List.drop_eq_nil_of_le (by simp; omega)]; rfl
    -- no word is open
    have A : ∀ f g, k + 1 < f → k + 1 < g → Mt s.length (rtk s f i) (ptk s g i none) := by
      intro f g hf hg
      obtain ⟨f, rfl⟩ : ∃ x, f = x + 1 := ⟨f - 1, by omega⟩
      obtain ⟨g, rfl⟩ : ∃ x, g = x + 1 := ⟨g - 1, by omega⟩
      by_cases hc : s[i].toNat < 128
      · cases hw : letter s[i] with
        | true =>
          rw [ptk, hd]
          simp only [decode_lo _ _ hc, isW_letter, hw, br_true, Option.getD_none]
          exact ih2 i (f + 1) g (by omega) (by omega) (by omega) (fun j h q1 q2 => by
            have : j = i := by omega
            subst this; exact hw)
        | false =>
          rw [rtk, ptk, hd]
          simp only [decode_lo _ _ hc, isW_letter, hw, br_false, flush, List.nil_append]
          have e1 : (s[i].toNat == 32 || s[i].toNat == 10) = (s[i] == 32 || s[i] == 10) := by
            have q : ∀ n : Nat, n < 256 → (s[i].toNat == n) = (s[i] == UInt8.ofNat n) := by
              intro n hn
              rw [Bool.eq_iff_iff, beq_iff_eq, beq_iff_eq]
              constructor
              · intro h; rw [← h, UInt8.ofNat_toNat]
              · intro h; rw [h, UInt8.toNat_ofNat']; omega
            rw [q 32 (by omega), q 10 (by omega)]; rfl
          rw [e1]
          cases s[i] == 32 || s[i] == 10
          · have e2 : tlen s[i] (s.drop (i + 1)) = 1 := by unfold tlen; rw [hw, br_false]
            simp only [br_false, e2, List.singleton_append]
            exact Mt.cons (by rw [one]; simp) (ih1 f g (by omega) (by omega))
          · simp only [br_true, List.nil_append]
            exact ih1 f g (by omega) (by omega)
      · have hw := letter_hi hc
        obtain ⟨q1, q2⟩ := decode_hi s[i] (s.drop (i + 1)) hc
        have e2 : tlen s[i] (s.drop (i + 1)) = 1 := by unfold tlen; rw [hw, br_false]
        have e3 : (s[i] == 32 || s[i] == 10) = false := by
          cases hx : (s[i] == 32 || s[i] == 10)
          · rfl
          · rw [Bool.or_eq_true] at hx
            exfalso
            apply hc
            rcases hx with hx | hx <;> (rw [eq_of_beq hx]; decide)
        have e4 : ((decodeL (s[i] :: s.drop (i + 1))).1 == 32 || (decodeL (s[i] :: s.drop (i + 1))).1 == 10) = false := by
          rw [Bool.or_eq_false_iff, beq_eq_false_iff_ne, beq_eq_false_iff_ne]; omega
        rw [rtk, ptk, hd]
        simp only [isW_hi q1, br_false, flush, List.nil_append, e2, e3, e4, List.singleton_append]
        exact Mt.junk ⟨s[i], one, by omega⟩
    refine ⟨A, fun b f g hb hf hg hw => ?_⟩
    obtain ⟨f, rfl⟩ : ∃ x, f = x + 1 := ⟨f - 1, by omega⟩
    obtain ⟨g, rfl⟩ : ∃ x, g = x + 1 := ⟨g - 1, by omega⟩
    by_cases hl2 : letter s[i] = true
    · have hc : s[i].toNat < 128 := by
        rcases Nat.lt_or_ge s[i].toNat 128 with h | h
        · exact h
        · rw [letter_hi (by omega)] at hl2; cases hl2
      rw [ptk, hd]
      simp only [decode_lo _ _ hc, isW_letter, hl2, br_true, Option.getD_some]
      refine ih2 b (f + 1) g (by omega) (by omega) (by omega) (fun j h q1 q2 => ?_)
      rcases Nat.lt_or_ge j i with h3 | h3
      · exact hw j h q1 h3
      · have : j = i := by omega
        subst this; exact hl2
    · have hl2 : letter s[i] = false := by simpa using hl2
      rw [rtk_word s f b i hb hi hw (fun _ => hl2), ptk_flush s g b i (fun c l h => ?_) (fun h => by rw [hd] at h; cases h)]
      · refine Mt.cons ?_ (A f (g + 1) (by omega) (by omega))
        intro h0
        have := congrArg List.length h0
        simp [slc] at this
        omega
      · rw [hd] at h
        cases h
        by_cases hc : s[i].toNat < 128
        · rw [decode_lo _ _ hc]; exact hl2
        · exact isW_hi (decode_hi _ _ hc).1
theorem toks_rel (s : Str) : Mt s.length (rtoks s) (ptoks s) := (toks_mt s s.length 0 rfl (by omega)).1 _ _ (by omega) (by omega)
/-! # What is left to read is an end of what there was -/

def Sf (r r' : Rd) : Prop := r'.l <:+ r.l ∧ (r.l ≠ [] → r'.l ≠ [])
theorem Sf.refl (r : Rd) : Sf r r := ⟨List.suffix_refl _, fun h => h⟩
theorem Sf.trans {a b c : Rd} (h : Sf a b) (k : Sf b c) : Sf a c := ⟨k.1.trans h.1, fun q => k.2 (h.2 q)⟩
theorem sf_fail (r : Rd) : Sf r (pfail r) := by
  unfold pfail
  cases decide (r.bad < 0)
  · exact Sf.refl r
  · exact Sf.refl ⟨r.l, r.at_⟩
theorem sf_nx (r : Rd) : Sf r r.nx := by
  obtain ⟨l, b⟩ := r
  match l with
  | [] => exact Sf.refl _
  | [_] => exact Sf.refl _
  | x :: y :: l => exact ⟨⟨[x], rfl⟩, fun _ => by show y :: l ≠ []; simp⟩
theorem sf_take (w : Str) (r : Rd) : Sf r (ptake w r) := by
  unfold ptake
  cases r.pk != w
  · exact sf_nx r
  · exact sf_fail r
theorem sf_num (r : Rd) : Sf r (pnum r).2 := by
  unfold pnum
  split
  · exact sf_nx r
  · exact sf_fail r
theorem sf_word (r : Rd) : Sf r (pword r).2 := by
  unfold pword
  split
  · exact sf_fail r
  · rename_i c l _
    cases !letter c
    · exact sf_nx r
    · exact sf_fail r
theorem sf_numIf (u : Bool) (r : Rd) : Sf r (pnumIf u r).2 := by
  unfold pnumIf
  cases u && decide (r.bad < 0)
  · exact Sf.refl r
  · exact sf_num r
theorem sf_wordIf (u : Bool) (r : Rd) : Sf r (pwordIf u r).2 := by
  unfold pwordIf
  cases u
  · exact Sf.refl r
  · exact sf_word r
theorem sf_opt (w : Str) (o : Int) (r : Rd) : Sf r (popt w o r).2 := by
  unfold popt
  cases decide (r.bad ≥ 0) || r.pk != w
  · exact (sf_nx r).trans (sf_num _)
  · exact Sf.refl r
theorem sf_flds (k : Str) (u : Uses) (r : Rd) : Sf r (pflds k u r).2 := (sf_numIf _ _).trans ((sf_numIf _ _).trans ((sf_numIf _ _).trans ((sf_numIf _ _).trans (sf_wordIf _ _))))
theorem sf_cond : ∀ n : Nat, (∀ r, Sf r (pcond n r).2) ∧ (∀ nt r, Sf r (pkids n nt r).2)
  | 0 => ⟨fun r => by rw [pcond]; exact Sf.refl r, fun nt r => by rw [pkids]; exact Sf.refl r⟩
  | n + 1 => by
    obtain ⟨ih1, ih2⟩ := sf_cond n
    refine ⟨fun r => ?_, fun nt r => ?_⟩
    · rw [pcond]
      cases (kdOf r.pk).known
      · exact sf_fail r
      simp only [Bool.not_true, br_false]
      cases decide (r.bad ≥ 0)
      · simp only [br_false]
        cases (usesOf (kdOf r.pk)).kids
        · exact (sf_nx r).trans (sf_flds _ _ _)
        · simp only [Bool.not_true, br_false]
          refine ((sf_nx r).trans (sf_flds r.pk (usesOf (kdOf r.pk)) _)).trans ((sf_take [40] _).trans ((ih2 (r.pk == sNot) _).trans ?_))
          cases decide ((pkids n (r.pk == sNot) (ptake [40] (pflds r.pk (usesOf (kdOf r.pk)) r.nx).2)).2.bad < 0)
          · exact Sf.refl _
          · exact sf_take _ _
      · exact Sf.refl r
    · rw [pkids]
      cases decide (r.bad ≥ 0)
      · simp only [br_false]
        cases nt || (pcond n r).2.pk != [44]
        · exact (ih1 r).trans ((sf_nx _).trans (ih2 _ _))
        · exact ih1 r
      · exact Sf.refl r
/-- the tokens end with the empty one; none is too long -/
structure Gd (r : Rd) : Prop where
  en : ∃ l k, r.l = l ++ [⟨k, []⟩]
  tx : ∀ t ∈ r.l, t.txt.length ≤ 5000
theorem Gd.ne {r : Rd} (h : Gd r) : r.l ≠ [] := by
  obtain ⟨l, k, h⟩ := h.en
  rw [h]; simp
theorem Gd.sf {r r' : Rd} (h : Gd r) (k : Sf r r') : Gd r' := by
  obtain ⟨⟨p, hp⟩, hne⟩ := k
  have hne := hne h.ne
  obtain ⟨l, k, hl⟩ := h.en
  refine ⟨?_, fun t ht => h.tx t (by rw [← hp]; exact List.mem_append_right _ ht)⟩
  rcases List.eq_nil_or_concat r'.l with h1 | ⟨m, x, h1⟩
  · exact absurd h1 hne
  · rw [List.concat_eq_append] at h1
    refine ⟨m, k, ?_⟩
    rw [h1, hl, ← List.append_assoc] at hp
    have := List.append_inj_right' hp rfl
    rw [h1, this]
theorem Gd.pk {r : Rd} (h : Gd r) : r.pk.length ≤ 5000 := by
  unfold Rd.pk
  split
  · rename_i t l e; exact h.tx t (by rw [e]; simp)
  · simp
theorem Sf.len {r r' : Rd} (h : Sf r r') : r'.l.length ≤ r.l.length := h.1.length_le
theorem Gd.nx_len {r : Rd} (h : Gd r) (hp : r.pk ≠ []) : r.nx.l.length + 1 = r.l.length := by
  obtain ⟨l, k, hl⟩ := h.en
  obtain ⟨rl, b⟩ := r
  have hl : rl = l ++ [⟨k, []⟩] := hl
  subst hl
  cases l with
  | nil => exact absurd rfl hp
  | cons x l =>
    rw [List.cons_append] at hp ⊢
    rw [nx_cons _ _ _ (by simp)]
    rfl
theorem ptk_gd (S : Str) (hS : S.length ≤ 5000) : ∀ (f i : Nat) (bg : Option Nat), ∀ t ∈ ptk S f i bg, t.txt.length ≤ 5000
  | 0, i, bg, t, ht => by simp [ptk] at ht
  | f + 1, i, bg, t, ht => by
    have hs : ∀ a b, (slc S a b).length ≤ 5000 := fun a b => by unfold slc; simp; omega
    have hf : ∀ j, t ∈ flush S bg j → t.txt.length ≤ 5000 := fun j h => by
      cases bg with
      | none => simp [flush] at h
      | some b => simp only [flush, List.mem_singleton] at h; rw [h]; exact hs _ _
    rw [ptk] at ht
    cases hd : S.drop i with
    | nil =>
      rw [hd] at ht
      simp only [List.mem_append, List.mem_singleton] at ht
      rcases ht with ht | rfl
      · exact hf _ ht
      · simp
    | cons c l =>
      rw [hd] at ht
      simp only at ht
      cases hw : isW (decodeL (c :: l)).1 with
      | true => rw [hw, br_true] at ht; exact ptk_gd S hS f _ _ t ht
      | false =>
        rw [hw, br_false, List.mem_append, List.mem_append] at ht
        rcases ht with ht | ht | ht
        · exact hf _ ht
        · cases hsp : ((decodeL (c :: l)).1 == 32 || (decodeL (c :: l)).1 == 10) with
          | true => rw [hsp] at ht; simp [br] at ht
          | false =>
            rw [hsp, br_false, List.mem_singleton] at ht
            rw [ht]; exact hs _ _
        · exact ptk_gd S hS f _ _ t ht
theorem ptk_end (S : Str) : ∀ (f i : Nat) (bg : Option Nat), i ≤ S.length → S.length < f + i → ∃ l k, ptk S f i bg = l ++ [⟨k, []⟩]
  | 0, i, bg, h1, h2 => by omega
  | f + 1, i, bg, h1, h2 => by
    rw [ptk]
    cases hd : S.drop i with
    | nil => exact ⟨flush S bg S.length, S.length, rfl⟩
    | cons c l =>
      have hml : (c :: l).length = S.length - i := by rw [← hd, List.length_drop]
      have w1 : 1 ≤ (decodeL (c :: l)).2 ∧ (decodeL (c :: l)).2 ≤ (c :: l).length := by
        have h0 : 1 ≤ (c :: l).length := by simp
        generalize c :: l = m at *
        unfold decodeL
        simp only
        repeat' split
        all_goals simp only [Bool.and_eq_true, decide_eq_true_eq] at *
        all_goals omega
      simp only
      cases isW (decodeL (c :: l)).1 with
      | true =>
        obtain ⟨l', k, h⟩ := ptk_end S f (i + (decodeL (c :: l)).2) (some (bg.getD i)) (by omega) (by omega)
        rw [br_true]
        exact ⟨l', k, h⟩
      | false =>
        obtain ⟨l', k, h⟩ := ptk_end S f (i + (decodeL (c :: l)).2) none (by omega) (by omega)
        rw [br_false, h]
        exact ⟨_, k, by rw [← List.append_assoc, ← List.append_assoc]⟩
theorem ptoks_gd (S : Str) (hS : S.length ≤ 5000) (b : Int) : Gd ⟨ptoks S, b⟩ := ⟨ptk_end S _ 0 none (by omega) (by omega), ptk_gd S hS _ 0 none⟩
end Go.Am
