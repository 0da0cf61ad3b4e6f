/- A part of the proof of a statement of this seat: the machine on which the program is read, and what it computes; for every input. -/
import Derived.Test.YtaoeblefgefgpaaGreatDoorC18
set_option linter.all false
set_option linter.all false
namespace Go.Am
open Go
set_option maxRecDepth 100000
set_option maxHeartbeats 8000000
/-! # The reference's missing numbers -/
theorem mostR_app (nm : Str) (x : Shot) : ∀ (a : List Shot) (m : Int), mostR nm m (a ++ [x]) = bif x.i == nm then max (mostR nm m a) x.n else mostR nm m a
  | [], m => rfl
  | y :: a, m => by rw [List.cons_append, mostR, mostR, mostR_app nm x a]
theorem thereR_app (nm : Str) (n : Int) (a : List Shot) (x : Shot) : thereR nm n (a ++ [x]) = (thereR nm n a || (x.i == nm && x.n == n)) := by
  unfold thereR
  rw [List.any_append]; simp
theorem gaps_succ {nm : Str} {n : Int} (h : 1 ≤ n) : gaps nm 0 (n + 1) = gaps nm 0 n ++ [(nm, n)] := by
  unfold gaps
  rw [show (n + 1 - 1 - 0).toNat = (n - 1 - 0).toNat + 1 by omega, List.range_succ, List.map_append]
  congr 1
  simp; omega
theorem gaps_one {nm : Str} {n : Int} (h : n ≤ 1) : gaps nm 0 n = [] := by
  unfold gaps
  rw [show (n - 1 - 0).toNat = 0 by omega]; rfl
def upR (l : List Shot) (nm : Str) (n : Int) : List Mis := (gaps nm 0 n).filter fun x => !thereR nm x.2 l
theorem upR_succ {l : List Shot} {nm : Str} {n : Int} (h : 1 ≤ n) : upR l nm (n + 1) = upR l nm n ++ (bif thereR nm n l then [] else [(nm, n)]) := by
  unfold upR
  rw [gaps_succ h, List.filter_append]
  congr 1
  cases hb : thereR nm n l <;> simp [hb]
theorem max_op {e : Env} {s : St} {a b : Int} (ha : Env.get e 91 = .int .i64 a) (hb : Env.get e 96 = .int .i64 b) : opA U (execL U) e (.call { callee := .builtin .max, args := #[(.tmp 91), (.tmp 96)], argTypes := #[3, 3] }) s = some (.int .i64 (max a b), s) := by
  simp only [opA, evals, eval, ha, hb]
  show builtinA U .max #[3, 3] [.int .i64 a, .int .i64 b] s = _
  simp only [builtinA, maxA]
  have e : (if b > a then b else a) = max a b := by split <;> omega
  rw [e]
theorem missCells_len (l : List Mis) : (missCells l).length = l.length * 2 := by
  unfold missCells
  induction l with
  | nil => rfl
  | cons x l ih => rw [List.flatMap_cons, List.length_append, ih, List.length_cons]; show 2 + _ = _; omega
theorem c11 (nl : Bool) (l : List Shot) (hl : l.length ≤ 1000) (hn : ∀ x ∈ l, x.n ≤ 1000) (hlm : (missR l).length < 2 ^ 40) : calV U 11 [encS nl (shotsA l)] = some (encS true (missA (missR l))) := by
  refine pure_go k11 (by kernel_rfl) (by simp [stills, still_encS]) ?_
  refine names11 nl l hl ?_
  intro e0 s0 v g0 g3 hB0 hF0 row0
  generalize hN : namesR [] l = N at row0
  have hmost : ∀ nm, mostR nm 0 l ≤ 1000 := by
    intro nm
    rcases Int.lt_or_le 1000 (mostR nm 0 l) with h | h
    · rcases mostR_lt.1 h with h | ⟨s, h1, _, h2⟩
      · omega
      · have := hn s h1; omega
    · exact h
  have hrow : ∀ j, j < N.length → ∃ b, v = .sl b 0 N.length none 1 ∧ b < s0.next ∧ s0.get b = some (.cells (strs N) 9 false 0 0) := by
    intro j hj
    rcases row0 with ⟨h0, _⟩ | ⟨_, _, b, _, h3, h4, h5⟩
    · omega
    · exact ⟨b, h4, h3, h5⟩
  have hNl : N.length ≤ 1000 := by
    have : ∀ (l : List Shot) (acc : List Str), (namesR acc l).length ≤ acc.length + l.length := by
      intro l
      induction l with
      | nil => intro acc; simp [namesR]
      | cons x l ih =>
        intro acc
        have h1 : (insN x.i acc).length ≤ acc.length + 1 := by
          rw [insN_eq]
          split
          · omega
          · have := posN_le x.i acc
            simp only [List.length_append, List.length_take, List.length_drop, List.length_cons, List.length_nil]; omega
        have := ih (insN x.i acc)
        rw [namesR, List.length_cons]; omega
    have := this l []
    rw [hN] at this
    simp at this; omega
  have hlenv := row0.len
  have hfull : missR l = N.flatMap (oneR l) := by rw [missR, hN]
  -- the part that is done after j names, the numbers below n of the next one
  have hpart : ∀ (j : Nat) (hj : j < N.length) (n : Int), ((N.take j).flatMap (oneR l) ++ upR l N[j] n).length ≤ ((N.take j).flatMap (oneR l)).length + 1000 ∨ 1001 < n := by
    intro j hj n
    rcases Int.lt_or_le 1001 n with h | h
    · exact .inr h
    · left
      have : (upR l N[j] n).length ≤ 1000 := by
        unfold upR
        refine Nat.le_trans (List.length_filter_le _ _) ?_
        unfold gaps
        rw [List.length_map, List.length_range]; omega
      rw [List.length_append]; omega
  have hdone : ∀ j, ((N.take j).flatMap (oneR l)).length ≤ (missR l).length := by
    intro j
    rw [hfull]
    conv => rhs; rw [← List.take_append_drop j N, List.flatMap_append, List.length_append]
    omega
  simp +contextual only [go_sem, ↓reduceIte, r11_b]
  refine loop_to (σ := Nat) (fun j => N.length - j) (fun j => some (encS true (missA (missR l)))) (fun j e s => j ≤ N.length ∧ Env.get e 0 = encS nl (shotsA l) ∧ Env.get e 3 = v ∧ Env.get e 7 = .int .i64 j ∧ s0.next ≤ s.next ∧ (∀ b, b < s0.next → s.get b = s0.get b) ∧ Fr s ∧ ∃ w, Env.get e 6 = w ∧ RowI s s0.next 99 2 ((N.take j).flatMap (oneR l)).length (missCells ((N.take j).flatMap (oneR l))) w) 0 ?_ rfl ?_
  · rintro L j e s ⟨hj, g0, g3, g7, hn0, hkeep, hF, w, g6, row⟩ ih
    by_cases hd : j < N.length
    · have hw := wrap_succ hd (by omega)
      obtain ⟨b, rfl, hb, hcb⟩ := hrow j hd
      have hgN := strs_get hd
      simp +contextual only [go_sem, ↓reduceIte, r11_l5, g3, g7, hlenv, nat_lt_dec, hd]
      -- the greatest number
      refine loop_to (σ := Nat) (fun m => l.length - m) (fun m => some (encS true (missA (missR l)))) (fun m e s' => m ≤ l.length ∧ Env.get e 0 = encS nl (shotsA l) ∧ Env.get e 3 = .sl b 0 N.length none 1 ∧ Env.get e 7 = .int .i64 j ∧ Env.get e 6 = w ∧ Env.get e 9 = .int .i64 m ∧ Env.get e 8 = .int .i64 (mostR N[j] 0 (l.take m)) ∧ s.next ≤ s'.next ∧ (∀ b, b < s.next → s'.get b = s.get b) ∧ Fr s') 0 ?_ rfl ?_
      · rintro L2 m e s' ⟨hm, g0, g3, g7, g6, g9, g8, hn1, hkeep1, hF1⟩ ih2
        by_cases hdm : m < l.length
        · have hx := ixa_shots (nl := nl) hdm
          have hwm := wrap_succ hdm (by omega)
          have hcb' : s'.get b = some (.cells (strs N) 9 false 0 0) := by rw [hkeep1 b (by omega), hkeep b hb]; exact hcb
          have hma := mostR_app N[j] l[m] (l.take m) 0
          rw [← List.take_succ_eq_append_getElem hdm] at hma
          have hmx := fun (e : Env) (s : St) => @max_op e s (mostR N[j] 0 (l.take m)) l[m].n
          simp +contextual only [go_sem, ↓reduceIte, r11_l2, g0, g3, g7, g8, g9, nat_lt_dec, hdm, hd, hx, lenL_encS, shotsA_len, hcb', hgN, Nat.mul_one, hmx]
          cases hb2 : l[m].i == N[j] with
          | true =>
            rw [hb2, cond_true] at hma
            simp +contextual only [go_sem, ↓reduceIte, g8, hmx, hwm]
            refine ih2 (m + 1) _ _ (by omega) ⟨by omega, ?_, ?_, ?_, ?_, ?_, ?_, ?_, ?_, hF1.upto (by omega)⟩
            · simp +contextual only [go_sem, ↓reduceIte, g0]
            · simp +contextual only [go_sem, ↓reduceIte, g3]
            · simp +contextual only [go_sem, ↓reduceIte, g7]
            · simp +contextual only [go_sem, ↓reduceIte, g6]
            · simp +contextual only [go_sem, ↓reduceIte]
            · simp +contextual only [go_sem, ↓reduceIte, hma]
            · show s.next ≤ s'.next + 10; omega
            · intro c hc; rw [upto_get]; exact hkeep1 c hc
          | false =>
            rw [hb2, cond_false] at hma
            simp +contextual only [go_sem, ↓reduceIte, hwm]
            refine ih2 (m + 1) _ _ (by omega) ⟨by omega, ?_, ?_, ?_, ?_, ?_, ?_, ?_, ?_, hF1.upto (by omega)⟩
            · simp +contextual only [go_sem, ↓reduceIte, g0]
            · simp +contextual only [go_sem, ↓reduceIte, g3]
            · simp +contextual only [go_sem, ↓reduceIte, g7]
            · simp +contextual only [go_sem, ↓reduceIte, g6]
            · simp +contextual only [go_sem, ↓reduceIte]
            · simp +contextual only [go_sem, ↓reduceIte, g8, hma]
            · show s.next ≤ s'.next + 10; omega
            · intro c hc; rw [upto_get]; exact hkeep1 c hc
        · have : m = l.length := by omega
          subst this
          rw [List.take_length] at g8
          simp +contextual only [go_sem, ↓reduceIte, r11_l2, g0, g3, g7, g8, g9, nat_lt_dec, Nat.lt_irrefl, lenL_encS, shotsA_len]
          -- the numbers below it
          have hmo := hmost N[j]
          have row1 : RowI s' s0.next 99 2 ((N.take j).flatMap (oneR l)).length (missCells ((N.take j).flatMap (oneR l))) w := row.mono hn1 fun c _ hc => hkeep1 c hc
          have hup1 : upR l N[j] 1 = [] := by unfold upR; rw [gaps_one (Int.le_refl _)]; rfl
          refine loop_to (σ := Nat) (fun n => 1001 - n) (fun n => some (encS true (missA (missR l)))) (fun n e s2 => 1 ≤ n ∧ ((n : Int) ≤ mostR N[j] 0 l ∨ n = 1) ∧ Env.get e 0 = encS nl (shotsA l) ∧ Env.get e 3 = .sl b 0 N.length none 1 ∧ Env.get e 7 = .int .i64 j ∧ Env.get e 8 = .int .i64 (mostR N[j] 0 l) ∧ Env.get e 10 = .int .i64 n ∧ s0.next ≤ s2.next ∧ (∀ b, b < s0.next → s2.get b = s0.get b) ∧ Fr s2 ∧ ∃ w, Env.get e 6 = w ∧ RowI s2 s0.next 99 2 ((N.take j).flatMap (oneR l) ++ upR l N[j] n).length (missCells ((N.take j).flatMap (oneR l) ++ upR l N[j] n)) w) 1 ?_ rfl ?_
          · rintro L4 n e s2 ⟨hn1', hn2, g0, g3, g7, g8, g10, hs2, hkeep2, hF2, w2, g6, row2⟩ ih4
            by_cases hlt : (n : Int) < mostR N[j] 0 l
            · have hwn : IntKind.i64.wrap ((n : Int) + 1) = ((n + 1 : Nat) : Int) := by rw [wrap_i64] <;> omega
              simp +contextual only [go_sem, ↓reduceIte, r11_l4, g8, g10, hlt]
              refine loop_to (σ := Nat) (fun k => l.length - k) (fun k => some (encS true (missA (missR l)))) (fun k e s3 => k ≤ l.length ∧ Env.get e 0 = encS nl (shotsA l) ∧ Env.get e 3 = .sl b 0 N.length none 1 ∧ Env.get e 7 = .int .i64 j ∧ Env.get e 8 = .int .i64 (mostR N[j] 0 l) ∧ Env.get e 10 = .int .i64 n ∧ Env.get e 6 = w2 ∧ Env.get e 12 = .int .i64 k ∧ Env.get e 11 = .bool (thereR N[j] n (l.take k)) ∧ s2.next ≤ s3.next ∧ (∀ b, b < s2.next → s3.get b = s2.get b) ∧ Fr s3) 0 ?_ rfl ?_
              · rintro L3 k e s3 ⟨hk, g0, g3, g7, g8, g10, g6, g12, g11, hs3, hkeep3, hF3⟩ ih3
                by_cases hdk : k < l.length
                · have hx := ixa_shots (nl := nl) hdk
                  have hwk := wrap_succ hdk (by omega)
                  have hcb' : s3.get b = some (.cells (strs N) 9 false 0 0) := by rw [hkeep3 b (by omega), hkeep2 b hb]; exact hcb
                  have hth := thereR_app N[j] n (l.take k) l[k]
                  rw [← List.take_succ_eq_append_getElem hdk] at hth
                  simp +contextual only [go_sem, ↓reduceIte, r11_l3, g0, g3, g7, g8, g10, g11, g12, nat_lt_dec, hdk, hd, hx, lenL_encS, shotsA_len, hcb', hgN, Nat.mul_one, hwk]
                  refine ih3 (k + 1) _ _ (by omega) ⟨by omega, ?_, ?_, ?_, ?_, ?_, ?_, ?_, ?_, ?_, ?_, hF3.upto (by omega)⟩
                  · simp +contextual only [go_sem, ↓reduceIte, g0]
                  · simp +contextual only [go_sem, ↓reduceIte, g3]
                  · simp +contextual only [go_sem, ↓reduceIte, g7]
                  · simp +contextual only [go_sem, ↓reduceIte, g8]
                  · simp +contextual only [go_sem, ↓reduceIte, g10]
                  · simp +contextual only [go_sem, ↓reduceIte, g6]
                  · simp +contextual only [go_sem, ↓reduceIte]
                  · simp +contextual only [go_sem, ↓reduceIte, hth]
                  · show s2.next ≤ s3.next + 23; omega
                  · intro c hc; rw [upto_get]; exact hkeep3 c hc
                · have : k = l.length := by omega
                  subst this
                  rw [List.take_length] at g11
                  have hcb' : s3.get b = some (.cells (strs N) 9 false 0 0) := by rw [hkeep3 b (by omega), hkeep2 b hb]; exact hcb
                  have row3 : RowI s3 s0.next 99 2 ((N.take j).flatMap (oneR l) ++ upR l N[j] n).length (missCells ((N.take j).flatMap (oneR l) ++ upR l N[j] n)) w2 := row2.mono hs3 fun c _ hc => hkeep3 c hc
                  have hsucc := upR_succ (l := l) (nm := N[j]) (n := (n : Int)) (by omega)
                  simp +contextual only [go_sem, ↓reduceIte, r11_l3, g0, g3, g7, g8, g10, g11, g12, nat_lt_dec, Nat.lt_irrefl, lenL_encS, shotsA_len]
                  cases hth2 : thereR N[j] n l with
                  | true =>
                    rw [hth2, cond_true, List.append_nil] at hsucc
                    simp +contextual only [go_sem, ↓reduceIte, Bool.not_true, g10, hwn]
                    refine ih4 (n + 1) _ _ (by omega) ⟨by omega, .inl (by omega), ?_, ?_, ?_, ?_, ?_, by omega, fun c hc => by rw [hkeep3 c (by omega)]; exact hkeep2 c hc, hF3, w2, ?_, by rw [Int.natCast_succ, hsucc]; exact row3⟩
                    · simp +contextual only [go_sem, ↓reduceIte, g0]
                    · simp +contextual only [go_sem, ↓reduceIte, g3]
                    · simp +contextual only [go_sem, ↓reduceIte, g7]
                    · simp +contextual only [go_sem, ↓reduceIte, g8]
                    · simp +contextual only [go_sem, ↓reduceIte]
                    · simp +contextual only [go_sem, ↓reduceIte, g6]
                  | false =>
                    rw [hth2, cond_false] at hsucc
                    let X : List AV := [.str N[j], .int .i64 n]
                    let S1 : St := s3.new (.cells X 99 false 0 0)
                    have hn1 : S1.next = s3.next + 1 := rfl
                    have hold : ∀ c, c < s3.next → S1.get c = s3.get c := fun c hc => by
                      show (s3.new _).get c = _
                      rw [get_new, if_neg (by omega)]
                    have row4 : RowI S1 s0.next 99 2 ((N.take j).flatMap (oneR l) ++ upR l N[j] n).length (missCells ((N.take j).flatMap (oneR l) ++ upR l N[j] n)) w2 := row3.mono (by omega) fun c _ hc => hold c hc
                    obtain ⟨S2, ha, hn2', row5, hold2, hfr2⟩ := row4.app (by omega) (m := 1) (new := X) (by omega) rfl rfl
                    have hla : lenA w2 = ((N.take j).flatMap (oneR l) ++ upR l N[j] n).length := row3.lenA
                    have hsmall : ((N.take j).flatMap (oneR l) ++ upR l N[j] n).length ≤ 2 ^ 41 := by
                      rcases hpart j hd n with h | h
                      · have := hdone j; omega
                      · omega
                    have hk : appK 99 2 24 w2 (some (1, [.str N[j], .int .i64 n])) (s3.new (.cells [.str N[j], .int .i64 n] 99 false 0 0)) = some (.sl S1.next 0 (((N.take j).flatMap (oneR l) ++ upR l N[j] n).length + 1) none 2, S2) := by
                      rw [appK_some rfl (by rw [hla]; omega) (by rw [hla]; omega) (by omega)]; exact ha
                    simp +contextual only [go_sem, ↓reduceIte, Bool.not_false, g3, g6, g7, g10, hd, hcb', hgN, Nat.mul_one, hk, hwn]
                    refine ih4 (n + 1) _ _ (by omega) ⟨by omega, .inl (by omega), ?_, ?_, ?_, ?_, ?_, by omega, fun c hc => by rw [hold2 c hc, hold c (by omega), hkeep3 c (by omega)]; exact hkeep2 c hc, hfr2 (hF3.new _), _, rfl, ?_⟩
                    · simp +contextual only [go_sem, ↓reduceIte, g0]
                    · simp +contextual only [go_sem, ↓reduceIte, g3]
                    · simp +contextual only [go_sem, ↓reduceIte, g7]
                    · simp +contextual only [go_sem, ↓reduceIte, g8]
                    · simp +contextual only [go_sem, ↓reduceIte]
                    · simp +contextual only [go_sem, ↓reduceIte]
                      rw [Int.natCast_succ, hsucc, ← List.append_assoc, List.length_append, missCells, List.flatMap_append]
                      exact row5
              · refine ⟨Nat.zero_le _, ?_, ?_, ?_, ?_, ?_, ?_, ?_, ?_, Nat.le_refl _, fun _ _ => rfl, hF2⟩ <;> simp +contextual only [go_sem, ↓reduceIte, g0, g3, g7, g8, g10, g6] <;> rfl
            · have hfin : upR l N[j] n = oneR l N[j] := by
                unfold upR oneR
                rcases hn2 with h | h
                · rw [show (n : Int) = mostR N[j] 0 l by omega]
                · rw [gaps_one (by omega), gaps_one (by omega)]
              rw [hfin] at row2
              simp +contextual only [go_sem, ↓reduceIte, r11_l4, r11_j, g7, g8, g10, hlt, hw]
              refine ih (j + 1) _ _ (by omega) ⟨by omega, ?_, ?_, ?_, hs2, hkeep2, hF2, w2, ?_, ?_⟩
              · simp +contextual only [go_sem, ↓reduceIte, g0]
              · simp +contextual only [go_sem, ↓reduceIte, g3]
              · simp +contextual only [go_sem, ↓reduceIte]
              · simp +contextual only [go_sem, ↓reduceIte, g6]
              · rw [List.take_succ_eq_append_getElem hd, List.flatMap_append, List.flatMap_singleton]
                exact row2
          · refine ⟨Nat.le_refl _, .inr rfl, ?_, ?_, ?_, ?_, ?_, by omega, fun c hc => by rw [hkeep1 c (by omega)]; exact hkeep c hc, hF1, w, ?_, by rw [show ((1 : Nat) : Int) = 1 from rfl, hup1, List.append_nil]; exact row1⟩ <;> simp +contextual only [go_sem, ↓reduceIte, g0, g3, g7, g8, g6] <;> rfl
      · refine ⟨Nat.zero_le _, ?_, ?_, ?_, ?_, ?_, ?_, Nat.le_refl _, fun _ _ => rfl, hF⟩ <;> simp +contextual only [go_sem, ↓reduceIte, g0, g3, g7, g6] <;> rfl
    · have : j = N.length := by omega
      subst this
      rw [List.take_length, ← hfull] at row
      have hf := row.frz_agg U (A := Mis) (enc := misAV) ag_99 sz_99 (by decide) mis_agg (d := 3999) fun x => frz_mis s 3997 x
      simp +contextual only [go_sem, ↓reduceIte, r11_l5, r11_z, g3, g6, g7, hlenv, nat_lt_dec, Nat.lt_irrefl]
      rw [hf]; rfl
  · refine ⟨Nat.zero_le _, ?_, ?_, ?_, Nat.le_refl _, fun _ _ => rfl, hF0, .nils, ?_, RowI.nil ..⟩ <;> simp +contextual only [go_sem, ↓reduceIte, g0, g3] <;> rfl
/-! # bench.Collect and bench.FindMissing -/
theorem e37 {args : List AV} {s : St} : callK U (calV U 37 args) 37 args s = rowG (X := UC) collectG args s := (ck ..).trans rfl
theorem e38 {args : List AV} {s : St} : callK U (calV U 38 args) 38 args s = extSort args s := (ck ..).trans rfl
theorem shotsF_of : ∀ l : List Shot, shotsF (shotsA l) = some l
  | [] => rfl
  | x :: l => by
    show (match shotC x.cells, shotsF (shotsA l) with | some x, some r => some (x :: r) | _, _ => none) = _
    rw [shotsF_of l]; rfl
theorem flats_shots : ∀ l : List Shot, flats (shotsCells l) = true
  | [] => rfl
  | x :: l => by
    have := flats_shots l
    show flats (AV.str x.i :: .int .i64 x.n :: .int .i64 x.t :: .int .i64 x.f :: .int .i64 x.o :: shotsCells l) = true
    simp only [flats, flat, this, Bool.and_self]
theorem collG_fz {es : List AV} {l : List Shot} (h : shotsF es = some l) (hs : l.all shortS = true) : collectG [.fz es] = some (K.collR l) := by
  unfold collectG
  simp only [h, hs, cond_true]
  unfold K.collR
  split <;> rename_i hc <;> simp only [hc]
theorem collG {nl : Bool} {l : List Shot} (hs : l.all shortS = true) : collectG [encS nl (shotsA l)] = some (K.collR l) := by
  cases nl
  · rw [encS_fz]; exact collG_fz (shotsF_of l) hs
  · cases l with
    | nil => rfl
    | cons x l => exact collG_fz (es := shotsA (x :: l)) (shotsF_of _) hs
theorem frz_args {nl : Bool} {l : List Shot} {s : St} : mapO (frz UC s frzDepth) [encS nl (shotsA l)] = some [encS nl (shotsA l)] := by
  have := frz_encS UC s 3999 nl (shotsA l)
  show mapO (frz UC s 4000) _ = _
  rw [mapO, this]; rfl
theorem row_err {nl : Bool} {l : List Shot} {s : St} {er : Int} (hs : l.all shortS = true) (hc : collectC l = .err er) : rowG (X := UC) collectG [encS nl (shotsA l)] s = some (.tup [.nils, .int .i64 er], s) := by
  unfold rowG
  rw [frz_args]
  simp only [collG hs, K.collR, hc]
  rfl
theorem row_nil {nl : Bool} {l : List Shot} {s : St} (hs : l.all shortS = true) (hc : collectC l = .got []) : rowG (X := UC) collectG [encS nl (shotsA l)] s = some (.tup [.nils, .int .i64 0], s) := by
  unfold rowG
  rw [frz_args]
  simp only [collG hs, K.collR, hc]
  rfl
theorem row_got {nl : Bool} {l : List Shot} {s : St} {x : Shot} {r : List Shot} (hs : l.all shortS = true) (hc : collectC l = .got (x :: r)) : rowG (X := UC) collectG [encS nl (shotsA l)] s = some (.tup [.sl s.next 0 (r.length + 1) none 5, .int .i64 0], s.new (.cells (shotsCells (x :: r)) 42 false 0 0)) := by
  unfold rowG
  rw [frz_args]
  simp only [collG hs, K.collR, hc, flats_shots]
  rfl
def collV (l : List Shot) : AV := match collectC l with
  | .err e => .tup [.nils, .int .i64 e]
  | .got r => .tup [encS true (shotsA r), .int .i64 0]
theorem c7 (nl : Bool) (l : List Shot) (hs : l.all shortS = true) : calV U 7 [encS nl (shotsA l)] = some (collV l) := by
  refine pure_go k7 (by kernel_rfl) (by simp [stills, still_encS]) ?_
  unfold collV
  cases hc : collectC l with
  | err er =>
    simp +contextual only [go_sem, ↓reduceIte, r7, e37, row_err hs hc]
  | got r =>
    cases r with
    | nil =>
      simp +contextual only [go_sem, ↓reduceIte, r7, e37, row_nil hs hc]
      rfl
    | cons x r =>
      have row : RowI ((ownSt U).new (.cells (shotsCells (x :: r)) 42 false 0 0)) 10 42 5 (x :: r).length (shotsCells (x :: r)) (.sl 10 0 (r.length + 1) none 5) := by
        refine .inr ⟨by simp, K.cells_len _, 10, Nat.le_refl _, ?_, rfl, ?_⟩
        · rw [next_new, own_next, U_glob]; omega
        · rw [get_new, own_next, U_glob, if_pos rfl]
      have hf := row.frz_agg U (A := Shot) (enc := Shot.av) ag_42 sz_42 (by decide) shot_agg (d := 3998) fun x => frz_shot _ 3996 x
      simp +contextual only [go_sem, ↓reduceIte, r7, e37, row_got hs hc]
      simp +contextual only [go_sem, ↓reduceIte] at hf
      rw [hf]; rfl
end Go.Am
