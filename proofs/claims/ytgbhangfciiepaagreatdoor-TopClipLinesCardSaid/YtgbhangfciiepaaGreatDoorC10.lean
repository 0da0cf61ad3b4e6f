/- A part of the proof of a statement of this seat: the machine on which the program is read, and what it computes; for every input. -/
import Derived.Test.YtgbhangfciiepaaGreatDoorC09
set_option linter.all false
set_option linter.all false
namespace Go.Am
open Go
variable [MaxLen]
set_option maxRecDepth 100000
set_option maxHeartbeats 8000000
/-! # Words -/
/-- what a loop over a function does with each value -/
def rfA : Code → Code
  | .rangeFunc _ _ a _ => a
  | c => c
def rfB : Code → Code
  | .rangeFunc _ _ _ b => b
  | c => c
theorem q9_0_eq : q9_0 = .rangeFunc (.tmp 39) #[40] (rfA q9_0) (rfB q9_0) := by kernel_rfl
noncomputable def r9_a : RC := .ops [⟨some 8, none, none, false, .mov (.t 40)⟩]
theorem rc_9_a : rc U (rfA q9_0) = r9_a := by kernel_rfl
noncomputable def r9_b : RC := .block 1 (.ops [⟨some 41, none, none, false, .ld1 (.t 7)⟩,
  ⟨some 42, none, none, false, .mov (.t 8)⟩,
  ⟨some 43, none, none, false, .bsl 63 1 1 [(.int .u16 0)] [(0, 1, (.t 42))]⟩,
  ⟨some 44, none, none, false, .app 63 1 2 (.t 41) (.t 43)⟩,
  ⟨none, none, none, false, .st 1 (.t 7) (.t 44)⟩])
theorem rc_9_b : rc U (rfB q9_0) = r9_b := by kernel_rfl
/-- the loop over the words, between two rounds -/
structure InY (s : St) (l a c B : Nat) (env : Env) (A : AV) (T : List Nat) : Prop where
  lp : s.get l = some (.loop 0 none env [40] (rfA q9_0) (rfB q9_0))
  ea : Env.get env 7 = .ptr a 0
  sc : s.get c = some (.cells [A] 34 false 0 0)
  row : ∃ v, s.get a = some (.cells [v] 39 false 0 0) ∧ RowI s B 63 1 T.length (words T) v
  fr : Fr s
  lt : a < B ∧ c < B ∧ l < B ∧ B ≤ s.next ∧ a ≠ c ∧ a ≠ l ∧ c ≠ l
theorem execL_of {c : Code} {r : RC} (hr : rc U c = r) {e : Env} {s : St} {x : Out × Env × St} (h : go U id [] r e s = some x) : execL U c e s = some x := den_sound c e s x (by rw [hr]; exact h)
theorem y_round {s : St} {l a c B : Nat} {env : Env} {A : AV} {T : List Nat} (h : InY s l a c B env A T) (w : Nat) (hT : T.length + 1 < 2 ^ 30) :
    ∃ s', yieldA (execL U) l [.int .u16 (w : Nat)] s = some (.bool true, s') ∧ InY s' l a c B env A (T ++ [w]) := by
  obtain ⟨lp, ea, sc, ⟨v, sa, row⟩, fr, ⟨l1, l2, l3, l4, l5, l6, l7⟩⟩ := h
  have hA : execL U (rfA q9_0) (Tr.set env 40 (.int .u16 (w : Nat))) s = some (.norm, Tr.set (Tr.set env 40 (.int .u16 (w : Nat))) 8 (.int .u16 (w : Nat)), s) := by
    refine execL_of rc_9_a ?_
    simp +contextual only [go_sem, ↓reduceIte, r9_a, id_eq]
  obtain ⟨S, hS⟩ : ∃ S, S = s.put l (.loop 1 none env [40] (rfA q9_0) (rfB q9_0)) := ⟨_, rfl⟩
  have G : ∀ j, j ≠ l → S.get j = s.get j := fun j hj => by rw [hS, get_put, if_neg (fun e => hj e.symm)]
  have Gl : S.get l = some (.loop 1 none env [40] (rfA q9_0) (rfB q9_0)) := by rw [hS, get_put, if_pos rfl]
  have N : S.next = s.next := by rw [hS, next_put]
  have F : Fr S := by rw [hS]; exact fr.put (by omega) _
  have rowS : RowI S B 63 1 T.length (words T) v := row.mono (by omega) fun j h1 _ => G j (by omega)
  have sa' := (G a l6).trans sa
  have hla := rowS.lenA
  have hb1 : (T.length + 1) * 2 ≤ 1099511627776 := by omega
  have hb2 : T.length + 1 ≤ 1099511627776 := by omega
  obtain ⟨s1, e1, e2, e3, e4, _, e5⟩ := rowS.app1 (by omega) (.int .u16 (w : Nat)) rfl
  have hB : execL U (rfB q9_0) (Tr.set (Tr.set env 40 (.int .u16 (w : Nat))) 8 (.int .u16 (w : Nat))) S = some (.norm, Tr.set (Tr.set (Tr.set (Tr.set (Tr.set (Tr.set env 40 (.int .u16 (w : Nat))) 8 (.int .u16 (w : Nat))) 41 v) 42 (.int .u16 (w : Nat))) 43 (.sl S.next 0 1 (some 1) 1)) 44 (.sl (S.next + 1) 0 (T.length + 1) none 1), s1.put a (.cells [.sl (S.next + 1) 0 (T.length + 1) none 1] 39 false 0 0)) := by
    refine execL_of rc_9_b ?_
    have sa1 := (e4 a (by omega)).trans sa'
    simp +contextual only [go_sem, ↓reduceIte, r9_b, id_eq, ea, sa', appK_some, Nat.reducePow, Nat.one_mul, hla, hb1, hb2, e1, sa1]
  have g1l : s1.get l = some (.loop 1 none env [40] (rfA q9_0) (rfB q9_0)) := (e4 l (by omega)).trans Gl
  refine ⟨(s1.put a (.cells [.sl (S.next + 1) 0 (T.length + 1) none 1] 39 false 0 0)).put l (.loop 0 none env [40] (rfA q9_0) (rfB q9_0)), ?_, ⟨?_, ea, ?_, ⟨.sl (S.next + 1) 0 (T.length + 1) none 1, ?_, ?_⟩, ?_, ⟨l1, l2, l3, ?_, l5, l6, l7⟩⟩⟩
  · have g2l : (s1.put a (.cells [.sl (S.next + 1) 0 (T.length + 1) none 1] 39 false 0 0)).get l = some (.loop 1 none env [40] (rfA q9_0) (rfB q9_0)) := by rw [get_put, if_neg l6, g1l]
    unfold yieldA
    rw [lp]
    simp only [List.length_cons, List.length_nil, if_true, List.zip_cons_cons, List.zip_nil_right, List.foldl_cons, List.foldl_nil, hA, lp]
    rw [← hS, hB]
    simp only [g2l]
    rfl
  · rw [get_put, if_pos rfl]
  · rw [get_put, if_neg (fun e => l7 e.symm), get_put, if_neg l5, e4 c l2, G c l7, sc]
  · rw [get_put, if_neg (fun e => l6 e.symm), get_put, if_pos rfl]
  · have hw : words T ++ [.int .u16 (w : Nat)] = words (T ++ [w]) := by rw [words, words, List.map_append]; rfl
    rw [hw] at e3
    rw [List.length_append]
    exact e3.mono (by rw [next_put, next_put]; omega) fun j h1 _ => by rw [get_put, if_neg (by omega), get_put, if_neg (by omega)]
  · exact ((e5 F).put (by omega) _).put (by rw [next_put]; omega) _
  · rw [next_put, next_put]; omega
theorem calv_y (l : Nat) (args : List AV) (s : St) : calv U (.fn (.yield l) [] []) args s = yieldA (execL U) l args s := rfl
theorem bin_shl16 (c : Bool) {i : Nat} (h : i ≤ 15) : binA U .shl 63 c (.int .u16 1) (.int .i64 (i : Nat)) = some (.int .u16 ((2 ^ i : Nat) : Int)) := by
  have h0 : ¬ ((i : Int) < 0) := by omega
  have hm : min (i : Int).toNat IntKind.u16.bits = i := by
    have : IntKind.u16.bits = 16 := rfl
    rw [this]; omega
  have : ∀ i : Fin 16, IntKind.u16.wrap (1 * 2 ^ i.val) = ((2 ^ i.val : Nat) : Int) := by decide
  have hw := this ⟨i, by omega⟩
  simp only [binA, shiftA, h0, if_false, hm, hw]
theorem bin_or16 (c : Bool) {a i : Nat} (h : a < 2 ^ i) (hi : i ≤ 15) : binA U .or 63 c (.int .u16 (a : Nat)) (.int .u16 ((2 ^ i : Nat) : Int)) = some (.int .u16 ((a + 2 ^ i : Nat) : Int)) := by
  have hp : 2 ^ i * 2 ≤ 2 ^ 16 := by
    rw [← Nat.pow_succ]; exact Nat.pow_le_pow_right (by omega) (by omega)
  have h1 : (BitVec.ofInt IntKind.u16.bits (a : Int) ||| BitVec.ofInt IntKind.u16.bits ((2 ^ i : Nat) : Int)).toNat = a + 2 ^ i := by
    refine (BitVec.toNat_or (BitVec.ofInt 16 a) (BitVec.ofInt 16 ((2 ^ i : Nat) : Int))).trans ?_
    have e1 : BitVec.ofInt 16 (a : Int) = BitVec.ofNat 16 a := BitVec.ofInt_natCast ..
    have e2 : BitVec.ofInt 16 ((2 ^ i : Nat) : Int) = BitVec.ofNat 16 (2 ^ i) := BitVec.ofInt_natCast ..
    rw [e1, e2, BitVec.toNat_ofNat, BitVec.toNat_ofNat, Nat.mod_eq_of_lt (by omega), Nat.mod_eq_of_lt (by omega)]
    have := Nat.two_pow_add_eq_or_of_lt h 1
    rw [Nat.mul_one, Nat.or_comm] at this
    omega
  have hw : IntKind.u16.wrap ((a + 2 ^ i : Nat) : Int) = ((a + 2 ^ i : Nat) : Int) := by
    have hb : IntKind.u16.wrap ((a + 2 ^ i : Nat) : Int) = ((a + 2 ^ i : Nat) : Int) % 65536 := rfl
    rw [hb]; omega
  simp only [binA, intA, if_true, h1, hw]
/-! # Words, one after another -/
theorem wds_take (L : List (List Bool)) (t : Nat) : wds L (t + 1) = wds L t ++ [wAcc L t L.length] := by
  unfold wds; rw [List.range_succ, List.map_append]; rfl
theorem c62 {L : List (List Bool)} {n : Nat} {s : St} {l a c B : Nat} {env : Env} (h : Lns L n) (y : InY s l a c B env (.fz (L.map encB)) []) :
    ∃ v s', cal U 62 [.fn (.yield l) [] [], .ptr c 0] s = some (v, s') ∧ InY s' l a c B env (.fz (L.map encB)) (wds L n) := by
  refine kept_ex k62 (by kernel_rfl) (Q := fun v s' => InY s' l a c B env (.fz (L.map encB)) (wds L n)) ?_
  have hx0 := ixa_line0 h
  have hl0 := h.at h.pos
  have sc := y.sc
  simp +contextual only [go_sem, ↓reduceIte, r62, sc, hx0, len_encB, hl0]
  refine loop_ex (Post := okQ _) (σ := Nat) (fun t => n - t) (fun t e s => t ≤ n ∧ Env.get e 0 = .fn (.yield l) [] [] ∧ Env.get e 1 = .ptr c 0 ∧ Env.get e 10 = .int .i64 n ∧ Env.get e 11 = .int .i64 (t : Nat) ∧ InY s l a c B env (.fz (L.map encB)) (wds L t)) 0 ?_ ?_
  · rintro Lp t e s ⟨ht, g0, g1, g10, g11, y⟩ ih
    have sc := y.sc
    by_cases hd : t < n
    · have hwt := wrap_succ hd (by have := h.n_le; omega)
      simp +contextual only [go_sem, ↓reduceIte, r62_l1, g0, g1, g10, g11, nat_lt_dec, hd, sc, List.length_map]
      refine loop_ex (Post := okQ _) (σ := Nat) (fun i => L.length - i) (fun i e' s' => i ≤ L.length ∧ s' = s ∧ Env.get e' 0 = .fn (.yield l) [] [] ∧ Env.get e' 1 = .ptr c 0 ∧ Env.get e' 10 = .int .i64 n ∧ Env.get e' 11 = .int .i64 (t : Nat) ∧ Env.get e' 3 = .int .i64 (t : Nat) ∧ Env.get e' 4 = .int .u16 (wAcc L t i : Nat) ∧ Env.get e' 14 = .fz (L.map encB) ∧ Env.get e' 15 = .int .i64 L.length ∧ Env.get e' 16 = .int .i64 (i : Nat)) 0 ?_ ?_
      · rintro Lq i e' s' ⟨hi, rfl, q0, q1, q10, q11, q3, q4, q14, q15, q16⟩ jh
        by_cases hd2 : i < L.length
        · have hx := ixa_lines hd2
          have hw := wrap_succ hd2 (by have := h.le; omega)
          have hlt : t < L[i].length := by rw [h.at hd2]; exact hd
          have hxb : ixRA 1 (encB L[i]) (.int .i64 (t : Int)) = some (.fp [.bool L[i][t]] 0) := ixa_bools hlt
          have hgd : (L.getD i []).getD t false = L[i][t] := by
            have e : L.getD i [] = L[i] := by rw [List.getD_eq_getElem?_getD, List.getElem?_eq_getElem hd2]; rfl
            rw [e, List.getD_eq_getElem?_getD, List.getElem?_eq_getElem hlt]; rfl
          have hs := bin_shl16 true (i := i) (by have := h.le; omega)
          have ho := bin_or16 false (wAcc_lt L t i) (by have := h.le; omega)
          have hac : wAcc L t (i + 1) = wAcc L t i + bif L[i][t] then 2 ^ i else 0 := by rw [wAcc, hgd]
          cases hb : L[i][t] with
          | true =>
            rw [hb] at hxb hac
            simp only [cond_true] at hac
            simp +contextual only [go_sem, ↓reduceIte, r62_l0, q0, q1, q10, q11, q3, q4, q14, q15, q16, nat_lt_dec, hd2, hx, hxb, hs, ho, hw]
            refine jh (i + 1) _ _ (by omega) ⟨by omega, rfl, ?_, ?_, ?_, ?_, ?_, ?_, ?_, ?_, ?_⟩
            all_goals simp +contextual only [go_sem, ↓reduceIte, q0, q1, q10, q11, q3, q14, q15, hac]
          | false =>
            rw [hb] at hxb hac
            simp only [cond_false, Nat.add_zero] at hac
            simp +contextual only [go_sem, ↓reduceIte, r62_l0, q0, q1, q10, q11, q3, q4, q14, q15, q16, nat_lt_dec, hd2, hx, hxb, hw]
            refine jh (i + 1) _ _ (by omega) ⟨by omega, rfl, ?_, ?_, ?_, ?_, ?_, ?_, ?_, ?_, ?_⟩
            all_goals simp +contextual only [go_sem, ↓reduceIte, q0, q1, q10, q11, q3, q4, q14, q15, hac]
        · have : i = L.length := by omega
          subst this
          obtain ⟨s2, p1, p2⟩ := y_round y (wAcc L t L.length) (by rw [wds_len]; have := h.n_le; omega)
          rw [← wds_take] at p2
          simp +contextual only [go_sem, ↓reduceIte, r62_l0, q0, q1, q10, q11, q3, q4, q14, q15, q16, nat_lt_dec, Nat.lt_irrefl, calv_y, p1, hwt]
          refine ih (t + 1) _ _ (by omega) ⟨by omega, ?_, ?_, ?_, ?_, p2⟩
          all_goals simp +contextual only [go_sem, ↓reduceIte, q0, q1, q10, hwt]
      · refine ⟨Nat.zero_le _, rfl, ?_, ?_, ?_, ?_, ?_, ?_, ?_, ?_, ?_⟩
        all_goals simp +contextual only [go_sem, ↓reduceIte, g0, g1, g10, g11]
        all_goals rfl
    · have : t = n := by omega
      subst this
      simp +contextual only [go_sem, ↓reduceIte, r62_l1, g0, g1, g10, g11, nat_lt_dec, Nat.lt_irrefl, okQ_some]
      exact y
  · refine ⟨Nat.zero_le _, ?_, ?_, ?_, ?_, y⟩
    all_goals simp +contextual only [go_sem, ↓reduceIte]
    all_goals rfl
theorem st_lt {s : St} (fr : Fr s) {j : Nat} {x : Blk} (h : s.get j = some x) : j < s.next := by
  rcases Nat.lt_or_ge j s.next with h1 | h1
  · exact h1
  · rw [fr j h1] at h; cases h
/-- the loop over the words -/
theorem rf9 {L : List (List Bool)} {n : Nat} (h : Lns L n) {e : Env} {s : St} {a c : Nat} (e39 : Env.get e 39 = .fn (.func 62) [] [.ptr c 0]) (e7 : Env.get e 7 = .ptr a 0) (sa : s.get a = some (.cells [.nils] 39 false 0 0)) (sc : s.get c = some (.cells [.fz (L.map encB)] 34 false 0 0)) (fr : Fr s) (hac : a ≠ c) :
    ∃ s' v B, execL U q9_0 e s = some (.norm, e, s') ∧ s'.get a = some (.cells [v] 39 false 0 0) ∧ RowI s' B 63 1 n (words (wds L n)) v ∧ Fr s' := by
  have la := st_lt fr sa
  have lc := st_lt fr sc
  have y : InY (s.new (.loop 0 none e [40] (rfA q9_0) (rfB q9_0))) s.next a c (s.next + 1) e (.fz (L.map encB)) [] :=
    ⟨by rw [get_new, if_pos rfl], e7, by rw [get_new, if_neg (by omega)]; exact sc, ⟨.nils, by rw [get_new, if_neg (by omega)]; exact sa, RowI.nil _ _ _ _⟩, fr.new _, ⟨by omega, by omega, by omega, by rw [next_new]; omega, hac, by omega, by omega⟩⟩
  obtain ⟨v, s', h1, w1, w2, w3, ⟨vl, w4, w5⟩, w6, w7, w8⟩ := c62 h y
  have hx : (U.ext 62).isNone = true := by rw [U_ext]; rfl
  rw [wds_len] at w5
  have hln := st_lt w6 w1
  refine ⟨s'.put s.next .gone, vl, s.next + 1, ?_, ?_, w5.mono (by rw [next_put]; omega) fun j h1 _ => by rw [get_put, if_neg (by omega)], w6.put hln _⟩
  · rw [execL_eq, q9_0_eq]
    simp only [stepA, eval, e39, hx, if_true, List.nil_append]
    have h1' : callF U (execL U) 62 ([AV.fn (.yield s.next) [] []] ++ [AV.ptr c 0]) (s.new (.loop 0 none e #[40].toList (rfA q9_0) (rfB q9_0))) = some (v, s') := h1
    rw [h1']
    simp only [w1, endLoopA]
    rfl
  · rw [get_put, if_neg (by omega), w4]
/-! # Words -/
theorem raw_go {β : Type} {fin : Fl → β} {ks : List K} {c : Code} {e e' : Env} {s s' : St} (h : execL U c e s = some (.norm, e', s')) : go U fin ks (.raw c) e s = goN U fin ks e' s' := by
  show pop U fin ks (execL U c e s) = _
  rw [h]; rfl
theorem raw_step {β : Type} {fin : Fl → β} {ks : List K} {Post : β → Prop} {c : Code} {e : Env} {s : St} {Q : Env → St → Prop} (h : ∃ e' s', execL U c e s = some (.norm, e', s') ∧ Q e' s') (hk : ∀ e' s', Q e' s' → Post (goN U fin ks e' s')) : Post (go U fin ks (.raw c) e s) := by
  obtain ⟨e', s', h1, h2⟩ := h
  rw [raw_go h1]; exact hk e' s' h2
theorem rf9' {L : List (List Bool)} {n : Nat} (h : Lns L n) {e : Env} {s : St} (e39 : Env.get e 39 = .fn (.func 62) [] [.ptr 25 0]) (e7 : Env.get e 7 = .ptr 24 0) (sa : s.get 24 = some (.cells [.nils] 39 false 0 0)) (sc : s.get 25 = some (.cells [.fz (L.map encB)] 34 false 0 0)) (fr : Fr s) :
    ∃ e' s', execL U q9_0 e s = some (.norm, e', s') ∧ Env.get e' 7 = .ptr 24 0 ∧ ∃ v B, s'.get 24 = some (.cells [v] 39 false 0 0) ∧ RowI s' B 63 1 n (words (wds L n)) v := by
  obtain ⟨s', v, B, q1, q2, q3, _⟩ := rf9 h e39 e7 sa sc fr (by decide)
  exact ⟨e, s', q1, e7, v, B, q2, q3⟩
theorem o9 {β : Type} {fin : Fl → β} {Post : β → Prop} {L : List (List Bool)} {n : Nat} (h : Lns L n)
    (hk : ∀ e s v B, Env.get e 2 = v → Env.get e 3 = .int .i64 0 → RowI s B 63 1 n (words (wds L n)) v → Post (fin (some (.ret, e, s)))) :
    Post (go U fin [] r9 (bindArgs 0 [.fz (L.map encB)] .nil) (ownSt U)) := by
  have st1 : ∀ b o n c z, stills [.sl b o n c z] = false := fun b o n c z => by simp [stills, still]
  have hx0 := ixa_line0 h
  have hl0 := h.at h.pos
  have e1 : (((L.length : Nat) : Int) == 0) = false := by have := h.pos; rw [beq_eq_false_iff_ne]; omega
  have e2 : decide (((L.length : Nat) : Int) > 16) = false := decide_eq_false (by have := h.le; omega)
  have e3 : decide (((n : Nat) : Int) > 4096) = false := decide_eq_false (by have := h.n_le; omega)
  have h31 : ∀ s : St, s.get 11 = some (.cells [.fz (L.map encB)] 34 false 0 0) → cal U 31 [.fz (L.map encB), .fn (.func 32) [] [.ptr 11 0]] s = some (.bool false, s) := fun s hs => c31 h hs
  simp +contextual only [go_sem, ↓reduceIte, r9, hx0, len_encB, hl0, List.length_map, e1, e2, e3, c23, z22 (st1 _ _ _ _ _), cz22_2, Option.isNone_none, ck, h31, c33]
  refine raw_step (Q := fun e' s' => Env.get e' 7 = .ptr 24 0 ∧ ∃ v B, s'.get 24 = some (.cells [v] 39 false 0 0) ∧ RowI s' B 63 1 n (words (wds L n)) v) ?_ ?_
  · refine rf9' h ?_ ?_ ?_ ?_ ?_
    case refine_5 =>
      repeat first | exact Fr.own | apply Fr.new | apply Fr.put | apply Fr.upto
      all_goals simp +contextual only [go_sem, ↓reduceIte]
      all_goals omega
    all_goals simp +contextual only [go_sem, ↓reduceIte]
  · rintro e' s' ⟨p7, v, B, pg, row⟩
    simp +contextual only [go_sem, ↓reduceIte, p7, pg]
    refine hk _ _ v B ?_ ?_ row
    all_goals simp +contextual only [go_sem, ↓reduceIte]
theorem cz9 {L : List (List Bool)} {n : Nat} (h : Lns L n) (s : St) : calZ U 9 (some [.fz (L.map encB)]) s = some (.tup [encS true (words (wds L n)), .int .i64 0], s) := by
  refine calZ_some U s ?_
  obtain ⟨w, s', B, h1, h2⟩ := o9 (fin := finB U [.tmp 2, .tmp 3]) (Post := fun x => ∃ w s' B, x = some (AV.tup [w, .int .i64 0], s') ∧ RowI s' B 63 1 n (words (wds L n)) w) h
    fun e s w B h4 h5 hv => ⟨w, s, B, by simp +contextual only [go_sem, ↓reduceIte, h4, h5], hv⟩
  unfold callQ
  rw [callB_k k9 h1]
  simp only [Bool.false_eq_true, if_false]
  have e : n = (words (wds L n)).length := by rw [words_len, wds_len]
  rw [e] at h2
  rw [← e] at h2
  refine frz_row2 (B := B) (t := 63) (by rw [← e]; exact h2) ag_63 sz_63 ?_ fun d => mapO_self fun x hx => ?_
  · rw [List.all_eq_true]; intro x hx
    obtain ⟨b, _, rfl⟩ := List.mem_map.1 hx; rfl
  · obtain ⟨b, _, rfl⟩ := List.mem_map.1 hx; rfl
/-! # Blocks -/
theorem grab_take : ∀ (n o : Nat) (l : List AV), o + n ≤ l.length → grab n o l = some ((l.drop o).take n)
  | 0, o, l, _ => by rw [grab_zero]; simp
  | n + 1, o, [], h => by simp at h
  | n + 1, 0, x :: l, h => by
    rw [grab_head, grab_take n 0 l (by simp at h; omega)]; rfl
  | n + 1, o + 1, x :: l, h => by
    rw [grab_tail, grab_take (n + 1) o l (by simp at h; omega)]; rfl
theorem lay_over : ∀ (vs xs : List AV), vs.length ≤ xs.length → lay 0 vs xs = some (vs ++ xs.drop vs.length)
  | [], xs, _ => by rw [lay_nil]; rfl
  | v :: vs, [], h => by simp at h
  | v :: vs, x :: xs, h => by
    rw [lay_zero, lay_over vs xs (by simpa using h)]; rfl
/-- a block of 16 words -/
def blk (W : List Nat) (i : Nat) : List Nat := (List.range 16).map fun j => W.getD (16 * i + j) 0
/-- words, filled up with 0 -/
def padL (W : List Nat) (k : Nat) : List Nat := (List.range (16 * k)).map fun j => W.getD j 0
theorem blk_len (W : List Nat) (i : Nat) : (blk W i).length = 16 := by simp [blk]
theorem padL_len (W : List Nat) (k : Nat) : (padL W k).length = 16 * k := by simp [padL]
theorem padL_succ (W : List Nat) (k : Nat) : padL W (k + 1) = padL W k ++ blk W k := by
  unfold padL blk
  refine List.ext_getElem (by simp; omega) fun j h1 h2 => ?_
  simp only [List.getElem_map, List.getElem_range, List.getElem_append, List.length_map, List.length_range]
  split
  · rfl
  · congr 1; omega
theorem padL_over {W : List Nat} {k : Nat} (h : W.length ≤ 16 * k) : W ++ List.replicate (16 * k - W.length) 0 = padL W k := by
  unfold padL
  refine List.ext_getElem (by simp; omega) fun j h1 h2 => ?_
  simp only [List.getElem_map, List.getElem_range, List.getElem_append, List.getElem_replicate, List.getD_eq_getElem?_getD]
  split
  · rename_i hj; rw [List.getElem?_eq_getElem hj]; rfl
  · rename_i hj; rw [List.getElem?_eq_none (by omega)]; rfl
theorem padL_blk {W : List Nat} {k i : Nat} (h : i < k) : ((padL W k).drop (16 * i)).take 16 = blk W i := by
  unfold padL blk
  refine List.ext_getElem (by simp; omega) fun j h1 h2 => ?_
  simp only [List.getElem_take, List.getElem_drop, List.getElem_map, List.getElem_range]
theorem padL_take {W : List Nat} {k : Nat} (h : W.length ≤ 16 * k) : (padL W k).take W.length = W := by rw [← padL_over h, List.take_left]
theorem padL_drop {W : List Nat} {k : Nat} (h : W.length ≤ 16 * k) : (padL W k).drop W.length = List.replicate (16 * k - W.length) 0 := by rw [← padL_over h, List.drop_left]
def encK (W : List Nat) (i : Nat) : AV := .agg (words (blk W i))
theorem words_drop (l : List Nat) (n : Nat) : (words l).drop n = words (l.drop n) := by unfold words; rw [List.map_drop]
theorem words_take (l : List Nat) (n : Nat) : (words l).take n = words (l.take n) := by unfold words; rw [List.map_take]
theorem words_app (a b : List Nat) : words a ++ words b = words (a ++ b) := by unfold words; rw [List.map_append]
theorem noAgg_words (l : List Nat) : (words l).all noAgg = true := by
  rw [List.all_eq_true]; intro x hx
  obtain ⟨b, _, rfl⟩ := List.mem_map.1 hx; rfl
theorem opA_mksW {ex : Ex} {a : Nat} {e : Env} {s : St} {n : Nat} (h : Env.get e a = .int .i64 (n : Int)) (hn : n ≤ 2 ^ 20) :
    opA U ex e (.makeSlice 39 (.tmp a) (.tmp a)) s = some (.sl s.next 0 n (some n) 1, s.new (.cells (List.replicate n (.int .u16 0)) 63 false 0 0)) := by
  have h40 : U.und 39 = some (.slice 63) := by kernel_rfl
  have hz : zero U 63 = some (.int .u16 0) := by kernel_rfl
  have hi : (U.inf 63).map (fun i => (i.bytes, i.size)) = some (2, 1) := by kernel_rfl
  cases hj : U.inf 63 with
  | none => rw [hj] at hi; cases hi
  | some j =>
    rw [hj] at hi
    simp only [Option.map_some, Option.some.injEq, Prod.mk.injEq] at hi
    obtain ⟨h1, h2⟩ := hi
    rw [← repeatL_one]
    simp only [opA, eval, h, h40, hj, hz]
    rw [if_pos ⟨by omega, by omega, by rw [h1]; omega, by omega, by rw [h2]; rfl, by omega⟩, h2]
    rfl
theorem flat_words (l : List Nat) : (words l).flatMap AV.cells = words l := by
  induction l with
  | nil => rfl
  | cons x l ih =>
    show AV.cells _ ++ (words l).flatMap AV.cells = _
    rw [ih]; rfl
theorem opA_copy {ex : Ex} {a c : Nat} {e : Env} {s : St} {W : List Nat} {b k : Nat} (h1 : Env.get e a = .sl b 0 (16 * k) (some (16 * k)) 1) (h2 : Env.get e c = .fz (words W)) (hb : s.get b = some (.cells (List.replicate (16 * k) (.int .u16 0)) 63 false 0 0)) (hl : W.length ≤ 16 * k) (hk : 0 < k) :
    opA U ex e (.call { callee := .builtin .copy, args := #[.tmp a, .tmp c], argTypes := #[39, 39] }) s = some (.int .i64 W.length, s.put b (.cells (words (padL W k)) 63 false 0 0)) := by
  have hu : U.und 39 = some (.slice 63) := by kernel_rfl
  have hs : size U 63 = some 1 := sz_63
  have hsrc : sourceA 1 (.fz (words W)) s = some (W.length, words W) := by
    have hall : (words W).all (fun x => x.cells.length == 1) = true := by
      rw [List.all_eq_true]; intro x hx
      obtain ⟨z, _, rfl⟩ := List.mem_map.1 hx; rfl
    simp only [sourceA, hall, flat_words, words_len]
    rfl
  have hlay : lay 0 (words W) (List.replicate (16 * k) (.int .u16 0)) = some (words (padL W k)) := by
    rw [lay_over _ _ (by rw [words_len, List.length_replicate]; exact hl), words_len, List.drop_replicate]
    have : List.replicate (16 * k - W.length) (AV.int .u16 0) = words (List.replicate (16 * k - W.length) 0) := by unfold words; rw [List.map_replicate]; rfl
    rw [this, words_app, padL_over hl]
  have hw : writeCells s b 0 (words W) = some (s.put b (.cells (words (padL W k)) 63 false 0 0)) := by
    unfold writeCells
    rw [hb]
    simp only [noAgg_words, hlay, Nat.le_refl, decide_true, Bool.or_true, Bool.and_true, if_true]
  have hc : copyA U 39 (.sl b 0 (16 * k) (some (16 * k)) 1) (.fz (words W)) s = some (.int .i64 W.length, s.put b (.cells (words (padL W k)) 63 false 0 0)) := by
    unfold copyA
    simp only [hu, hs, hsrc]
    rw [if_pos ⟨hl, by omega⟩, hw]
  show (match evals U e [.tmp a, .tmp c] with | some vs => builtinA U .copy #[39, 39] vs s | none => none) = _
  simp only [evals, eval, h1, h2]
  exact hc
theorem opA_s2a {ex : Ex} {a : Nat} {e : Env} {s : St} {b o len : Nat} {c : Option Nat} {z : Nat} (h1 : Env.get e a = .sl b o len c z) (h : 16 ≤ len) : opA U ex e (.sliceToArrayPointer 80 (.tmp a)) s = some (.ptr b o, s) := by
  have hu : U.und 80 = some (.array 16 63) := by kernel_rfl
  simp only [opA, eval, h1, hu]
  rw [if_pos ⟨by omega, h⟩]; rfl
theorem slr_from {b m i : Nat} (h : i ≤ m) : slRL 1 (.sl b 0 m (some m) 1) (some (.int .i64 (i : Nat))) none = some (.sl b i (m - i) (some (m - i)) 1) := by
  simp only [slRL, boundA]
  rw [if_pos (by omega)]
  simp
theorem c10 {W : List Nat} (h0 : 0 < W.length) (hl : W.length ≤ 4096) : calV U 10 [.fz (words W)] = some (.tup [.fz ((List.range ((W.length + 15) / 16)).map (encK W)), .int .i64 0]) := by
  refine pure_go k10 (by kernel_rfl) (by simp [stills, still]) ?_
  obtain ⟨k, hk⟩ : ∃ k, k = (W.length + 15) / 16 := ⟨_, rfl⟩
  have h34 := c34 (l := .fz (words W)) (n := W.length) (by rw [lenL_fz, words_len]) (by simp [still]) (by omega)
  have h35 := c35 (n := W.length) (by omega)
  rw [← hk] at h35 ⊢
  have hW : W.length ≤ 16 * k := by omega
  have hk0 : 0 < k := by omega
  have hm : IntKind.i64.wrap (16 * (k : Int)) = ((16 * k : Nat) : Int) := by rw [wrap_i64] <;> omega
  have hmk := fun (e : Env) (s : St) (h : Env.get e 16 = .int .i64 ((16 * k : Nat) : Int)) => opA_mksW (ex := execL U) (s := s) h (by omega)
  have hcp := fun (e : Env) (s : St) (h1 : Env.get e 18 = .sl 11 0 (16 * k) (some (16 * k)) 1) (h2 : Env.get e 19 = .fz (words W)) (h3 : s.get 11 = some (.cells (List.replicate (16 * k) (.int .u16 0)) 63 false 0 0)) => opA_copy (ex := execL U) h1 h2 h3 hW hk0
  simp +contextual only [go_sem, ↓reduceIte, r10, h34, h35, words_len, hm, hmk, hcp]
  refine loop_to (σ := Nat) (fun i => k - i) (fun i => some (AV.tup [.fz ((List.range k).map (encK W)), .int .i64 0])) (fun i e s => i ≤ k ∧ Env.get e 5 = .sl 11 0 (16 * k) (some (16 * k)) 1 ∧ Env.get e 23 = .int .i64 k ∧ Env.get e 24 = .int .i64 i ∧ s.get 11 = some (.cells (words (padL W k)) 63 false 0 0) ∧ 12 ≤ s.next ∧ Fr s ∧ ∃ v, Env.get e 6 = v ∧ RowI s 12 80 16 i ((List.range i).flatMap fun a => (encK W a).cells) v) 0 ?_ rfl ?_
  · rintro L i e s ⟨hi, g5, g23, g24, hb, hn, fr, v, g6, row⟩ ih
    by_cases hd : i < k
    · have hw := wrap_succ hd (by omega)
      have hm16 : IntKind.i64.wrap ((i : Int) * 16) = ((16 * i : Nat) : Int) := by rw [wrap_i64] <;> omega
      have hsl := slr_from (b := 11) (m := 16 * k) (i := 16 * i) (by omega)
      have hs2 := fun (e : Env) (s : St) (h : Env.get e 31 = .sl 11 (16 * i) (16 * k - 16 * i) (some (16 * k - 16 * i)) 1) => opA_s2a (ex := execL U) (s := s) h (by omega)
      have hgr : grab 16 (16 * i) (words (padL W k)) = some (words (blk W i)) := by
        rw [grab_take _ _ _ (by rw [words_len, padL_len]; omega), words_drop, words_take, padL_blk hd]
      have hgr0 : grab 16 0 (words (blk W i)) = some (words (blk W i)) := by
        rw [grab_take _ _ _ (by rw [words_len, blk_len]; omega), List.drop_zero, List.take_of_length_le (by rw [words_len, blk_len]; omega)]
      have hlay : lay 0 (words (blk W i)) [(.int .u16 0), (.int .u16 0), (.int .u16 0), (.int .u16 0), (.int .u16 0), (.int .u16 0), (.int .u16 0), (.int .u16 0), (.int .u16 0), (.int .u16 0), (.int .u16 0), (.int .u16 0), (.int .u16 0), (.int .u16 0), (.int .u16 0), (.int .u16 0)] = some (words (blk W i)) :=
        lay_full _ _ (by rw [words_len, blk_len]; rfl)
      have hla := row.lenA
      have hb1 : (i + 1) * 32 ≤ 1099511627776 := by omega
      have hb2 : i + 1 ≤ 1099511627776 := by omega
      have row0 : RowI (s.new (.cells (words (blk W i)) 80 false 0 0)) 12 80 16 i ((List.range i).flatMap fun a => (encK W a).cells) v := row.mono (by rw [next_new]; omega) fun j _ hj => by rw [get_new, if_neg (by omega)]
      obtain ⟨s1, e1, e2, e3, e4, e5⟩ := row0.app2 (by rw [next_new]; omega) (m := 1) (new := words (blk W i)) (by omega) (by rw [words_len, blk_len]) (noAgg_words _)
      rw [next_new] at e1 e2 e3 e4
      have hg1 : s1.get 11 = some (.cells (words (padL W k)) 63 false 0 0) := by
        rw [e4 11 (by omega) (row.far (.inr (by omega))), get_new, if_neg (by omega), hb]
      simp (config := { maxSteps := 2000000 }) +contextual only [go_sem, ↓reduceIte, r10_l0, g5, g23, g24, g6, hb, nat_lt_dec, hd, hm16, hsl, hs2, hgr, hgr0, hlay, words_len, blk_len, appK_some, Nat.reducePow, Nat.one_mul, hla, hb1, hb2, e1, hw, noAgg_words]
      refine ih (i + 1) _ _ (by omega) ⟨by omega, ?_, ?_, ?_, hg1, by omega, e5 (fr.new _), _, rfl, ?_⟩
      · simp +contextual only [go_sem, ↓reduceIte, g5]
      · simp +contextual only [go_sem, ↓reduceIte, g23]
      · simp +contextual only [go_sem, ↓reduceIte]
      · simp +contextual only [go_sem, ↓reduceIte]
        rw [List.flatMap_append, List.flatMap_singleton]
        exact e3
    · have : i = k := by omega
      subst this
      have row2 : RowI s 12 80 16 (List.range i).length ((List.range i).flatMap fun a => (encK W a).cells) v := by rw [List.length_range]; exact row
      have hc : ∀ a, ∃ c, encK W a = .agg c ∧ c.length = 16 := fun a => ⟨_, rfl, by rw [words_len, blk_len]⟩
      have hfz := fun d => row2.frz_agg U ag_80 sz_80 (by decide) hc (d := d + 2) fun a => by
        show frz U s (d + 2) (.agg (words (blk W a))) = _
        rw [frz_agg, mapO_self fun x hx => ?_]
        · rfl
        · obtain ⟨b, _, rfl⟩ := List.mem_map.1 hx; rfl
      have hne : encS true ((List.range i).map (encK W)) = .fz ((List.range i).map (encK W)) := by
        cases i with
        | zero => omega
        | succ i => rw [List.range_succ_eq_map]; rfl
      simp +contextual only [go_sem, ↓reduceIte, r10_l0, g5, g23, g24, g6, nat_lt_dec, Nat.lt_irrefl, hfz, hne]
  · refine ⟨Nat.zero_le _, ?_, ?_, ?_, ?_, ?_, ?_, .nils, ?_, RowI.nil _ _ _ _⟩
    case refine_6 =>
      repeat first | exact Fr.own | apply Fr.new | apply Fr.put | apply Fr.upto
      all_goals simp +contextual only [go_sem, ↓reduceIte]
    all_goals simp +contextual only [go_sem, ↓reduceIte]
    all_goals rfl
/-! # Unpack -/
theorem c37 : calV U 37 [.int .u16 0] = some (.bool false) := by
  refine pure_go k37 (by kernel_rfl) rfl ?_
  have h : ((0 : Int) != 0) = false := rfl
  simp +contextual only [go_sem, ↓reduceIte, r37, h]
theorem c63 (n : Nat) (hn : n ≤ 4096) : calV U 63 [.fz (words (List.replicate n 0)), .fn (.func 37) [] []] = some (.int .i64 (-1)) := by
  refine pure_go k63 (by kernel_rfl) (by simp [stills, still]) ?_
  simp +contextual only [go_sem, ↓reduceIte, r63, words_len, List.length_replicate]
  refine loop_to (σ := Nat) (fun i => n - i) (fun i => some (AV.int .i64 (-1))) (fun i e s => i ≤ n ∧ Env.get e 0 = .fz (words (List.replicate n 0)) ∧ Env.get e 1 = .fn (.func 37) [] [] ∧ Env.get e 7 = .int .i64 n ∧ Env.get e 8 = .int .i64 i) 0 ?_ rfl ?_
  · rintro L i e s ⟨hi, g0, g1, g7, g8⟩ ih
    by_cases hd : i < n
    · have hx : ixRA 1 (.fz (words (List.replicate n 0))) (.int .i64 (i : Int)) = some (.fp [.int .u16 0] 0) := by
        have := ixa_words (nl := false) (l := List.replicate n 0) (i := i) (by rw [List.length_replicate]; exact hd)
        rw [encS_fz, List.getElem_replicate] at this
        exact this
      have hw := wrap_succ hd (by omega)
      simp +contextual only [go_sem, ↓reduceIte, r63_l0, g0, g1, g7, g8, nat_lt_dec, hd, hx, c37, hw]
      refine ih (i + 1) _ _ (by omega) ⟨by omega, ?_, ?_, ?_, ?_⟩ <;> simp +contextual only [go_sem, ↓reduceIte, g0, g1, g7, hw]
    · have : i = n := by omega
      subst this
      simp +contextual only [go_sem, ↓reduceIte, r63_l0, g0, g1, g7, g8, nat_lt_dec, Nat.lt_irrefl]
  · refine ⟨Nat.zero_le _, ?_, ?_, ?_, ?_⟩ <;> simp +contextual only [go_sem, ↓reduceIte] <;> rfl
theorem c36 (n : Nat) (hn : n ≤ 4096) : calV U 36 [.fz (words (List.replicate n 0)), .fn (.func 37) [] []] = some (.bool false) := by
  refine pure_go k36 (by kernel_rfl) (by simp [stills, still]) ?_
  have h : decide ((-1 : Int) ≥ 0) = false := by decide
  simp +contextual only [go_sem, ↓reduceIte, r36, c63 n hn, h]
theorem z36 {args : List AV} {s : St} (h : stills args = false) : callK U (calV U 36 args) 36 args s = calZ U 36 (mapO (frz U s 4000) args) s := z_of (by kernel_rfl) s h
theorem cz36 (n : Nat) (hn : n ≤ 4096) (s : St) : calZ U 36 (some [.fz (words (List.replicate n 0)), .fn (.func 37) [] []]) s = some (.bool false, s) := cz_of (c36 n hn) (by kernel_rfl) (by simp [stills, still]) rfl s
theorem opA_sl80 {ex : Ex} {a : Nat} {e : Env} {s : St} {b : Nat} (h : Env.get e a = .ptr b 0) : opA U ex e (.slice 80 (.tmp a) none none none) s = some (.sl b 0 16 (some 16) 0, s) := by
  have hu : U.und 80 = some (.array 16 63) := by kernel_rfl
  have hv : sliceA U 80 (.ptr b 0) none none none = some (.sl b 0 16 (some 16) 0) := by
    simp only [sliceA, hu, sz_63, boundA]
  simp only [opA, eval, h, evalO, hv]; rfl
theorem ixa_blks {W : List Nat} {k i : Nat} (h : i < k) : ixRA 16 (.fz ((List.range k).map (encK W))) (.int .i64 (i : Int)) = some (.fp (words (blk W i)) 0) := by
  have := ixa_encS 16 false ((List.range k).map (encK W)) .i64 i (encK W i) (by omega) (by rw [Int.toNat_natCast, List.getElem?_map, List.getElem?_range h]; rfl) (by show (words (blk W i)).length = 16; rw [words_len, blk_len]) (by decide)
  rw [encS_fz] at this
  exact this
theorem frz_slW {s : St} {b d o len : Nat} {cap : Option Nat} {l : List Nat} (hg : s.get b = some (.cells (words l) 63 false 0 0)) (h : o + len ≤ l.length) : frz U s (d + 2) (.sl b o len cap 1) = some (.fz (words ((l.drop o).take len))) := by
  have e : len = (words ((l.drop o).take len)).length := by rw [words_len, List.length_take, List.length_drop]; omega
  have hm : mapO (frz U s (d + 1)) (words ((l.drop o).take len)) = some (words ((l.drop o).take len)) := mapO_self fun x hx => by
    obtain ⟨b, _, rfl⟩ := List.mem_map.1 hx; rfl
  have hc := chunks_all (words ((l.drop o).take len))
  rw [← e] at hc
  rw [frz_sl, hg, frzS_cells, Nat.mul_one, grab_take _ _ _ (by rw [words_len]; exact h), words_drop, words_take, ag_63, sz_63, frzT_one, if_pos (noAgg_words _), hc, hm, fzK_some]
theorem slr_fromN {b m i : Nat} (h : i ≤ m) : slRL 1 (.sl b 0 m none 1) (some (.int .i64 (i : Nat))) none = some (.sl b i (m - i) none 1) := by
  simp only [slRL, boundA]
  rw [if_pos (by omega)]
  simp
theorem slr_toN {b m i : Nat} (h : i ≤ m) : slRL 1 (.sl b 0 m none 1) none (some (.int .i64 (i : Nat))) = some (.sl b 0 i none 1) := by
  have e : ((0 : Int) ≤ (i : Int) ∧ (i : Int) ≤ (((none : Option Nat).getD m : Nat) : Int)) := by
    show (0 : Int) ≤ (i : Int) ∧ (i : Int) ≤ ((m : Nat) : Int)
    omega
  simp only [slRL, boundA]
  rw [if_pos e]
  simp
theorem c11 {W : List Nat} (h0 : 0 < W.length) (hl : W.length ≤ 4096) : calV U 11 [.fz ((List.range ((W.length + 15) / 16)).map (encK W)), .int .i64 W.length] = some (.tup [.fz (words W), .int .i64 0]) := by
  refine pure_go k11 (by kernel_rfl) (by simp [stills, still]) ?_
  have st1 : ∀ b o n c z, stills [.sl b o n c z] = false := fun b o n c z => by simp [stills, still]
  have st2 : ∀ b o n c z f, stills [.sl b o n c z, f] = false := fun b o n c z f => by simp [stills, still]
  obtain ⟨k, hk⟩ : ∃ k, k = (W.length + 15) / 16 := ⟨_, rfl⟩
  have h35 := c35 (n := W.length) (by omega)
  rw [← hk] at h35 ⊢
  have hW : W.length ≤ 16 * k := by omega
  have hk0 : 0 < k := by omega
  have hgt : decide ((k : Int) > 256) = false := decide_eq_false (by omega)
  have h25 := c25_in (n := W.length) (a := 0) (b := 4096) ⟨by omega, by omega⟩
  simp +contextual only [go_sem, ↓reduceIte, r11, List.length_map, List.length_range, hgt, c23, h25, h35, bne_self_eq_false, z22 (st1 _ _ _ _ _), cz22_3]
  refine loop_to (σ := Nat) (fun i => k - i) (fun i => some (AV.tup [.fz (words W), .int .i64 0])) (fun i e s => i ≤ k ∧ Env.get e 1 = .int .i64 W.length ∧ Env.get e 27 = .fz ((List.range k).map (encK W)) ∧ Env.get e 28 = .int .i64 k ∧ Env.get e 29 = .int .i64 i ∧ 12 ≤ s.next ∧ Fr s ∧ ∃ v, Env.get e 7 = v ∧ RowI s 12 63 1 (16 * i) (words (padL W i)) v) 0 ?_ rfl ?_
  · rintro L i e s ⟨hi, g1, g27, g28, g29, hn, fr, v, g7, row⟩ ih
    by_cases hd : i < k
    · have hw := wrap_succ hd (by omega)
      have hx := ixa_blks (W := W) hd
      have hgr0 : grab 16 0 (words (blk W i)) = some (words (blk W i)) := by
        rw [grab_take _ _ _ (by rw [words_len, blk_len]; omega), List.drop_zero, List.take_of_length_le (by rw [words_len, blk_len]; omega)]
      have hlay : lay 0 (words (blk W i)) [(.int .u16 0), (.int .u16 0), (.int .u16 0), (.int .u16 0), (.int .u16 0), (.int .u16 0), (.int .u16 0), (.int .u16 0), (.int .u16 0), (.int .u16 0), (.int .u16 0), (.int .u16 0), (.int .u16 0), (.int .u16 0), (.int .u16 0), (.int .u16 0)] = some (words (blk W i)) :=
        lay_full _ _ (by rw [words_len, blk_len]; rfl)
      have hs80 := fun (e : Env) (s' : St) (h : Env.get e 9 = .ptr s.next 0) => opA_sl80 (ex := execL U) (s := s') h
      have hla := row.lenA
      have hb1 : (16 * i + 16) * 2 ≤ 1099511627776 := by omega
      have hb2 : 16 * i + 16 ≤ 1099511627776 := by omega
      obtain ⟨S, hS⟩ : ∃ S, S = (s.new (.cells [(.int .u16 0), (.int .u16 0), (.int .u16 0), (.int .u16 0), (.int .u16 0), (.int .u16 0), (.int .u16 0), (.int .u16 0), (.int .u16 0), (.int .u16 0), (.int .u16 0), (.int .u16 0), (.int .u16 0), (.int .u16 0), (.int .u16 0), (.int .u16 0)] 80 false 0 0)).put s.next (.cells (words (blk W i)) 80 false 0 0) := ⟨_, rfl⟩
      have hSn : S.next = s.next + 1 := by rw [hS, next_put, next_new]
      have row0 : RowI S 12 63 1 (16 * i) (words (padL W i)) v := row.mono (by omega) fun j _ hj => by rw [hS, get_put, if_neg (by omega), get_new, if_neg (by omega)]
      obtain ⟨s1, e1, e2, e3, e4, e5⟩ := row0.app2 (by omega) (m := 16) (new := words (blk W i)) (by omega) (by rw [words_len, blk_len]) (noAgg_words _)
      have frS : Fr S := by rw [hS]; exact (fr.new _).put (by rw [next_new]; omega) _
      rw [hS] at e1
      simp (config := { maxSteps := 2000000 }) +contextual only [go_sem, ↓reduceIte, r11_l0, g1, g27, g28, g29, g7, nat_lt_dec, hd, hx, hgr0, hlay, hs80, words_len, blk_len, appK_some, Nat.reducePow, Nat.one_mul, hla, hb1, hb2, e1, hw, noAgg_words]
      refine ih (i + 1) _ _ (by omega) ⟨by omega, ?_, ?_, ?_, ?_, by omega, e5 frS, .sl S.next 0 (16 * i + 16) none 1, ?_, ?_⟩
      · simp +contextual only [go_sem, ↓reduceIte, g1]
      · simp +contextual only [go_sem, ↓reduceIte, g27]
      · simp +contextual only [go_sem, ↓reduceIte, g28]
      · simp +contextual only [go_sem, ↓reduceIte]
      · simp +contextual only [go_sem, ↓reduceIte, hSn]
      · rw [padL_succ, ← words_app]
        exact e3
    · have : i = k := by omega
      subst this
      obtain ⟨b, hv, hg⟩ : ∃ b, v = .sl b 0 (16 * i) none 1 ∧ s.get b = some (.cells (words (padL W i)) 63 false 0 0) := by
        rcases row with ⟨h1, _⟩ | ⟨_, _, b, _, _, h3, h4⟩
        · omega
        · exact ⟨b, h3, h4⟩
      subst hv
      have hs1 := slr_fromN (b := b) (m := 16 * i) (i := W.length) hW
      have hs2 := slr_toN (b := b) (m := 16 * i) (i := W.length) hW
      have hf1 := fun d => frz_slW (d := d) (o := W.length) (len := 16 * i - W.length) (cap := none) hg (by rw [padL_len]; omega)
      rw [padL_drop hW, List.take_of_length_le (by rw [List.length_replicate]; omega)] at hf1
      have hf2 := fun d => frz_slW (d := d) (o := 0) (len := W.length) (cap := none) hg (by rw [padL_len]; omega)
      rw [List.drop_zero, padL_take hW] at hf2
      have hz := fun s => cz36 (16 * i - W.length) (by omega) s
      simp +contextual only [go_sem, ↓reduceIte, r11_l0, g1, g27, g28, g29, g7, nat_lt_dec, Nat.lt_irrefl, hs1, hs2, z36 (st2 _ _ _ _ _ _), ↓hf1, ↓hf2, hz]
  · refine ⟨Nat.zero_le _, ?_, ?_, ?_, ?_, ?_, ?_, .nils, ?_, RowI.nil _ _ _ _⟩
    case refine_6 =>
      repeat first | exact Fr.own | apply Fr.new | apply Fr.put | apply Fr.upto
      all_goals simp +contextual only [go_sem, ↓reduceIte]
    all_goals simp +contextual only [go_sem, ↓reduceIte]
    all_goals rfl
/-! # Aligned -/
theorem un_neg (k : IntKind) (n : Int) : unA .neg (.int k n) = some (.int k (k.wrap (0 - n))) := (fun h => h) rfl
theorem c27 {f : Nat} (h : fin32 f = true) (hb : f < 2 ^ 32) : calV U 27 [.flt .f32 f] = some (.flt .f32 (posZ f)) := by
  refine pure_go k27 (by kernel_rfl) rfl ?_
  have ha : Ieee.single.add f 0 = some (posZ f) := add_zero32 hb (by unfold fin32 at h; rwa [Nat.blt_eq] at h)
  simp +contextual only [go_sem, ↓reduceIte, r27, bin_fadd, ha]
/-- where the aligned records begin and end, after i records -/
def frm (S : List Int) : Nat → Int
  | 0 => -(S.getD 0 0)
  | i + 1 => max (frm S i) (-(S.getD i 0))
def tom (R : List (Bool × List Nat)) (S : List Int) : Nat → Int
  | 0 => ((R.getD 0 (false, [])).2.length : Int) - S.getD 0 0
  | i + 1 => min (tom R S i) (((R.getD i (false, [])).2.length : Int) - S.getD i 0)
theorem getD_at {A : Type} {l : List A} {i : Nat} (d : A) (h : i < l.length) : l.getD i d = l[i] := by
  rw [List.getD_eq_getElem?_getD, List.getElem?_eq_getElem h]; rfl
theorem Good2.skA {R : List (Bool × List Nat)} {S : List Int} (g : Good2 R S) (i : Nat) (h : i < R.length) : -1000 ≤ S.getD i 0 ∧ S.getD i 0 ≤ 1000 := by
  have hi : i < S.length := by rw [g.len]; exact h
  rw [getD_at 0 hi]; exact g.sk _ (List.getElem_mem hi)
theorem Good2.lenA {R : List (Bool × List Nat)} {S : List Int} (g : Good2 R S) (i : Nat) (h : i < R.length) : (R.getD i (false, [])).2.length ≤ 4096 := by
  rw [getD_at _ h]; exact (g.fin _ (List.getElem_mem h)).1
theorem frm_in {R : List (Bool × List Nat)} {S : List Int} (g : Good2 R S) : ∀ i, i ≤ R.length → -1000 ≤ frm S i ∧ frm S i ≤ 1000
  | 0, _ => by have := g.skA 0 g.pos; rw [frm]; omega
  | i + 1, h => by
    have := frm_in g i (by omega)
    have := g.skA i (by omega)
    rw [frm]; omega
theorem tom_in {R : List (Bool × List Nat)} {S : List Int} (g : Good2 R S) : ∀ i, i ≤ R.length → -1000 ≤ tom R S i ∧ tom R S i ≤ 5096
  | 0, _ => by have := g.skA 0 g.pos; have := g.lenA 0 g.pos; rw [tom]; omega
  | i + 1, h => by
    have := tom_in g i (by omega)
    have := g.skA i (by omega)
    have := g.lenA i (by omega)
    rw [tom]; omega
theorem frm_ge {S : List Int} : ∀ {i j : Nat}, j < i → -(S.getD j 0) ≤ frm S i
  | i + 1, j, h => by
    rw [frm]
    rcases Nat.lt_or_ge j i with h1 | h1
    · have := frm_ge (S := S) h1; omega
    · have : j = i := by omega
      subst this; omega
theorem tom_le {R : List (Bool × List Nat)} {S : List Int} : ∀ {i j : Nat}, j < i → tom R S i ≤ ((R.getD j (false, [])).2.length : Int) - S.getD j 0
  | i + 1, j, h => by
    rw [tom]
    rcases Nat.lt_or_ge j i with h1 | h1
    · have := tom_le (R := R) (S := S) h1; omega
    · have : j = i := by omega
      subst this; omega
/-- a record, aligned -/
def algn (R : List (Bool × List Nat)) (S : List Int) (i : Nat) : List Nat :=
  (((R.getD i (false, [])).2.take (tom R S R.length + S.getD i 0).toNat).drop (frm S R.length + S.getD i 0).toNat).map posZ
theorem len_encR (r : Bool × List Nat) : lenRL (encR r) = some (.int .i64 r.2.length) := by unfold encR; rw [lenL_encS, flts_len]
theorem noAgg_encR (r : Bool × List Nat) : noAgg (encR r) = true := noAgg_encS _ _
theorem ixa_recsF {l : List (Bool × List Nat)} {i : Nat} (h : i < l.length) : ixRA 1 (.fz (recs l)) (.int .i64 (i : Int)) = some (.fp [encR l[i]] 0) := by
  have := ixa_recs (nl := false) h
  rwa [encS_fz] at this
theorem ixa_intsF {l : List Int} {i : Nat} (h : i < l.length) : ixRA 1 (.fz (ints l)) (.int .i64 (i : Int)) = some (.fp [.int .i64 l[i]] 0) := by
  have := ixa_ints (nl := false) h
  rwa [encS_fz] at this
theorem slr_flts {nl : Bool} {l : List Nat} {lo hi : Nat} (h0 : lo ≤ hi) (h1 : hi ≤ l.length) (h2 : 0 < l.length) : slRL 1 (encS nl (flts l)) (some (.int .i64 (lo : Nat))) (some (.int .i64 (hi : Nat))) = some (.fz (flts ((l.take hi).drop lo))) := by
  have hz : encS nl (flts l) = .fz (flts l) := by
    cases l with
    | nil => simp at h2
    | cons x l => exact encS_cons ..
  have hall : (flts l).all (fun x => x.cells.length == 1) = true := by
    rw [List.all_eq_true]; intro x hx
    obtain ⟨z, _, rfl⟩ := List.mem_map.1 hx; rfl
  have ht : ((flts l).take hi).drop lo = flts ((l.take hi).drop lo) := by unfold flts; rw [← List.map_take, ← List.map_drop]
  rw [hz]
  simp only [slRL, boundA, flts_len]
  rw [if_pos (by omega)]
  simp only [Int.toNat_natCast]
  rw [if_pos (by omega)]
  simp only [hall, if_true, ht]
theorem upTo_flts (f : Nat → Nat) (n : Nat) : upTo (fun i => .flt .f32 (f i)) n = flts ((List.range n).map f) := by
  unfold upTo flts; rw [List.map_map]; rfl
theorem c26p {l : List Nat} (hf : ∀ b ∈ l, fin32 b = true ∧ b < 2 ^ 32) (hl : l.length ≤ 4096) {s : St} (fr : Fr s) :
    ∃ v s', cal U 26 [.fz (flts l), .fn (.func 27) [] []] s = some (v, s') ∧ RowI s' s.next 24 1 (l.map posZ).length (flts (l.map posZ)) v ∧ (∀ j, j < s.next → s'.get j = s.get j) ∧ Fr s' ∧ s.next ≤ s'.next := by
  obtain ⟨v, s', q1, q2, q3, q4, q5⟩ := c26 (A := .fz (flts l)) (F := .fn (.func 27) [] []) (n := l.length) (xs := fun i => .flt .f32 (l.getD i 0)) (ys := fun i => .flt .f32 (posZ (l.getD i 0))) (J := fun _ s' => ∀ j, j < s.next → s'.get j = s.get j) (s := s)
    (by rw [lenL_fz, flts_len]) (fun i hi => by
      have := ixa_flts (nl := false) hi
      rw [encS_fz] at this
      rw [getD_at 0 hi]; exact this)
    ⟨fun i s' hi hJ hB fr' => ⟨s', by
      have h := hf _ (List.getElem_mem hi)
      rw [calv_fn, List.nil_append, List.append_nil, getD_at 0 hi, c27 h.1 h.2, callK_some], hJ, rfl, fun _ _ => rfl, fr'⟩, fun i s1 s2 hJ _ h j hj => (h j hj).trans (hJ j hj), fun _ => rfl, fun _ => rfl⟩ (fun _ _ => rfl) fr hl
  rw [upTo_flts (fun i => posZ (l.getD i 0)), range_map] at q2
  exact ⟨v, s', q1, by rw [List.length_map]; exact q2, q3, q4, q5⟩
theorem RowI.stay2 {s s1 : St} {B B' : Nat} {t t' : TypeId} {n n' i i' : Nat} {cs cs' : List AV} {v v' : AV} (h : RowI s B t n i cs v) (h' : RowI s B' t' n' i' cs' v') (ht : t ≠ t') (hn : s.next ≤ s1.next)
    (hg : ∀ j, j < s.next → v' ≠ .sl j 0 i' none n' → s1.get j = s.get j) : RowI s1 B t n i cs v := by
  rcases h with ⟨h0, h1, h2⟩ | ⟨h0, h1, b, h2, h3, h4, h5⟩
  · exact .inl ⟨h0, h1, h2⟩
  · exact .inr ⟨h0, h1, b, h2, by omega, h4, by rw [hg b h3 (h'.other h5 ht)]; exact h5⟩
theorem o7 {β : Type} {fin : Fl → β} {Post : β → Prop} {R : List (Bool × List Nat)} {S : List Int} (g : Good2 R S) (hb : ∀ r ∈ R, ∀ b ∈ r.2, b < 2 ^ 32)
    (hk1 : frm S R.length ≥ tom R S R.length → ∀ e s, Env.get e 4 = .nils → Env.get e 5 = .int .i64 16 → Post (fin (some (.ret, e, s))))
    (hk2 : frm S R.length < tom R S R.length → ∀ e s v vs B, Env.get e 4 = v → Env.get e 5 = .int .i64 0 → RowI s B 30 1 R.length vs v → (∀ j (h : j < R.length), ∃ u B', vs[j]? = some u ∧ RowI s B' 24 1 (algn R S j).length (flts (algn R S j)) u) → Post (fin (some (.ret, e, s)))) :
    Post (go U fin [] r7 (bindArgs 0 [.fz (recs R), .fz (ints S)] .nil) (ownSt U)) := by
  have st1 : ∀ b o n c z, stills [.sl b o n c z] = false := fun b o n c z => by simp [stills, still]
  have e1 : (((R.length : Nat) : Int) == 0) = false := by have := g.pos; rw [beq_eq_false_iff_ne]; omega
  have e2 : decide (((R.length : Nat) : Int) > 8) = false := decide_eq_false (by have := g.le; omega)
  have hSl := g.len
  have hp := g.pos
  have hle := g.le
  simp +contextual only [go_sem, ↓reduceIte, r7, recs_len, ints_len, e1, e2, c23, z22 (st1 _ _ _ _ _), cz22_2]
  refine loop_ex (Post := Post) (σ := Nat) (fun i => R.length - i) (fun i e s => i ≤ R.length ∧ Env.get e 0 = .fz (recs R) ∧ Env.get e 1 = .fz (ints S) ∧ Env.get e 33 = .fz (recs R) ∧ Env.get e 34 = .int .i64 R.length ∧ Env.get e 35 = .int .i64 (i : Nat) ∧ Fr s) 0 ?_ ?_
  · rintro L i e s ⟨hi, g0, g1, g33, g34, g35, fr⟩ ih
    by_cases hd : i < R.length
    · have hx := ixa_recsF hd
      have hw := wrap_succ hd (by omega)
      have hf := g.fin _ (List.getElem_mem hd)
      have hc : calV U 24 [encR R[i]] = some (.int .i64 0) := c24 R[i].1 R[i].2 hf.2 hf.1
      simp +contextual only [go_sem, ↓reduceIte, r7_l0, g0, g1, g33, g34, g35, nat_lt_dec, hd, hx, hc, hw]
      refine ih (i + 1) _ _ (by omega) ⟨by omega, ?_, ?_, ?_, ?_, ?_, fr⟩
      all_goals simp +contextual only [go_sem, ↓reduceIte, g0, g1, g33, g34, hw]
    · have : i = R.length := by omega
      subst this
      simp +contextual only [go_sem, ↓reduceIte, r7_l0, g0, g1, g33, g34, g35, nat_lt_dec, Nat.lt_irrefl, recs_len, ints_len, hSl, bne_self_eq_false]
      clear ih g33 g34 g35
      refine loop_ex (Post := Post) (σ := Nat) (fun i => R.length - i) (fun i e s => i ≤ R.length ∧ Env.get e 0 = .fz (recs R) ∧ Env.get e 1 = .fz (ints S) ∧ Env.get e 50 = .fz (ints S) ∧ Env.get e 51 = .int .i64 R.length ∧ Env.get e 52 = .int .i64 (i : Nat) ∧ Fr s) 0 ?_ ?_
      · clear g0 g1 fr e s
        rintro L i e s ⟨hi, g0, g1, g50, g51, g52, fr⟩ ih
        by_cases hd : i < R.length
        · have hd2 : i < S.length := by omega
          have hx := ixa_intsF hd2
          have hw := wrap_succ hd (by omega)
          have hc := c25_in (n := S[i]) (a := -1000) (b := 1000) (g.sk _ (List.getElem_mem hd2))
          simp +contextual only [go_sem, ↓reduceIte, r7_l1, g0, g1, g50, g51, g52, nat_lt_dec, hd, hx, hc, hw]
          refine ih (i + 1) _ _ (by omega) ⟨by omega, ?_, ?_, ?_, ?_, ?_, fr⟩
          all_goals simp +contextual only [go_sem, ↓reduceIte, g0, g1, g50, g51, hw]
        · have : i = R.length := by omega
          subst this
          have hx0 := ixa_recsF hp
          have hs0 : ixRA 1 (.fz (ints S)) (.int .i64 0) = some (.fp [.int .i64 (S.getD 0 0)] 0) := by
            rw [getD_at 0 (by omega)]; exact ixa_intsF (l := S) (i := 0) (by omega)
          have hx0 : ixRA 1 (.fz (recs R)) (.int .i64 0) = some (.fp [encR (R.getD 0 (false, []))] 0) := by
            rw [getD_at _ hp]; exact ixa_recsF (i := 0) hp
          have b1 := g.skA 0 hp
          have b2 := g.lenA 0 hp
          have hw1 : IntKind.i64.wrap (0 - S.getD 0 0) = frm S 0 := by rw [frm, wrap_i64] <;> omega
          have hw2 : IntKind.i64.wrap (((R.getD 0 (false, [])).2.length : Int) - S.getD 0 0) = tom R S 0 := by rw [tom, wrap_i64] <;> omega
          simp +contextual only [go_sem, ↓reduceIte, r7_l1, g0, g1, g50, g51, g52, nat_lt_dec, Nat.lt_irrefl, hx0, hs0, un_neg, hw1, hw2, len_encR, noAgg_encR, ints_len, recs_len, hSl]
          clear ih g50 g51 g52
          refine loop_ex (Post := Post) (σ := Nat) (fun i => R.length - i) (fun i e s => i ≤ R.length ∧ Env.get e 0 = .fz (recs R) ∧ Env.get e 1 = .fz (ints S) ∧ Env.get e 13 = .int .i64 (frm S i) ∧ Env.get e 14 = .int .i64 (tom R S i) ∧ Env.get e 74 = .fz (ints S) ∧ Env.get e 75 = .int .i64 R.length ∧ Env.get e 76 = .int .i64 (i : Nat) ∧ Fr s) 0 ?_ ?_
          · clear g0 g1 fr e s
            rintro L i e s ⟨hi, g0, g1, g13, g14, g74, g75, g76, fr⟩ ih
            by_cases hd : i < R.length
            · have hd2 : i < S.length := by omega
              have hx : ixRA 1 (.fz (ints S)) (.int .i64 (i : Int)) = some (.fp [.int .i64 (S.getD i 0)] 0) := by rw [getD_at 0 hd2]; exact ixa_intsF hd2
              have hr : ixRA 1 (.fz (recs R)) (.int .i64 (i : Int)) = some (.fp [encR (R.getD i (false, []))] 0) := by rw [getD_at _ hd]; exact ixa_recsF hd
              have hw := wrap_succ hd (by omega)
              have b1 := g.skA i hd
              have b2 := g.lenA i hd
              have hm1 : max (frm S i) (IntKind.i64.wrap (0 - S.getD i 0)) = frm S (i + 1) := by
                have hn : IntKind.i64.wrap (0 - S.getD i 0) = -(S.getD i 0) := by rw [wrap_i64] <;> omega
                rw [frm, hn]
              have hm2 : min (tom R S i) (IntKind.i64.wrap (((R.getD i (false, [])).2.length : Int) - S.getD i 0)) = tom R S (i + 1) := by rw [tom, wrap_i64] <;> omega
              simp (config := { maxSteps := 2000000 }) +contextual only [go_sem, ↓reduceIte, r7_l2, g0, g1, g13, g14, g74, g75, g76, nat_lt_dec, hd, hx, hr, un_neg, len_encR, noAgg_encR, hm1, hm2, hw]
              refine ih (i + 1) _ _ (by omega) ⟨by omega, ?_, ?_, ?_, ?_, ?_, ?_, ?_, ?_⟩
              case refine_8 =>
                repeat first | exact fr | apply Fr.upto
                all_goals omega
              all_goals simp +contextual only [go_sem, ↓reduceIte, g0, g1, g74, g75, hw]
            · have : i = R.length := by omega
              subst this
              clear ih
              cases hge : decide (frm S R.length ≥ tom R S R.length) with
              | true =>
                simp +contextual only [go_sem, ↓reduceIte, r7_l2, g0, g1, g13, g14, g74, g75, g76, nat_lt_dec, Nat.lt_irrefl, hge]
                refine hk1 (of_decide_eq_true hge) _ _ ?_ ?_
                all_goals simp +contextual only [go_sem, ↓reduceIte]
              | false =>
                have hlt : frm S R.length < tom R S R.length := by have := of_decide_eq_false hge; omega
                simp +contextual only [go_sem, ↓reduceIte, r7_l2, g0, g1, g13, g14, g74, g75, g76, nat_lt_dec, Nat.lt_irrefl, hge, ints_len, hSl]
                clear g74 g75 g76
                have hfrm := frm_in g R.length (Nat.le_refl _)
                have htom := tom_in g R.length (Nat.le_refl _)
                refine loop_ex (Post := Post) (σ := Nat) (fun i => R.length - i) (fun i e s' => i ≤ R.length ∧ Env.get e 0 = .fz (recs R) ∧ Env.get e 13 = .int .i64 (frm S R.length) ∧ Env.get e 14 = .int .i64 (tom R S R.length) ∧ Env.get e 98 = .fz (ints S) ∧ Env.get e 99 = .int .i64 R.length ∧ Env.get e 100 = .int .i64 (i : Nat) ∧ Fr s' ∧ s.next ≤ s'.next ∧ ∃ v vs, Env.get e 17 = v ∧ RowI s' s.next 30 1 i vs v ∧ (∀ j (h : j < i), ∃ u B', vs[j]? = some u ∧ RowI s' B' 24 1 (algn R S j).length (flts (algn R S j)) u)) 0 ?_ ?_
                · rintro L i e s' ⟨hi, q0, q13, q14, q98, q99, q100, fr', hn, v, vs, q17, row, inner⟩ ih
                  by_cases hd : i < R.length
                  · have hd2 : i < S.length := by omega
                    have hx : ixRA 1 (.fz (ints S)) (.int .i64 (i : Int)) = some (.fp [.int .i64 (S.getD i 0)] 0) := by rw [getD_at 0 hd2]; exact ixa_intsF hd2
                    have hr : ixRA 1 (.fz (recs R)) (.int .i64 (i : Int)) = some (.fp [encR (R.getD i (false, []))] 0) := by rw [getD_at _ hd]; exact ixa_recsF hd
                    have hw := wrap_succ hd (by omega)
                    have b1 := g.skA i hd
                    have b2 := g.lenA i hd
                    have b3 := frm_ge (S := S) hd
                    have b4 := tom_le (R := R) (S := S) hd
                    have hw1 : IntKind.i64.wrap (frm S R.length + S.getD i 0) = (((frm S R.length + S.getD i 0).toNat : Nat) : Int) := by rw [wrap_i64] <;> omega
                    have hw2 : IntKind.i64.wrap (tom R S R.length + S.getD i 0) = (((tom R S R.length + S.getD i 0).toNat : Nat) : Int) := by rw [wrap_i64] <;> omega
                    have hsl : slRL 1 (encR (R.getD i (false, []))) (some (.int .i64 (((frm S R.length + S.getD i 0).toNat : Nat) : Int))) (some (.int .i64 (((tom R S R.length + S.getD i 0).toNat : Nat) : Int))) = some (.fz (flts (((R.getD i (false, [])).2.take (tom R S R.length + S.getD i 0).toNat).drop (frm S R.length + S.getD i 0).toNat))) :=
                      slr_flts (by omega) (by omega) (by omega)
                    obtain ⟨u, s1, p1, p2, p3, p4, p5⟩ := c26p (l := ((R.getD i (false, [])).2.take (tom R S R.length + S.getD i 0).toNat).drop (frm S R.length + S.getD i 0).toNat) (fun b hb' => by
                      have hm := List.mem_of_mem_take (List.mem_of_mem_drop hb')
                      have hR : R.getD i (false, []) ∈ R := by rw [getD_at _ hd]; exact List.getElem_mem hd
                      exact ⟨(g.fin _ hR).2 b hm, hb _ hR b hm⟩) (by rw [List.length_drop, List.length_take]; omega) fr'
                    have p2 : RowI s1 s'.next 24 1 (algn R S i).length (flts (algn R S i)) u := p2
                    have huc := p2.cells
                    have hup := p2.noAgg
                    have row1 : RowI s1 s.next 30 1 i vs v := row.mono p5 fun j _ hj => p3 j hj
                    have hla := row1.lenA
                    have hb1 : (i + 1) * 24 ≤ 1099511627776 := by omega
                    have hb2 : i + 1 ≤ 1099511627776 := by omega
                    obtain ⟨s2, e1, e2, e3, _, e4, e5⟩ := row1.app1 (by omega) u hup
                    have hvl : vs.length = i := by
                      rcases row with ⟨h1, _, h3⟩ | ⟨_, h2, _⟩
                      · rw [h3, h1]; rfl
                      · omega
                    simp (config := { maxSteps := 2000000 }) +contextual only [go_sem, ↓reduceIte, r7_l3, q0, q13, q14, q98, q99, q100, q17, nat_lt_dec, hd, hx, hr, noAgg_encR, hw1, hw2, hsl, ck, p1, huc, hup, appK_some, Nat.reducePow, Nat.one_mul, hla, hb1, hb2, e1, hw]
                    refine ih (i + 1) _ _ (by omega) ⟨by omega, ?_, ?_, ?_, ?_, ?_, ?_, e5 p4, by omega, _, vs ++ [u], rfl, ?_, ?_⟩
                    case refine_8 =>
                      intro j hj
                      rcases Nat.lt_or_ge j i with h1 | h1
                      · obtain ⟨w, B', w1, w2⟩ := inner j h1
                        refine ⟨w, B', by rw [List.getElem?_append_left (by omega)]; exact w1, ?_⟩
                        have w3 : RowI s1 B' 24 1 (algn R S j).length (flts (algn R S j)) w := w2.mono p5 fun j _ hj => p3 j hj
                        exact w3.stay2 row1 (by decide) (by omega) e4
                      · have : j = i := by omega
                        subst this
                        exact ⟨u, s'.next, by rw [List.getElem?_append_right (by omega), hvl, Nat.sub_self]; rfl, p2.stay2 row1 (by decide) (by omega) e4⟩
                    case refine_7 =>
                      simp +contextual only [go_sem, ↓reduceIte]
                      exact e3
                    all_goals simp +contextual only [go_sem, ↓reduceIte, q0, q13, q14, q98, q99, hw]
                  · have : i = R.length := by omega
                    subst this
                    simp +contextual only [go_sem, ↓reduceIte, r7_l3, q0, q13, q14, q98, q99, q100, q17, nat_lt_dec, Nat.lt_irrefl]
                    refine hk2 hlt _ _ v vs s.next ?_ ?_ row inner
                    all_goals simp +contextual only [go_sem, ↓reduceIte]
                · refine ⟨Nat.zero_le _, ?_, ?_, ?_, ?_, ?_, ?_, fr, Nat.le_refl _, .nils, [], ?_, RowI.nil _ _ _ _, fun j h => absurd h (by omega)⟩
                  all_goals simp +contextual only [go_sem, ↓reduceIte, g0, g13, g14]
                  all_goals rfl
          · refine ⟨Nat.zero_le _, ?_, ?_, ?_, ?_, ?_, ?_, ?_, ?_⟩
            case refine_8 =>
              repeat first | exact fr | apply Fr.upto
              all_goals omega
            all_goals simp +contextual only [go_sem, ↓reduceIte, g0, g1]
            all_goals rfl
      · refine ⟨Nat.zero_le _, ?_, ?_, ?_, ?_, ?_, fr⟩
        all_goals simp +contextual only [go_sem, ↓reduceIte, g0, g1]
        all_goals rfl
  · refine ⟨Nat.zero_le _, ?_, ?_, ?_, ?_, ?_, ?_⟩
    case refine_6 => exact Fr.own.new _
    all_goals simp +contextual only [go_sem, ↓reduceIte]
    all_goals rfl
end Go.Am
