/- A part of the proof of a statement of this seat: the machine on which the program is read, and what it computes; for every input. -/
import Derived.Test.YtkmaeondbkpajaaGreatDoorS12
import Derived.Test.YtkmaeondbkpajaaGreatDoorS10
import Derived.Test.YtkmaeondbkpajaaGreatDoorS11
set_option linter.all false
set_option linter.all false
namespace Go.Am
open Go
variable [MaxLen]
set_option maxRecDepth 100000
set_option maxHeartbeats 8000000
/-! # The reference reads the steps -/

noncomputable def r1010_o1 : RC := (.seq (.ops [⟨some 42, none, none, false, .mov (.t 5)⟩,
  ⟨some 43, none, none, false, .call 52 [(.t 42), (.v (.str [116, 105, 109, 101, 115]))]⟩]) (.cond (.t 43) (.seq (.ops [⟨some 44, none, none, false, .mov (.t 5)⟩,
  ⟨some 45, none, none, false, .call 49 [(.t 44), (.v (.str [116, 105, 109, 101, 115]))]⟩]) (.ops [⟨some 46, none, none, false, .mov (.t 5)⟩,
  ⟨some 47, none, none, false, .call 50 [(.t 46)]⟩,
  ⟨some 48, none, none, false, .fa 7 (.t 7)⟩,
  ⟨none, none, none, false, .st 1 (.t 48) (.t 47)⟩])) .skip))
noncomputable def r1010_o2 : RC := (.seq (.ops [⟨some 49, none, none, false, .mov (.t 5)⟩,
  ⟨some 50, none, none, false, .call 52 [(.t 49), (.v (.str [119, 105, 116, 104, 105, 110]))]⟩]) (.cond (.t 50) (.seq (.ops [⟨some 51, none, none, false, .mov (.t 5)⟩,
  ⟨some 52, none, none, false, .call 49 [(.t 51), (.v (.str [119, 105, 116, 104, 105, 110]))]⟩]) (.ops [⟨some 53, none, none, false, .mov (.t 5)⟩,
  ⟨some 54, none, none, false, .call 50 [(.t 53)]⟩,
  ⟨some 55, none, none, false, .fa 8 (.t 7)⟩,
  ⟨none, none, none, false, .st 1 (.t 55) (.t 54)⟩])) .skip))
noncomputable def r1010_ap : RC := (.seq (.ops [⟨some 56, none, none, false, .mov (.t 5)⟩,
  ⟨some 57, none, none, false, .call 49 [(.t 56), (.v (.str [59]))]⟩]) (.ops [⟨some 58, none, none, false, .fa 1 (.t 6)⟩,
  ⟨some 59, none, none, false, .ld1 (.t 58)⟩,
  ⟨some 60, none, none, false, .ldn 9 (.t 7)⟩,
  ⟨some 61, none, none, false, .bsl 109 9 1 [(.str []), (.int .i64 0), (.int .i64 0), (.int .i64 0), (.int .i64 0), (.str []), .nils, (.int .i64 0), (.int .i64 0)] [(0, 9, (.t 60))]⟩,
  ⟨some 62, none, none, false, .app 109 9 104 (.t 59) (.t 61)⟩,
  ⟨some 63, none, none, false, .fa 1 (.t 6)⟩,
  ⟨none, none, none, false, .st 1 (.t 63) (.t 62)⟩]))
noncomputable def r1010_t : RC := (.seq r1010_o1 (.seq r1010_o2 r1010_ap))
theorem r1010_l0_eq : r1010_l0 = (.seq (.seq (.ops [⟨some 26, none, none, false, .mov (.t 5)⟩,
  ⟨some 27, none, none, false, .raw (.nilCheck (.tmp 26))⟩,
  ⟨some 28, none, none, false, .fa 2 (.t 27)⟩,
  ⟨some 29, none, none, false, .ld1 (.t 28)⟩,
  ⟨some 30, none, none, false, .bin .lss 3 true (.t 29) (.v (.int .i64 0))⟩,
  ⟨some 31, none, none, false, .mov (.t 30)⟩,
  ⟨some 32, some (31, true), none, false, .mov (.t 5)⟩,
  ⟨some 33, some (31, true), none, false, .raw (.nilCheck (.tmp 32))⟩,
  ⟨some 34, some (31, true), none, false, .fa 0 (.t 33)⟩,
  ⟨some 35, some (31, true), none, false, .ld1 (.t 34)⟩,
  ⟨some 36, some (31, true), none, false, .lenL (.t 35)⟩,
  ⟨some 37, some (31, true), none, false, .bin .gtr 3 true (.t 36) (.v (.int .i64 0))⟩,
  ⟨some 38, none, none, false, .pick (.t 31) (.t 37) (.v (.bool false))⟩]) (.cond (.t 38) .skip (.exit 0))) (.block 1 (.seq (.ops [⟨some 39, none, none, false, .mov (.t 5)⟩,
  ⟨some 40, none, none, false, .call 51 [(.t 39)]⟩,
  ⟨some 41, none, none, false, .bld [(.str []), (.int .i64 0), (.int .i64 0), (.int .i64 0), (.int .i64 0), (.str []), .nils, (.int .i64 0), (.int .i64 0)] [(0, 7, (.t 40)), (7, 1, (.v (.int .i64 1)))]⟩,
  ⟨some 7, none, none, false, .al [(.str []), (.int .i64 0), (.int .i64 0), (.int .i64 0), (.int .i64 0), (.str []), .nils, (.int .i64 0), (.int .i64 0)] 109⟩,
  ⟨none, none, none, false, .st 9 (.t 7) (.t 41)⟩]) r1010_t))) := (fun h => h) rfl

inductive JSC (s : St) (P : Nat → Prop) : List PS → List AV → Prop
  | nil : JSC s P [] []
  | cons {st : PS} {kv : AV} {l : List PS} {cs : List AV} : JK s P st.cond.kids kv → JSC s P l cs → JSC s P (st :: l) (cellsS st kv ++ cs)
theorem JSC.mono {s s' : St} {P P' : Nat → Prop} (h : ∀ j c, P j → s.get j = some c → P' j ∧ s'.get j = some c) {l : List PS} {cs : List AV} (k : JSC s P l cs) : JSC s' P' l cs := by
  induction k with
  | nil => exact .nil
  | cons h1 _ ih => exact .cons (h1.mono h) ih
theorem JSC.app {s : St} {P : Nat → Prop} {l : List PS} {cs : List AV} (k : JSC s P l cs) {st : PS} {kv : AV} (h : JK s P st.cond.kids kv) : JSC s P (l ++ [st]) (cs ++ cellsS st kv) := by
  induction k with
  | nil =>
    have := JSC.cons h (JSC.nil (s := s) (P := P))
    rw [List.append_nil] at this; exact this
  | cons h1 _ ih => rw [List.append_assoc]; exact .cons h1 ih

/-- inside a step -/
structure Ts (S0 : St) (R en bs : Nat) (S2 : St) (c : Cond) (kv : AV) (e0 : Env) (tm wi : Int) (r : Rd) (e : Env) (s : St) : Prop where
  inp : InR s R en r
  frm : Frm R S0 s
  tx : Tx r
  lt : S0.next ≤ bs ∧ R < S0.next
  hbs : s.get bs = some (.cells (cellsS ⟨c, tm, wi⟩ kv) 109 false 0 0)
  q5 : Env.get e 5 = .ptr R 0
  q7 : Env.get e 7 = .ptr bs 0
  q6 : Env.get e 6 = Env.get e0 6
  q2 : Env.get e 2 = Env.get e0 2
  hs : ∀ j x, S2.get j = some x → j ≠ R → j ≠ bs → s.get j = some x
  nx : S2.next ≤ s.next
theorem l1010_o1 {β : Type} {fin : Fl → β} {ks : List K} {Post : β → Prop} {S0 S2 : St} {R en bs : Nat} {c : Cond} {kv : AV} {e0 : Env} {tm wi : Int} {r : Rd} {e : Env} {s : St}
    (h : Ts S0 R en bs S2 c kv e0 tm wi r e s) (hkn : noAgg kv = true) (hk : ∀ e' s', Ts S0 R en bs S2 c kv e0 (ropt en sTimes tm r).1 wi (ropt en sTimes tm r).2 e' s' → Post (goN U fin ks e' s')) :
    Post (go U fin ks r1010_o1 e s) := by
  obtain ⟨inp, frm, tx, ⟨l1, l2⟩, hbs, q5, q7, q6, q2, hs, nx⟩ := h
  have hi := c1052 inp sTimes
  simp only [sTimes] at hi
  cases hb : ris sTimes r with
  | false =>
    have hb' := hb
    simp only [sTimes] at hb'
    unfold ropt at hk
    rw [hb, br_false] at hk
    simp +contextual only [go_sem, ↓reduceIte, r1010_o1, q5, ck, hi, hb']
    refine hk _ _ ⟨inp, frm, tx, ⟨l1, l2⟩, hbs, ?_, ?_, ?_, ?_, hs, nx⟩
    all_goals simp +contextual only [go_sem, ↓reduceIte, q5, q6, q7, q2]
  | true =>
    have hb' := hb
    simp only [sTimes] at hb'
    unfold ropt at hk
    rw [hb, br_true] at hk
    obtain ⟨v1, s1, p1, p2, p3⟩ := c1049 inp frm.fr sTimes
    have tx1 : Tx (rtake en sTimes r) := tx.sf (sr_take en sTimes r)
    obtain ⟨s2, d1, d2, d3⟩ := c1050 p2 p3.fr (fun t ht => by have := tx1 t ht; omega)
    have tx2 : Tx (rnum en (rtake en sTimes r)).2 := tx1.sf (sr_num en _)
    generalize hx : rnum en (rtake en sTimes r) = x at *
    obtain ⟨n, r2⟩ := x
    simp only at d1 d2 tx2 hk
    have o1 : ∀ j c, s.get j = some c → j ≠ R → s2.get j = some c := fun j c g1 g2 => by
      have g3 := (p3.get j (st_lt frm.fr g1) g2).trans g1
      rw [d3.get j (st_lt p3.fr g3) g2]; exact g3
    have h2 := o1 _ _ hbs (by omega)
    have l3 := st_lt d3.fr h2
    simp only [sTimes] at p1 d1
    simp only [cellsS, cellsC, List.cons_append, List.nil_append] at h2
    simp +contextual only [go_sem, ↓reduceIte, r1010_o1, q5, q7, ck, hi, hb', p1, d1, h2]
    have n1 := p3.next
    have n2 := d3.next
    refine hk _ _ ⟨d2.mono (by rw [next_put]; omega) (by rw [get_put, if_neg (by omega)]), ((frm.trans p3).trans d3).put _ (.inr l1) l3, tx2, ⟨l1, l2⟩, by rw [get_put, if_pos rfl]; rfl, ?_, ?_, ?_, ?_, fun j x g1 g2 g3 => ?_, by rw [next_put]; omega⟩
    rotate_right
    · rw [get_put, if_neg (fun q => g3 q.symm)]; exact o1 j x (hs j x g1 g2 g3) g2
    all_goals simp +contextual only [go_sem, ↓reduceIte, q5, q6, q7, q2]
theorem l1010_o2 {β : Type} {fin : Fl → β} {ks : List K} {Post : β → Prop} {S0 S2 : St} {R en bs : Nat} {c : Cond} {kv : AV} {e0 : Env} {tm wi : Int} {r : Rd} {e : Env} {s : St}
    (h : Ts S0 R en bs S2 c kv e0 tm wi r e s) (hkn : noAgg kv = true) (hk : ∀ e' s', Ts S0 R en bs S2 c kv e0 tm (ropt en sWithin wi r).1 (ropt en sWithin wi r).2 e' s' → Post (goN U fin ks e' s')) :
    Post (go U fin ks r1010_o2 e s) := by
  obtain ⟨inp, frm, tx, ⟨l1, l2⟩, hbs, q5, q7, q6, q2, hs, nx⟩ := h
  have hi := c1052 inp sWithin
  simp only [sWithin] at hi
  cases hb : ris sWithin r with
  | false =>
    have hb' := hb
    simp only [sWithin] at hb'
    unfold ropt at hk
    rw [hb, br_false] at hk
    simp +contextual only [go_sem, ↓reduceIte, r1010_o2, q5, ck, hi, hb']
    refine hk _ _ ⟨inp, frm, tx, ⟨l1, l2⟩, hbs, ?_, ?_, ?_, ?_, hs, nx⟩
    all_goals simp +contextual only [go_sem, ↓reduceIte, q5, q6, q7, q2]
  | true =>
    have hb' := hb
    simp only [sWithin] at hb'
    unfold ropt at hk
    rw [hb, br_true] at hk
    obtain ⟨v1, s1, p1, p2, p3⟩ := c1049 inp frm.fr sWithin
    have tx1 : Tx (rtake en sWithin r) := tx.sf (sr_take en sWithin r)
    obtain ⟨s2, d1, d2, d3⟩ := c1050 p2 p3.fr (fun t ht => by have := tx1 t ht; omega)
    have tx2 : Tx (rnum en (rtake en sWithin r)).2 := tx1.sf (sr_num en _)
    generalize hx : rnum en (rtake en sWithin r) = x at *
    obtain ⟨n, r2⟩ := x
    simp only at d1 d2 tx2 hk
    have o1 : ∀ j c, s.get j = some c → j ≠ R → s2.get j = some c := fun j c g1 g2 => by
      have g3 := (p3.get j (st_lt frm.fr g1) g2).trans g1
      rw [d3.get j (st_lt p3.fr g3) g2]; exact g3
    have h2 := o1 _ _ hbs (by omega)
    have l3 := st_lt d3.fr h2
    simp only [sWithin] at p1 d1
    simp only [cellsS, cellsC, List.cons_append, List.nil_append] at h2
    simp +contextual only [go_sem, ↓reduceIte, r1010_o2, q5, q7, ck, hi, hb', p1, d1, h2]
    have n1 := p3.next
    have n2 := d3.next
    refine hk _ _ ⟨d2.mono (by rw [next_put]; omega) (by rw [get_put, if_neg (by omega)]), ((frm.trans p3).trans d3).put _ (.inr l1) l3, tx2, ⟨l1, l2⟩, by rw [get_put, if_pos rfl]; rfl, ?_, ?_, ?_, ?_, fun j x g1 g2 g3 => ?_, by rw [next_put]; omega⟩
    rotate_right
    · rw [get_put, if_neg (fun q => g3 q.symm)]; exact o1 j x (hs j x g1 g2 g3) g2
    all_goals simp +contextual only [go_sem, ↓reduceIte, q5, q6, q7, q2]
/-! # The reference's loop over the steps -/

theorem ris_lt {w : Str} {r : Rd} {en : Nat} (h : (rtake en w r).bad < 0) : ris w r = true := by
  cases h2 : ris w r with
  | true => rfl
  | false =>
    unfold rtake at h
    rw [h2, Bool.not_false, br_true] at h
    have := rfail_nn en r
    omega
theorem sr_opt (en : Nat) (w : Str) (o : Int) (r : Rd) : (ropt en w o r).2.l <:+ r.l := by
  unfold ropt
  cases ris w r
  · exact List.suffix_refl _
  · exact (sr_num en _).trans (sr_take en w r)
/-- between two steps -/
structure Rs1 (S0 : St) (R en c6 lo : Nat) (s0 : St) (e0 : Env) (lines : Int) (L : List PS) (cs : List AV) (sv : AV) (r : Rd) (e : Env) (s : St) : Prop where
  inp : InR s R en r
  frm : Frm R S0 s
  tx : Tx r
  lt : S0.next ≤ c6 ∧ c6 < lo ∧ lo ≤ s.next ∧ R < S0.next
  hc6 : s.get c6 = some (.cells [.int .i64 lines, sv] 31 false 0 0)
  row : RowI s lo 109 9 L.length cs sv
  sc : JSC s (SP lo L.length sv) L cs
  q5 : Env.get e 5 = .ptr R 0
  q6 : Env.get e 6 = .ptr c6 0
  q2 : Env.get e 2 = Env.get e0 2
  hs : ∀ x c, s0.get x = some c → x ≠ R → x ≠ c6 → x < lo → s.get x = some c
theorem l1010_ap {β : Type} {fin : Fl → β} {ks : List K} {Post : β → Prop} {S0 S2 s0 : St} {R en c6 lo bs : Nat} {lines : Int} {L : List PS} {cs : List AV} {sv kv : AV} {c : Cond} {tm wi : Int} {r : Rd} {e0 e : Env} {s : St}
    (h : Ts S0 R en bs S2 c kv e0 tm wi r e s) (hbs : S2.next = bs) (f2 : Fr S2) (lt : S0.next ≤ c6 ∧ c6 < lo ∧ lo ≤ bs ∧ R < S0.next) (hL : L.length < 2 ^ 20)
    (hc6 : S2.get c6 = some (.cells [.int .i64 lines, sv] 31 false 0 0)) (row : RowI S2 lo 109 9 L.length cs sv) (sc : JSC S2 (SP lo L.length sv) L cs)
    (q6 : Env.get e0 6 = .ptr c6 0) (kk : JK S2 (fun j => lo ≤ j ∧ sv ≠ .sl j 0 L.length none 9) c.kids kv)
    (hs : ∀ x c, s0.get x = some c → x ≠ R → x ≠ c6 → x < lo → S2.get x = some c)
    (hk : ∀ e s cs sv, Rs1 S0 R en c6 lo s0 e0 lines (L ++ [⟨c, tm, wi⟩]) cs sv (rtake en [59] r) e s → Post (goN U fin ks e s)) :
    Post (go U fin ks r1010_ap e s) := by
  obtain ⟨inp, frm, tx, ⟨l1, l2⟩, hb, q5, q7, q6', q2, hs2, nx⟩ := h
  obtain ⟨lt1, lt2, lt3, lt4⟩ := lt
  obtain ⟨v1, s1, p1, p2, p3⟩ := c1049 inp frm.fr [59]
  have n1 := p3.next
  have o1 : ∀ j x, S2.get j = some x → j ≠ R → j ≠ bs → s1.get j = some x := fun j x g1 g2 g3 => by
    have g4 := hs2 j x g1 g2 g3
    rw [p3.get j (st_lt frm.fr g4) g2]; exact g4
  have hc61 := o1 _ _ hc6 (by omega) (by omega)
  have hb1 : s1.get bs = some (.cells (cellsS ⟨c, tm, wi⟩ kv) 109 false 0 0) := by rw [p3.get bs (st_lt frm.fr hb) (by omega)]; exact hb
  have hna := kk.noAgg
  have hla := row.lenA
  have hsn := row.noAgg
  have hb1' : (L.length + 1) * 104 ≤ 1099511627776 := by omega
  have hb2' : L.length + 1 ≤ 1099511627776 := by omega
  have hcw : (cellsS ⟨c, tm, wi⟩ kv).all noAgg = true := by simp only [cellsS, cellsC, List.cons_append, List.nil_append, List.all_cons, List.all_nil, hna]; rfl
  have row8 : RowI (s1.new (.cells (cellsS ⟨c, tm, wi⟩ kv) 109 false 0 0)) lo 109 9 L.length cs sv := by
    rcases row with q | ⟨k0, k1, b, k2, k3, k4, k5⟩
    · exact .inl q
    · have g := o1 b _ k5 (by omega) (by omega)
      exact .inr ⟨k0, k1, b, k2, by have := st_lt p3.fr g; rw [next_new]; omega, k4, by rw [get_new, if_neg (by have := st_lt p3.fr g; omega)]; exact g⟩
  obtain ⟨s9, q1, q2', q3', q4', q5'⟩ := row8.app2 (by rw [next_new]; omega) (m := 1) (new := cellsS ⟨c, tm, wi⟩ kv) (by omega) rfl hcw
  rw [next_new] at q1 q2' q3' q4'
  have fr9 : Fr s9 := q5' (p3.fr.new _)
  have sc3 : sv ≠ .sl c6 0 L.length none 9 := row.far (.inr lt2)
  have l61 := st_lt p3.fr hc61
  have gc9 : s9.get c6 = some (.cells [.int .i64 lines, sv] 31 false 0 0) := by
    rw [q4' c6 (by omega) sc3, get_new, if_neg (by omega)]; exact hc61
  have hb1c := hb1
  simp only [cellsS, cellsC, List.cons_append, List.nil_append] at hb1c q1
  rw [q6] at q6'
  simp (config := { maxSteps := 4000000 }) +contextual only [go_sem, ↓reduceIte, r1010_ap, q5, q6', q7, ck, p1, hc61, hb1c, hna, appK_some, Nat.reducePow, Nat.one_mul, hla, hsn, hb1', hb2', q1, gc9]
  have far9 : ∀ j, j < lo → sv ≠ .sl j 0 L.length none 9 := fun j hj => row.far (.inr hj)
  have lc9 : c6 < s9.next := by omega
  have lR1 : R < s1.next := p2.lr
  have lS := frm.next
  have o9 : ∀ j x, S2.get j = some x → j ≠ R → j ≠ bs → sv ≠ .sl j 0 L.length none 9 → s9.get j = some x := fun j x g1 g2 g3 g4 => by
    have g5 := o1 j x g1 g2 g3
    have := st_lt p3.fr g5
    rw [q4' j (by omega) g4, get_new, if_neg (by omega)]; exact g5
  have inp9 : InR s9 R en (rtake en [59] r) := p2.mono (by omega) (by rw [q4' R (by omega) (far9 R (by omega)), get_new, if_neg (by omega)])
  have frm9 : Frm R S0 s9 := by
    refine ⟨by omega, fun j h1 h2 => ?_, fr9⟩
    rw [q4' j (by omega) (far9 j (by omega)), get_new, if_neg (by omega)]
    exact (frm.trans p3).get j h1 h2
  refine hk _ _ (cs ++ cellsS ⟨c, tm, wi⟩ kv) (.sl (s1.next + 1) 0 (L.length + 1) none 9) ⟨inp9.mono (by rw [next_put]; omega) (by rw [get_put, if_neg (by omega)]), frm9.put _ (.inr lt1) lc9, tx.sf (sr_take en [59] r), ⟨lt1, lt2, by rw [next_put]; omega, lt4⟩, by rw [get_put, if_pos rfl], ?_, ?_, ?_, ?_, ?_, ?_⟩
  rotate_right
  · intro x y h1 h2 h3 h4
    rw [get_put, if_neg (by omega)]
    exact o9 x y (hs x y h1 h2 h3 h4) h2 (by have := st_lt f2 (hs x y h1 h2 h3 h4); omega) (far9 x h4)
  · rw [List.length_append]
    exact q3'.mono (by rw [next_put]; omega) fun j h1 h2 => by rw [get_put, if_neg (by omega)]
  · rw [List.length_append]
    refine JSC.app (sc.mono fun j x h1 h2 => ?_) (kk.mono fun j x h1 h2 => ?_)
    · have hj := st_lt f2 h2
      have h10 := h1.1
      refine ⟨⟨h1.1, fun h3 => ?_⟩, ?_⟩
      · cases h3; omega
      · rw [get_put, if_neg (by omega)]
        exact o9 j x h2 (by omega) (by omega) h1.2
    · have hj := st_lt f2 h2
      refine ⟨⟨h1.1, fun h3 => ?_⟩, ?_⟩
      · cases h3; omega
      · rw [get_put, if_neg (by have := h1.1; omega)]
        exact o9 j x h2 (by have := h1.1; omega) (by omega) h1.2
  all_goals simp +contextual only [go_sem, ↓reduceIte, q5, q6, q6', q7, q2]
theorem l1010 {β : Type} {fin : Fl → β} {ks : List K} {Post : β → Prop} {S0 : St} {R en c6 lo m N : Nat} {lines : Int} {r0 : Rd} {e0 : Env} {s0 : St} {X : List PS × Rd}
    (hm : r0.l.length < m) (hN : 2 * r0.l.length + 1 ≤ N) (hN2 : r0.l.length < 2 ^ 19)
    (h : Rs1 S0 R en c6 lo s0 e0 lines [] [] .nils (rtake en [59] r0) e0 s0) (hX : rsteps en N m r0 = X)
    (hk : ∀ e s cs sv, Rs1 S0 R en c6 lo s0 e0 lines X.1 cs sv X.2 e s → Post (goN U fin ks e s)) :
    Post (goL U fin (.bk 0 :: ks) r1010_l0 e0 s0) := by
  refine loop_ex (σ := Nat × List PS × List AV × AV × Rd) (fun x => x.1) (fun x e s => Rs1 S0 R en c6 lo s0 e0 lines x.2.1 x.2.2.1 x.2.2.2.1 (rtake en [59] x.2.2.2.2) e s ∧ x.2.2.2.2.l.length < x.1 ∧ x.2.1.length + x.2.2.2.2.l.length ≤ r0.l.length ∧
    (x.2.1 ++ (rsteps en N x.1 x.2.2.2.2).1, (rsteps en N x.1 x.2.2.2.2).2) = X) (m, [], [], .nils, r0) ?_ ⟨h, hm, by simp only [List.length_nil]; omega, hX⟩
  rintro Lp ⟨m1, L, cs, sv, q⟩ e s ⟨⟨inp, frm, tx, ⟨lt1, lt2, lt3, lt4⟩, hc6, row, sc, q5, q6, q2, hs⟩, hm1, hN1, hX⟩ ih
  simp only at inp tx hc6 row sc hm1 hN1 hX
  obtain ⟨m1, rfl⟩ : ∃ q, m1 = q + 1 := ⟨m1 - 1, by omega⟩
  rw [rsteps] at hX
  simp only at hX
  have stop : (decide ((rtake en [59] q).bad < 0) && !(rtake en [59] q).l.isEmpty) = false → ∀ e', Env.get e' 5 = .ptr R 0 → Env.get e' 6 = .ptr c6 0 → Env.get e' 2 = Env.get e0 2 → Post (goN U fin ks e' s) := fun hq e' u5 u6 u2 => by
    rw [hq, br_false, List.append_nil] at hX
    rw [← hX] at hk
    exact hk e' s cs sv ⟨inp, frm, tx, ⟨lt1, lt2, lt3, lt4⟩, hc6, row, sc, u5, u6, u2, hs⟩
  cases hb : decide ((rtake en [59] q).bad < 0) with
  | false =>
    rcases inp.open with ⟨vl, e1, hR, hl⟩ | ⟨t, l, e1, hR, hne⟩
    all_goals
      simp +contextual only [go_sem, ↓reduceIte, r1010_l0_eq, q5, hR, hb, gateV_false, gateR_false, gateC_false]
      refine stop (by rw [hb]; rfl) _ ?_ ?_ ?_
      all_goals simp +contextual only [go_sem, ↓reduceIte, q5, q6, q2]
  | true =>
    rcases inp.open with ⟨vl, e1, hR, hl⟩ | ⟨t, l, e1, hR, hne⟩
    · have he : (rtake en [59] q).l = [] := by rw [e1]
      simp +contextual only [go_sem, ↓reduceIte, r1010_l0_eq, q5, hR, hb, hl, gt0_0, gateV_true, gateR_true, gateC_true]
      refine stop (by rw [hb, he]; rfl) _ ?_ ?_ ?_
      all_goals simp +contextual only [go_sem, ↓reduceIte, q5, q6, q2]
    · have he : (rtake en [59] q).l = t :: l := by rw [e1]
      have hlen := ris_len en (ris_lt (en := en) (by simpa using hb))
      have hne2 : (!(rtake en [59] q).l.isEmpty) = true := by rw [he]; rfl
      rw [hb, hne2] at hX
      simp only [Bool.and_self, br_true] at hX
      obtain ⟨v2, s2, p1, ⟨kv, rfl, kk⟩, p2, p3⟩ := c1051 N s R en (rtake en [59] q) inp frm.fr tx (by omega) (by omega)
      have hna := kk.noAgg
      have hcl := kk.cells
      have n2 := p3.next
      have o1 : ∀ j x, s.get j = some x → j ≠ R → s2.get j = some x := fun j x g1 g2 => by rw [p3.get j (st_lt frm.fr g1) g2]; exact g1
      have sfc : (rcond en N (rtake en [59] q)).2.l <:+ (rtake en [59] q).l := ((sr_cond en N).1 _)
      generalize hcx : rcond en N (rtake en [59] q) = cx at *
      obtain ⟨c, r2⟩ := cx
      simp only at kk p1 p2 hX sfc
      have txc := tx.sf sfc
      simp only [cellsC] at p1
      have a1 : s2.next ≠ R := by have := p2.lr; omega
      have frm3 : Frm R S0 s2 := frm.trans p3
      have lS := frm3.next
      simp (config := { maxSteps := 4000000 }) +contextual only [go_sem, ↓reduceIte, r1010_l0_eq, r1010_t, q5, hR, hb, len_tok, gt0_1, ck, p1, hna, hcl, gateV_true, gateR_true, gateC_true]
      have frm4 : Frm R S0 ((s2.new (.cells [.str [], .int .i64 0, .int .i64 0, .int .i64 0, .int .i64 0, .str [], .nils, .int .i64 0, .int .i64 0] 109 false 0 0)).put s2.next (.cells (cellsS ⟨c, 1, 0⟩ kv) 109 false 0 0)) := (frm3.new _).put _ (.inr lS) (by rw [next_new]; omega)
      refine l1010_o1 (S0 := S0) (S2 := s2) (R := R) (en := en) (bs := s2.next) (c := c) (kv := kv) (e0 := e) (tm := 1) (wi := 0) (r := r2) ⟨p2.mono (by rw [next_put, next_new]; omega) (by rw [get_put, if_neg a1, get_new, if_neg a1]), frm4, txc, ⟨lS, lt4⟩, by rw [get_put, if_pos rfl]; rfl, ?_, ?_, ?_, ?_, fun j x g1 g2 g3 => by rw [get_put, if_neg (fun q => g3 q.symm), get_new, if_neg (fun q => g3 q.symm)]; exact g1, by rw [next_put, next_new]; omega⟩ hna fun e4 s4 h4 => ?_
      any_goals (simp +contextual only [go_sem, ↓reduceIte, q5, q6, q2]; done)
      simp +contextual only [go_sem, ↓reduceIte]
      refine l1010_o2 h4 hna fun e5 s5 h5 => ?_
      simp +contextual only [go_sem, ↓reduceIte]
      have s1l := (sr_opt en sTimes 1 r2).length_le
      have s2l := (sr_opt en sWithin 0 (ropt en sTimes 1 r2).2).length_le
      have s3l := sfc.length_le
      have hlo : lo ≤ s2.next := by omega
      refine l1010_ap (s0 := s0) (lo := lo) (c6 := c6) (lines := lines) (L := L) (cs := cs) (sv := sv) h5 rfl frm3.fr ⟨lt1, lt2, hlo, lt4⟩ (by omega) (o1 _ _ hc6 (by omega)) (row.mono n2 fun j g1 g2 => p3.get j g2 (by omega)) (sc.mono fun j x g1 g2 => ⟨g1, o1 j x g2 (by have := g1.1; omega)⟩) q6 (kk.mono fun j x g1 g2 => ⟨⟨by omega, row.far (.inl g1)⟩, g2⟩)
        (fun x y g1 g2 g3 g4 => o1 x y (hs x y g1 g2 g3 g4) g2) fun e6 s6 cs6 sv6 h6 => ?_
      obtain ⟨u1, u2, u3, u4, u5, u6, u7, u8, u9, u10, u11⟩ := h6
      simp +contextual only [go_sem, ↓reduceIte]
      refine ih (m1, L ++ [⟨c, (ropt en sTimes 1 r2).1, (ropt en sWithin 0 (ropt en sTimes 1 r2).2).1⟩], cs6, sv6, (ropt en sWithin 0 (ropt en sTimes 1 r2).2).2) _ _ (by simp only; omega) ⟨⟨u1, u2, u3, u4, u5, u6, u7, u8, u9, by rw [u10, q2], u11⟩, by simp only; omega, by simp only [List.length_append, List.length_singleton]; omega, ?_⟩
      simp only
      rw [List.append_assoc]; exact hX
/-! # The program's tokens, one after another -/

theorem rng9 {e : Env} {s : St} {k : Nat} {b : Str} (h : Env.get e k = .str b) : opA U (execL U) e (.range 9 (.tmp k)) s = some (.ptr s.next 0, s.new (.iter b 0)) := by
  have h9 : U.und 9 = some .string := by kernel_rfl
  simp only [opA, eval, h, h9]
theorem nxt0 {e : Env} {s : St} {k r pos : Nat} (h : Env.get e k = .ptr r 0) (hs : s.get r = some (.iter [] pos)) : opA U (execL U) e (.next (.tmp k) true) s = some (.tup [.bool false], s) := by
  simp only [opA, eval, h, hs]
theorem nxt1 {e : Env} {s : St} {k r pos : Nat} {c : UInt8} {b : Str} (h : Env.get e k = .ptr r 0) (hs : s.get r = some (.iter (c :: b) pos)) :
    opA U (execL U) e (.next (.tmp k) true) s = some (.tup [.bool true, .int .i64 pos, .int .i32 ((decodeL (c :: b)).1 : Nat)], s.put r (.iter ((c :: b).drop (decodeL (c :: b)).2) (pos + (decodeL (c :: b)).2))) := by
  simp only [opA, eval, h, hs]
theorem calv_y (l : Nat) (args : List AV) (s : St) : calv U (.fn (.yield l) [] []) args s = yieldA (execL U) l args s := rfl
theorem c1105n (n : Nat) : calV U 105 [.int .i32 (n : Int)] = some (.bool (isW n)) := by
  rw [c1105]
  unfold isW
  have e : ∀ m : Nat, decide ((n : Int) ≥ m) = decide (n ≥ m) := fun m => by
    have : ((n : Int) ≥ m) = (n ≥ m) := by apply propext; omega
    simp only [this]
  have e' : ∀ m : Nat, decide ((n : Int) ≤ m) = decide (n ≤ m) := fun m => by
    have : ((n : Int) ≤ m) = (n ≤ m) := by apply propext; omega
    simp only [this]
  have h1 := e 97
  have h2 := e' 122
  have h3 := e 48
  have h4 := e' 57
  simp only [Int.cast_ofNat_Int] at h1 h2 h3 h4
  rw [h1, h2, h3, h4]
theorem slrs {S : Str} {b i : Nat} (h : b ≤ i) (h' : i ≤ S.length) : slRS (.str S) (some (.int .i64 (b : Int))) (some (.int .i64 (i : Int))) = some (.str (slc S b i)) := by
  simp [slRS, boundA, h, h', slc]
theorem slrs_end {S : Str} {b : Nat} (h : b ≤ S.length) : slRS (.str S) (some (.int .i64 (b : Int))) none = some (.str (slc S b S.length)) := by
  simp [slRS, boundA, h, slc]
theorem ptk_len (S : Str) : ∀ (f i : Nat) (bg : Option Nat), (ptk S f i bg).length ≤ 2 * f
  | 0, i, bg => by simp [ptk]
  | f + 1, i, bg => by
    have hf : ∀ j, (flush S bg j).length ≤ 1 := fun j => by cases bg <;> simp [flush]
    rw [ptk]
    cases S.drop i with
    | nil => have := hf S.length; simp only [List.length_append, List.length_singleton]; omega
    | cons c l =>
      simp only
      cases isW (decodeL (c :: l)).1
      · have := hf i
        have := ptk_len S f (i + (decodeL (c :: l)).2) none
        simp only [br_false, List.length_append]
        cases (decodeL (c :: l)).1 == 32 || (decodeL (c :: l)).1 == 10
        · simp only [br_false, List.length_singleton]; omega
        · simp only [br_true, List.length_nil]; omega
      · have := ptk_len S f (i + (decodeL (c :: l)).2) (some (bg.getD i))
        rw [br_true]; omega
theorem decode_le (c : UInt8) (l : Str) : 1 ≤ (decodeL (c :: l)).2 ∧ (decodeL (c :: l)).2 ≤ (c :: l).length := by
  have h0 : 1 ≤ (c :: l).length := by simp
  generalize c :: l = m at *
  unfold decodeL
  simp only
  repeat' split
  all_goals simp only [Bool.and_eq_true, decide_eq_true_eq] at *
  all_goals omega
def bgI : Option Nat → Int
  | none => -1
  | some b => b
/-- what stands while the tokens are gone through -/
structure Lt (S : Str) (l a R B b it k0 : Nat) (ck : Blk) (env : Env) (f i : Nat) (bg : Option Nat) (T : List Tok) (e : Env) (s : St) : Prop where
  y : InY s l a R B env T
  e0 : Env.get e 0 = .fn (.yield l) [] []
  e1 : Env.get e 1 = .ptr b 0
  e3 : Env.get e 3 = .int .i64 (bgI bg)
  e7 : Env.get e 7 = .ptr it 0
  sb : s.get b = some (.cells [.str S] 9 false 0 0)
  si : s.get it = some (.iter (S.drop i) i)
  sk : s.get k0 = some ck
  bgo : ∀ x, bg = some x → x ≤ i ∧ x ≤ S.length
  fu : S.length < f + i
  ile : i ≤ S.length
  tk : T ++ ptk S f i bg = ptoks S
theorem ptoks_len (S : Str) : (ptoks S).length ≤ 2 * (S.length + 1) := ptk_len S _ 0 none
/-- one token more -/
theorem Lt.more {S : Str} {l a R B b it k0 : Nat} {ck : Blk} {env : Env} {T : List Tok} {s : St} (y : InY s l a R B env T) (hS : S.length ≤ 5000) (hbR : b ≠ R) (hiR : it ≠ R) {t : Tok} {U' : List Tok} (ht : T ++ t :: U' = ptoks S)
    (sb : s.get b = some (.cells [.str S] 9 false 0 0)) {x : Blk} (si : s.get it = some x) (hx : ∀ c, x ≠ .cells c 94 false 0 0) (hkR : k0 ≠ R) (hck : ∀ c, ck ≠ .cells c 94 false 0 0) (sk : s.get k0 = some ck) :
    ∃ s', yieldA (execL U) l [.agg [.int .i64 t.off, .str t.txt]] s = some (.bool true, s') ∧ InY s' l a R B env (T ++ [t]) ∧ s'.get b = some (.cells [.str S] 9 false 0 0) ∧ s'.get it = some x ∧ s.next ≤ s'.next ∧ s'.get k0 = some ck := by
  have hl := ptoks_len S
  rw [← ht] at hl
  have hlen : (T ++ [t]).length < 2 ^ 30 := by simp at hl ⊢; omega
  obtain ⟨s', h1, h2, h3, h4⟩ := y_round y t hlen
  have lt : ∀ j y, s.get j = some y → j < s.next := fun j z h => by
    rcases Nat.lt_or_ge j s.next with h5 | h5
    · exact h5
    · rw [y.fr j h5] at h; cases h
  exact ⟨s', h1, h2, h4 b _ (lt _ _ sb) hbR sb (by intro x h; cases h), h4 it _ (lt _ _ si) hiR si hx, h3, h4 k0 _ (lt _ _ sk) hkR sk hck⟩
theorem bg_lt (bg : Option Nat) : decide (bgI bg < 0) = bg.isNone := by
  cases bg
  · rfl
  · exact decide_eq_false (by simp only [bgI]; omega)
theorem bg_ge (bg : Option Nat) : decide (bgI bg ≥ 0) = bg.isSome := by
  cases bg
  · rfl
  · simp [bgI]
theorem l104 {β : Type} {fin : Fl → β} {ks : List K} {Post : β → Prop} {S : Str} {l a R B b it k0 : Nat} {ck : Blk} {env : Env} (hS : S.length ≤ 5000) (hbR : b ≠ R) (hiR : it ≠ R) (hbi : b ≠ it) (hil : it ≠ l) (hia : it ≠ a) (hiB : B ≤ it) (hkR : k0 ≠ R) (hki : it ≠ k0) (hck : ∀ c, ck ≠ .cells c 94 false 0 0)
    (hk : ∀ f i bg T e s, Lt S l a R B b it k0 ck env f i bg T e s → S.drop i = [] → Post (goN U fin ks e s)) {f i : Nat} {bg : Option Nat} {T : List Tok} {e : Env} {s : St} (h : Lt S l a R B b it k0 ck env f i bg T e s) :
    Post (goL U fin (.bk 0 :: ks) r1104_l0 e s) := by
  refine loop_ex (σ := Nat × Nat × Option Nat × List Tok) (fun x => x.1) (fun x e' s' => Lt S l a R B b it k0 ck env x.1 x.2.1 x.2.2.1 x.2.2.2 e' s') (f, i, bg, T) ?_ h
  rintro L ⟨f, i, bg, T⟩ e s ⟨y, e0, e1, e3, e7, sb, si, sk, bgo, fu, ile, tk⟩ ih
  simp only at y e3 si bgo fu ile tk
  cases hd : S.drop i with
  | nil =>
    rw [hd] at si
    have hn := nxt0 e7 si
    simp +contextual only [go_sem, ↓reduceIte, r1104_l0, hn]
    refine hk f i bg T _ _ ⟨y, ?_, ?_, ?_, ?_, sb, by rw [hd]; exact si, sk, bgo, fu, ile, tk⟩ hd
    all_goals simp +contextual only [go_sem, ↓reduceIte, e0, e1, e3, e7]
  | cons c m =>
    rw [hd] at si
    have hn := nxt1 e7 si
    have hi : i < S.length := by
      rcases Nat.lt_or_ge i S.length with h1 | h1
      · exact h1
      · rw [List.drop_eq_nil_of_le h1] at hd; cases hd
    obtain ⟨w1, w2⟩ := decode_le c m
    have hml : (c :: m).length = S.length - i := by rw [← hd, List.length_drop]
    obtain ⟨f, rfl⟩ : ∃ g, f = g + 1 := ⟨f - 1, by omega⟩
    rw [ptk, hd] at tk
    simp only at tk
    have hw := c1105n (decodeL (c :: m)).1
    have hdd : (c :: m).drop (decodeL (c :: m)).2 = S.drop (i + (decodeL (c :: m)).2) := by rw [← hd, List.drop_drop]
    have hio : (i + (decodeL (c :: m)).2 : Nat) ≤ S.length := by omega
    have yi : InY (s.put it (.iter (S.drop (i + (decodeL (c :: m)).2)) (i + (decodeL (c :: m)).2))) l a R B env T := by
      obtain ⟨q1, q2, q3, ⟨v, q4, q5⟩, q6, q7, q8⟩ := y
      have li : it < s.next := by
        rcases Nat.lt_or_ge it s.next with h5 | h5
        · exact h5
        · rw [q6 it h5] at si; cases si
      refine ⟨?_, q2, ?_, ⟨v, ?_, ?_⟩, q6.put li _, q7, q8⟩
      · rw [get_put, if_neg hil]; exact q1
      · rw [get_put, if_neg hia]; exact q3
      · rw [get_put, if_neg hiR]; exact q4
      · rcases q5 with q5 | ⟨k0, k1, bb, k2, k3, k4, k5⟩
        · exact .inl q5
        · refine .inr ⟨k0, k1, bb, k2, k3, k4, ?_⟩
          rw [get_put, if_neg ?_]
          · exact k5
          · rintro rfl
            rw [k5] at si; cases si
    rw [hdd] at hn
    generalize hr : (decodeL (c :: m)).1 = rn at *
    generalize hwd : (decodeL (c :: m)).2 = wd at *
    have sb2 : (s.put it (.iter (S.drop (i + wd)) (i + wd))).get b = some (.cells [.str S] 9 false 0 0) := by rw [get_put, if_neg (fun e => hbi e.symm)]; exact sb
    have si2 : (s.put it (.iter (S.drop (i + wd)) (i + wd))).get it = some (.iter (S.drop (i + wd)) (i + wd)) := by rw [get_put, if_pos rfl]
    have sk2 : (s.put it (.iter (S.drop (i + wd)) (i + wd))).get k0 = some ck := by rw [get_put, if_neg hki]; exact sk
    generalize s.put it (.iter (S.drop (i + wd)) (i + wd)) = s1 at *
    cases hiw : isW rn with
    | true =>
      rw [hiw] at hw
      rw [hiw, br_true] at tk
      cases bg with
      | none =>
        simp +contextual only [go_sem, ↓reduceIte, r1104_l0, hn, hw, e3, bg_lt, Option.isNone_none, br_true]
        refine ih (f, i + wd, some i, T) _ _ (by simp only; omega) ⟨yi, ?_, ?_, ?_, ?_, sb2, si2, sk2, fun x hx => ?_, by simp only; omega, hio, tk⟩
        rotate_right
        · cases hx; exact ⟨by simp only; omega, by omega⟩
        all_goals simp +contextual only [go_sem, ↓reduceIte, e0, e1, e3, e7]
        all_goals rfl
      | some b0 =>
        simp +contextual only [go_sem, ↓reduceIte, r1104_l0, hn, hw, e3, bg_lt, Option.isNone_some, br_false]
        refine ih (f, i + wd, some b0, T) _ _ (by simp only; omega) ⟨yi, ?_, ?_, ?_, ?_, sb2, si2, sk2, fun x hx => ?_, by simp only; omega, hio, tk⟩
        rotate_right
        · cases hx
          have := bgo b0 rfl
          exact ⟨by simp only; omega, this.2⟩
        all_goals simp +contextual only [go_sem, ↓reduceIte, e0, e1, e3, e7]
    | false =>
      rw [hiw] at hw
      rw [hiw, br_false] at tk
      have e32 : (((rn : Nat) : Int) == 32) = (rn == 32) := by
        rw [Bool.eq_iff_iff, beq_iff_eq, beq_iff_eq]; omega
      have e10 : (((rn : Nat) : Int) == 10) = (rn == 10) := by
        rw [Bool.eq_iff_iff, beq_iff_eq, beq_iff_eq]; omega
      have hw1 : IntKind.i64.wrap ((i : Int) + 1) = ((i + 1 : Nat) : Int) := by rw [wrap_i64 (by omega) (by omega)]; rfl
      have s3 := slrs (S := S) (b := i) (i := i + 1) (by omega) (by omega)
      have fin2 : ∀ (T' : List Tok) (s2 : St) (e' : Env), InY s2 l a R B env T' → s2.get b = some (.cells [.str S] 9 false 0 0) → s2.get it = some (.iter (S.drop (i + wd)) (i + wd)) → s2.get k0 = some ck → T' ++ ptk S f (i + wd) none = ptoks S →
          Env.get e' 0 = .fn (.yield l) [] [] → Env.get e' 1 = .ptr b 0 → Env.get e' 3 = .int .i64 (-1) → Env.get e' 7 = .ptr it 0 → Post (goL U fin (.bk 0 :: ks) L e' s2) := fun T' s2 e' y1 y2 y3 yk y4 y5 y6 y7 y8 =>
        ih (f, i + wd, none, T') _ _ (by simp only; omega) ⟨y1, y5, y6, y7, y8, y2, y3, yk, (fun x hx => by cases hx), by simp only; omega, hio, y4⟩
      cases bg with
      | none =>
        cases hsp : (rn == 32 || rn == 10) with
        | true =>
          rw [hsp] at tk
          rw [Bool.or_eq_true] at hsp
          rcases hsp with hsp | hsp
          · simp +contextual only [go_sem, ↓reduceIte, r1104_l0, hn, hw, e3, bg_ge, Option.isSome_none, br_false, e32, e10, hsp, br_true, gateV_false, gateR_false, gateC_false]
            refine fin2 T s1 _ yi sb2 si2 sk2 tk ?_ ?_ ?_ ?_
            all_goals simp +contextual only [go_sem, ↓reduceIte, e0, e1, e3, e7]
          · cases hsp2 : rn == 32
            · simp +contextual only [go_sem, ↓reduceIte, r1104_l0, hn, hw, e3, bg_ge, Option.isSome_none, br_false, e32, e10, hsp, hsp2, br_true, gateV_false, gateR_false, gateC_false]
              refine fin2 T s1 _ yi sb2 si2 sk2 tk ?_ ?_ ?_ ?_
              all_goals simp +contextual only [go_sem, ↓reduceIte, e0, e1, e3, e7]
            · simp +contextual only [go_sem, ↓reduceIte, r1104_l0, hn, hw, e3, bg_ge, Option.isSome_none, br_false, e32, e10, hsp, hsp2, br_true, gateV_false, gateR_false, gateC_false]
              refine fin2 T s1 _ yi sb2 si2 sk2 tk ?_ ?_ ?_ ?_
              all_goals simp +contextual only [go_sem, ↓reduceIte, e0, e1, e3, e7]
        | false =>
          rw [hsp] at tk
          rw [Bool.or_eq_false_iff] at hsp
          simp only [br_false, flush, List.nil_append, List.singleton_append] at tk
          obtain ⟨s4, y1, y2, y3, y4, y5, yk⟩ := Lt.more yi hS hbR hiR (t := ⟨i, slc S i (i + 1)⟩) tk sb2 si2 (by intro c h; cases h) hkR hck sk2
          simp +contextual only [go_sem, ↓reduceIte, r1104_l0, hn, hw, e0, e1, e3, bg_ge, Option.isSome_none, br_false, e32, e10, hsp.1, hsp.2, sb2, hw1, s3, calv_y, y1, gateV_false, gateR_false, gateC_false]
          refine fin2 _ s4 _ y2 y3 y4 yk (by rw [List.append_assoc]; exact tk) ?_ ?_ ?_ ?_
          all_goals simp +contextual only [go_sem, ↓reduceIte, e0, e1, e3, e7]
      | some b0 =>
        obtain ⟨bo1, bo2⟩ := bgo b0 rfl
        have s5 := slrs (S := S) (b := b0) (i := i) bo1 (by omega)
        simp only [flush] at tk
        rw [List.singleton_append] at tk
        obtain ⟨s6, x1, x2, x3, x4, x5, xk⟩ := Lt.more yi hS hbR hiR (t := ⟨b0, slc S b0 i⟩) tk sb2 si2 (by intro c h; cases h) hkR hck sk2
        have e3' : Env.get e 3 = .int .i64 (b0 : Int) := e3
        have hge : decide ((b0 : Int) ≥ 0) = true := decide_eq_true (by omega)
        have tk2 : (T ++ [⟨b0, slc S b0 i⟩]) ++ (br (rn == 32 || rn == 10) [] [⟨i, slc S i (i + 1)⟩] ++ ptk S f (i + wd) none) = ptoks S := by rw [List.append_assoc]; exact tk
        cases hsp : (rn == 32 || rn == 10) with
        | true =>
          rw [hsp] at tk2
          rw [Bool.or_eq_true] at hsp
          rcases hsp with hsp | hsp
          · simp +contextual only [go_sem, ↓reduceIte, r1104_l0, hn, hw, e0, e1, e3', hge, br_false, e32, e10, hsp, br_true, sb2, s5, calv_y, x1, gateV_true, gateR_true, gateC_true]
            refine fin2 _ s6 _ x2 x3 x4 xk tk2 ?_ ?_ ?_ ?_
            all_goals simp +contextual only [go_sem, ↓reduceIte, e0, e1, e3, e7]
          · cases hsp2 : rn == 32
            · simp +contextual only [go_sem, ↓reduceIte, r1104_l0, hn, hw, e0, e1, e3', hge, br_false, e32, e10, hsp, hsp2, br_true, sb2, s5, calv_y, x1, gateV_true, gateR_true, gateC_true]
              refine fin2 _ s6 _ x2 x3 x4 xk tk2 ?_ ?_ ?_ ?_
              all_goals simp +contextual only [go_sem, ↓reduceIte, e0, e1, e3, e7]
            · simp +contextual only [go_sem, ↓reduceIte, r1104_l0, hn, hw, e0, e1, e3', hge, br_false, e32, e10, hsp, hsp2, br_true, sb2, s5, calv_y, x1, gateV_true, gateR_true, gateC_true]
              refine fin2 _ s6 _ x2 x3 x4 xk tk2 ?_ ?_ ?_ ?_
              all_goals simp +contextual only [go_sem, ↓reduceIte, e0, e1, e3, e7]
        | false =>
          rw [hsp] at tk2
          rw [Bool.or_eq_false_iff] at hsp
          simp only [br_false, List.singleton_append] at tk2
          obtain ⟨s4, y1, y2, y3, y4, y5, yk⟩ := Lt.more x2 hS hbR hiR (t := ⟨i, slc S i (i + 1)⟩) tk2 x3 x4 (by intro c h; cases h) hkR hck xk
          simp +contextual only [go_sem, ↓reduceIte, r1104_l0, hn, hw, e0, e1, e3', hge, br_false, e32, e10, hsp.1, hsp.2, sb2, x3, hw1, s3, s5, calv_y, x1, y1, gateV_true, gateR_true, gateC_true]
          refine fin2 _ s4 _ y2 y3 y4 yk (by rw [List.append_assoc]; exact tk2) ?_ ?_ ?_ ?_
          all_goals simp +contextual only [go_sem, ↓reduceIte, e0, e1, e3, e7]
/-- all tokens handed over -/
theorem c1104 {S : Str} {l a R B b k0 : Nat} {ck : Blk} {env : Env} {s : St} (hkR : k0 ≠ R) (hck : ∀ c, ck ≠ .cells c 94 false 0 0) (sk : s.get k0 = some ck) (hS : S.length ≤ 5000) (y : InY s l a R B env []) (hbR : b ≠ R) (hB : B ≤ s.next) (sb : s.get b = some (.cells [.str S] 9 false 0 0)) :
    ∃ v s', cal U 104 [.fn (.yield l) [] [], .ptr b 0] s = some (v, s') ∧ InY s' l a R B env (ptoks S) ∧ s.next ≤ s'.next ∧ s'.get k0 = some ck := by
  refine kept_ex k1104 (by kernel_rfl) (Q := fun _ s' => InY s' l a R B env (ptoks S) ∧ s.next ≤ s'.next ∧ s'.get k0 = some ck) ?_
  obtain ⟨lt1, lt2, lt3, lt4, _⟩ := y.lt
  have lb : b < s.next := by
    rcases Nat.lt_or_ge b s.next with h5 | h5
    · exact h5
    · rw [y.fr b h5] at sb; cases sb
  have lk0 : k0 < s.next := by
    rcases Nat.lt_or_ge k0 s.next with h5 | h5
    · exact h5
    · rw [y.fr k0 h5] at sk; cases sk
  have hrg := @rng9 _ (k := 6) (b := S)
  simp +contextual only [go_sem, ↓reduceIte, r1104, sb, hrg]
  have y0 : InY (s.new (.iter S 0)) l a R B env [] := by
    obtain ⟨q1, q2, q3, ⟨v, q4, q5⟩, q6, q7, q8⟩ := y
    refine ⟨?_, q2, ?_, ⟨v, ?_, ?_⟩, q6.new _, ⟨q7.1, q7.2.1, q7.2.2.1, by rw [next_new]; omega, q7.2.2.2.2⟩, q8⟩
    · rw [get_new, if_neg (by omega)]; exact q1
    · rw [get_new, if_neg (by omega)]; exact q3
    · rw [get_new, if_neg (by omega)]; exact q4
    · exact q5.mono (by rw [next_new]; omega) fun j h1 h2 => by rw [get_new, if_neg (by omega)]
  refine l104 (it := s.next) (k0 := k0) (ck := ck) hS hbR (by omega) (by omega) (by omega) (by omega) hB hkR (by omega) hck (Post := okQ _) ?_ (f := S.length + 1) (i := 0) (bg := none) (T := []) ⟨y0, ?_, ?_, ?_, ?_, by rw [get_new, if_neg (by omega)]; exact sb, by rw [get_new, if_pos rfl]; rfl, by rw [get_new, if_neg (by omega)]; exact sk, (fun x hx => by cases hx), by omega, by omega, rfl⟩
  rotate_left
  · simp +contextual only [go_sem, ↓reduceIte]
  · simp +contextual only [go_sem, ↓reduceIte]
  · simp +contextual only [go_sem, ↓reduceIte]; rfl
  · simp +contextual only [go_sem, ↓reduceIte]
  rintro f i bg T e s1 ⟨y, e0, e1, e3, e7, sb, si, sk1, bgo, fu, ile, tk⟩ hd
  obtain ⟨f, rfl⟩ : ∃ g, f = g + 1 := ⟨f - 1, by omega⟩
  have hnx : s.next < s1.next := by
    rcases Nat.lt_or_ge s.next s1.next with h5 | h5
    · exact h5
    · rw [y.fr _ h5] at si; cases si
  rw [ptk, hd] at tk
  simp only at tk
  cases bg with
  | none =>
    simp only [flush, List.nil_append] at tk
    obtain ⟨s4, y1, y2, y3, y4, y5, yk⟩ := Lt.more y hS hbR (by omega : s.next ≠ R) (t := ⟨S.length, []⟩) tk sb si (by intro c h; cases h) hkR hck sk1
    simp +contextual only [go_sem, ↓reduceIte, e0, e1, e3, bg_ge, Option.isSome_none, br_false, sb, calv_y, y1, okQ_some, gateV_false, gateR_false, gateC_false]
    rw [← tk]
    exact ⟨y2, by omega, yk⟩
  | some b0 =>
    obtain ⟨bo1, bo2⟩ := bgo b0 rfl
    have s5 := slrs_end (S := S) (b := b0) bo2
    simp only [flush] at tk
    rw [List.singleton_append] at tk
    obtain ⟨s6, x1, x2, x3, x4, x5, xk⟩ := Lt.more y hS hbR (by omega : s.next ≠ R) (t := ⟨b0, slc S b0 S.length⟩) tk sb si (by intro c h; cases h) hkR hck sk1
    have tk2 : (T ++ [⟨b0, slc S b0 S.length⟩]) ++ [⟨S.length, []⟩] = ptoks S := by rw [List.append_assoc]; exact tk
    obtain ⟨s4, y1, y2, y3, y4, y5, yk⟩ := Lt.more x2 hS hbR (by omega : s.next ≠ R) (t := ⟨S.length, []⟩) tk2 x3 x4 (by intro c h; cases h) hkR hck xk
    have e3' : Env.get e 3 = .int .i64 (b0 : Int) := e3
    have hge : decide ((b0 : Int) ≥ 0) = true := decide_eq_true (by omega)
    simp +contextual only [go_sem, ↓reduceIte, e0, e1, e3', hge, br_false, sb, x3, s5, calv_y, x1, y1, okQ_some, gateV_true, gateR_true, gateC_true]
    rw [← tk2]
    exact ⟨y2, by omega, yk⟩
theorem l90 (lines depth : Int) (nl : Bool) (kids : List Cond) (f2 : kids.length < 2 ^ 30) (hc : ∀ x ∈ kids, calV U 97 [.int .i64 lines, encC x, .int .i64 (IntKind.i64.wrap (depth + 1))] = some (.int .i64 (ckP lines x (IntKind.i64.wrap (depth + 1)))))
    (err : Int) {e : Env} {s : St} (h0 : Env.get e 0 = .int .i64 lines) (h2 : Env.get e 2 = .int .i64 depth) (h10 : Env.get e 10 = .int .i64 err) (h141 : Env.get e 141 = encS nl (encL kids)) (h142 : Env.get e 142 = .int .i64 kids.length) (h143 : Env.get e 143 = .int .i64 0) {ks : List K}
    (hk : ∀ e' s' x, Env.get e' 10 = .int .i64 x → goX U (finP U [.tmp 6]) ks 0 e' s' = some (.int .i64 x)) :
    goL U (finP U [.tmp 6]) ks r90_l0 e s = some (.int .i64 (ckPL lines kids (IntKind.i64.wrap (depth + 1)) err)) := by
  refine loop_to (σ := Nat × Int) (fun x => kids.length - x.1) (fun x => some (AV.int .i64 (ckPL lines (kids.drop x.1) (IntKind.i64.wrap (depth + 1)) x.2))) (fun x e s => x.1 ≤ kids.length ∧ Env.get e 0 = .int .i64 lines ∧ Env.get e 2 = .int .i64 depth ∧ Env.get e 10 = .int .i64 x.2 ∧ Env.get e 141 = encS nl (encL kids) ∧ Env.get e 142 = .int .i64 kids.length ∧ Env.get e 143 = .int .i64 x.1) (0, err) ?_ rfl ⟨Nat.zero_le _, h0, h2, h10, h141, h142, h143⟩
  clear h0 h2 h10 h141 h142 h143 err e s
  rintro L ⟨i, err⟩ e s ⟨hi, h0, h2, h10, h141, h142, h143⟩ IH
  simp only at hi h0 h2 h10 h141 h142 h143 IH ⊢
  by_cases hd : i < kids.length
  · have hx : (encL kids)[i]? = some (encC kids[i]) := by rw [encL_get, List.getElem?_eq_getElem hd]; rfl
    have hw := wrap_succ hd (by omega)
    have hci := hc kids[i] (List.getElem_mem hd)
    rw [encC_cells] at hx hci
    simp only [Cond.cells] at hx hci
    rw [encS_ne (encL_ne hd)] at h141
    simp +contextual only [go_sem, ↓reduceIte, r90_l0, h0, h2, h10, h141, h142, h143, nat_lt_dec, hd, hx, hci, noAgg_encS]
    rw [List.drop_eq_getElem_cons hd, ckPL]
    cases hb : err == 0
    · simp only [go_sem, ↓reduceIte, hw]
      refine IH (i + 1, _) _ _ (by simp only; omega) ⟨by simp only; omega, ?_, ?_, ?_, ?_, ?_, ?_⟩ <;> simp +contextual only [go_sem, ↓reduceIte, h0, h2, h10, h141, h142, h143, hw, encS_ne (encL_ne hd)]
    · simp only [go_sem, ↓reduceIte, hw]
      refine IH (i + 1, _) _ _ (by simp only; omega) ⟨by simp only; omega, ?_, ?_, ?_, ?_, ?_, ?_⟩ <;> simp +contextual only [go_sem, ↓reduceIte, h0, h2, h10, h141, h142, h143, hw, encS_ne (encL_ne hd)]
  · have : i = kids.length := by omega
    subst this
    simp +contextual only [go_sem, ↓reduceIte, r90_l0, h142, h143, nat_lt_dec, Nat.lt_irrefl]
    rw [List.drop_length, ckPL]
    exact hk _ _ _ (by simp +contextual only [go_sem, ↓reduceIte, h10])
theorem c90 (lines : Int) : ∀ c : Cond, c.fits → ∀ depth : Int, calV U 97 [.int .i64 lines, encC c, .int .i64 depth] = some (.int .i64 (ckP lines c depth)) := by
  intro c
  induction c using Cond.ind with
  | h kind a b mi ma pat nl kids ih =>
  intro hf depth
  rw [Cond.fits] at hf
  obtain ⟨f1, f2, f3⟩ := hf
  refine pure_go k90 (by kernel_rfl) (stills1 _ _ _) ?_
  have h157 := c157 (kdOf kind) kind a b mi ma pat nl kids
  have hs : stills [kSize (kdOf kind), kStart (kdOf kind), kStep (kdOf kind)] = true := by cases kdOf kind <;> rfl
  have hn : noAgg (kSize (kdOf kind)) = true ∧ noAgg (kStart (kdOf kind)) = true ∧ noAgg (kStep (kdOf kind)) = true := by cases kdOf kind <;> exact ⟨rfl, rfl, rfl⟩
  obtain ⟨n1, n2, n3⟩ := hn
  have hk1 := lookup_kinds1 kind
  rw [kindV] at h157 hk1
  rw [encC] at h157 ⊢
  rw [ckP]
  generalize kSize (kdOf kind) = A1 at *
  generalize kStart (kdOf kind) = A2 at *
  generalize kStep (kdOf kind) = A3 at *
  generalize hu : usesOf (kdOf kind) = u at *
  generalize hk : (kdOf kind).known = kn at *
  simp (config := { maxSteps := 4000000 }) +contextual only [go_sem, ↓reduceIte, r90, c156, hk1, h157, c116, c124, c158 _ _ f1, z89, cz89_2, cz89_7, lenL_encS, encL_len, n1, n2, n3, noAgg_encS, cells_encS, br_tt]
  obtain ⟨ua, ub, umi, uma, up, uk⟩ := u
  simp only
  cases up
  · simp only [br_true, br_false, brI_some]
    refine br_r fun _ => br_r fun _ => ?_
    cases hnot : kind == [110, 111, 116]
    all_goals
      simp only [go_sem, ↓reduceIte, br_true, br_false]
      refine l90 lines depth nl kids f2 (fun x hx => ih x hx (f3 x hx) _) _ ?_ ?_ ?_ ?_ ?_ ?_ ?_
      rotate_right 1
      · intro e' s' x h
        simp +contextual only [go_sem, ↓reduceIte, h]
      all_goals simp +contextual only [go_sem, ↓reduceIte, lenL_encS, encL_len]
      all_goals try rfl
  · simp only [br_true, br_false, brI_some]
    refine br_r fun _ => br_r fun _ => ?_
    cases hnot : kind == [110, 111, 116]
    all_goals
      simp only [go_sem, ↓reduceIte, br_true, br_false]
      refine l90 lines depth nl kids f2 (fun x hx => ih x hx (f3 x hx) _) _ ?_ ?_ ?_ ?_ ?_ ?_ ?_
      rotate_right 1
      · intro e' s' x h
        simp +contextual only [go_sem, ↓reduceIte, h]
      all_goals simp +contextual only [go_sem, ↓reduceIte, lenL_encS, encL_len]
      all_goals try rfl
def cpPL (lines : Int) : Nat → List Step → Int
  | _, [] => 0
  | i, s :: l => br (firstOf [ckP lines s.cond 1, within s.times 1 64, within s.within 0 255, br ((i : Int) == 0 && s.within != 0) 3 0] != 0) (firstOf [ckP lines s.cond 1, within s.times 1 64, within s.within 0 255, br ((i : Int) == 0 && s.within != 0) 3 0]) <| cpPL lines (i + 1) l
def cpP (p : Prog) : Int :=
  br (firstOf [within p.lines 1 16, br ((p.steps.length : Int) == 0) 12 0, br (decide ((p.steps.length : Int) > 8)) 5 0] != 0) (firstOf [within p.lines 1 16, br ((p.steps.length : Int) == 0) 12 0, br (decide ((p.steps.length : Int) > 8)) 5 0]) <| cpPL p.lines 0 p.steps
theorem get8 {s : St} (h : 8 < s.next) : (∀ k, (s.next + k = 8) = False) ∧ (s.next = 8) = False := ⟨fun k => by simp; omega, by simp; omega⟩

theorem c64 (p : Prog) (hf : p.fits) : calV U 47 [encP p] = some (.int .i64 (cpP p)) := by
  obtain ⟨lines, nl, steps⟩ := p
  obtain ⟨f1, f2⟩ := hf
  simp only at f1 f2
  refine pure_go k64 (by kernel_rfl) (by simp [stills, still_encP]) ?_
  rw [encP_eq, cpP]
  simp (config := { maxSteps := 2000000 }) +contextual only [go_sem, ↓reduceIte, r64, c88, c116, z89, cz89_3, lenL_encS, encSteps_len, cells_encS, noAgg_encS]
  simp only [brI_some]
  refine br_r fun _ => ?_
  refine loop_to (σ := Nat) (fun i => steps.length - i) (fun i => some (AV.int .i64 (cpPL lines i (steps.drop i)))) (fun i e s => i ≤ steps.length ∧ Env.get e 28 = .int .i64 i ∧ Env.get e 1 = .ptr 8 0 ∧ Env.get e 26 = encS nl (encSteps steps) ∧ Env.get e 27 = .int .i64 steps.length ∧ 8 < s.next ∧ Fr s ∧
    s.get 8 = some (.cells [.int .i64 lines, encS nl (encSteps steps)] 25 false 0 0)) 0 ?_ rfl ?_
  · rintro L i e s ⟨hi, h28, h1, h26, h27, hn, hfr, hs⟩ IH
    by_cases hd : i < steps.length
    · have hx : (encSteps steps)[i]? = some (encStep steps[i]) := by rw [encSteps_get, List.getElem?_eq_getElem hd]; rfl
      have hw := wrap_succ hd (by omega)
      obtain ⟨g8, g8'⟩ := get8 hn
      have hc := c90 lines steps[i].cond (f2 _ (List.getElem_mem hd)) 1
      rw [encS_ne (encSteps_ne hd)] at hs h26
      rw [encC_cells] at hc
      simp only [Cond.cells, encStep] at hx hc
      have hfk := hfr.at
      simp +contextual only [go_sem, ↓reduceIte, r64_l0, h28, h1, h26, h27, hs, nat_lt_dec, hd, encSteps_len, hx, hc, g8, g8', noAgg_encS, c124, c116, z89, cz89_4, hfk, Nat.add_assoc, Nat.left_eq_add]
      rw [List.drop_eq_getElem_cons hd, cpPL]
      simp only [brI_some]
      refine br_r fun _ => ?_
      simp only [hw]
      refine IH (i + 1) _ _ (by omega) ⟨by omega, ?_, ?_, ?_, ?_, ?_, ?_, ?_⟩
      case refine_6 =>
        repeat first | exact hfr | apply Fr.new | apply Fr.put | apply Fr.upto
        all_goals simp +contextual only [go_sem, ↓reduceIte]
        all_goals omega
      all_goals simp +contextual only [go_sem, ↓reduceIte, h28, h1, h26, h27, hs, hw, g8, g8', encS_ne (encSteps_ne hd)]
      all_goals omega
    · have : i = steps.length := by omega
      subst this
      simp +contextual only [go_sem, ↓reduceIte, r64_l0, h28, h27, nat_lt_dec, Nat.lt_irrefl]
      rw [List.drop_length, cpPL]
  · refine ⟨Nat.zero_le _, ?_, ?_, ?_, ?_, ?_, ?_, ?_⟩
    case refine_6 =>
      repeat first | exact Fr.own | apply Fr.new | apply Fr.put | apply Fr.upto
      all_goals simp +contextual only [go_sem, ↓reduceIte]
    all_goals simp +contextual only [go_sem, ↓reduceIte]
    all_goals rfl
/-! # Parse -/

theorem fits_flds {k : Str} {u : Uses} {r : Rd} (gd : Gd r) : (pflds k u r).1.fits := by
  simp only [pflds, Cond.fits]
  refine ⟨?_, by simp, by simp⟩
  have g4 := (((gd.sf (sf_numIf u.a r)).sf (sf_numIf u.b _)).sf (sf_numIf u.mi _)).sf (sf_numIf u.ma _)
  unfold pwordIf
  cases u.pat
  · show ([] : Str).length < _; simp
  · show (pword _).1.length < _
    unfold pword
    split
    · simp
    · rename_i c l e
      cases !letter c
      · simp only [br_false]; have := g4.pk; omega
      · simp [br]
theorem fits_withK {c : Cond} {l : List Cond} (h1 : c.fits) (h2 : l.length < 2 ^ 30) (h3 : ∀ x ∈ l, x.fits) : (withK c l).fits := by
  cases c
  simp only [withK, Cond.fits, Cond.pat] at *
  exact ⟨h1.1, h2, h3⟩
theorem pfits : ∀ n : Nat, n < 2 ^ 29 → (∀ r, Gd r → (pcond n r).1.fits) ∧ (∀ nt r, Gd r → (pkids n nt r).1.length ≤ n ∧ ∀ x ∈ (pkids n nt r).1, x.fits)
  | 0, _ => ⟨fun r _ => by rw [pcond]; simp [C0, Cond.fits], fun nt r _ => by rw [pkids]; simp⟩
  | n + 1, hn => by
    obtain ⟨ih1, ih2⟩ := pfits n (by omega)
    have hC : C0.fits := by simp [C0, Cond.fits]
    refine ⟨fun r gd => ?_, fun nt r gd => ?_⟩
    · rw [pcond]
      cases (kdOf r.pk).known
      · exact hC
      simp only [Bool.not_true, br_false]
      cases decide (r.bad ≥ 0)
      · simp only [br_false]
        have hf := fits_flds (k := r.pk) (u := usesOf (kdOf r.pk)) (gd.sf (sf_nx r))
        cases (usesOf (kdOf r.pk)).kids
        · exact hf
        · simp only [Bool.not_true, br_false]
          have := ih2 (r.pk == sNot) (ptake [40] (pflds r.pk (usesOf (kdOf r.pk)) r.nx).2) (((gd.sf (sf_nx r)).sf (sf_flds _ _ _)).sf (sf_take _ _))
          exact fits_withK hf (by omega) this.2
      · exact hC
    · rw [pkids]
      cases decide (r.bad ≥ 0)
      · simp only [br_false]
        have h1 := ih1 r gd
        cases nt || (pcond n r).2.pk != [44]
        · have h2 := ih2 nt (pcond n r).2.nx ((gd.sf ((sf_cond n).1 r)).sf (sf_nx _))
          simp only [br_false, List.length_cons]
          refine ⟨by omega, fun x hx => ?_⟩
          rcases List.mem_cons.1 hx with rfl | hx
          · exact h1
          · exact h2.2 x hx
        · simp only [br_true, List.length_singleton, List.mem_singleton]
          exact ⟨by omega, fun x hx => by rw [hx]; exact h1⟩
      · simp [br_true]
theorem psteps_fits {N : Nat} (hN : N < 2 ^ 29) : ∀ (m : Nat) (r : Rd), Gd r → (psteps N m r).1.length ≤ m ∧ ∀ p ∈ (psteps N m r).1, p.cond.fits
  | 0, r, _ => by simp [psteps]
  | m + 1, r, gd => by
    rw [psteps]
    cases h1 : decide (r.bad ≥ 0) with
    | true => rw [br_true]; simp
    | false =>
      simp only [br_false]
      cases h2 : ((ptake [59] r).pk == [] || decide ((ptake [59] r).bad ≥ 0)) with
      | true => rw [br_true]; simp
      | false =>
        have g1 := gd.sf (sf_take [59] r)
        have hc := (pfits N hN).1 _ g1
        have := psteps_fits hN m (popt sWithin 0 (popt sTimes 1 (pcond N (ptake [59] r)).2).2).2 (((g1.sf ((sf_cond N).1 _)).sf (sf_opt _ _ _)).sf (sf_opt _ _ _))
        simp only [br_false, List.length_cons]
        refine ⟨by omega, fun x hx => ?_⟩
        rcases List.mem_cons.1 hx with rfl | hx
        · exact hc
        · exact this.2 x hx
theorem c1045 {S : Str} {s : St} : cal U 45 [.str S] s = some (.fn (.func 104) [] [.ptr s.next 0], s.new (.cells [.str S] 9 false 0 0)) := by
  refine kept_go k1045 (by kernel_rfl) ?_
  simp +contextual only [go_sem, ↓reduceIte, r1045]
/-- the loop over the tokens -/
theorem rf9 {S : Str} {e : Env} {s : St} {a R b : Nat} (hS : S.length ≤ 5000) (e16 : Env.get e 16 = .fn (.func 104) [] [.ptr b 0]) (e5 : Env.get e 5 = .ptr a 0) (sa : s.get a = some (.cells [.ptr R 0] 86 false 0 0))
    (sR : s.get R = some (.cells [.nils, .int .i64 (-1)] 89 false 0 0)) (sb : s.get b = some (.cells [.str S] 9 false 0 0)) (fr : Fr s) (haR : a ≠ R) (hbR : b ≠ R) {k0 : Nat} {ck : Blk} (hkR : k0 ≠ R) (hck : ∀ c, ck ≠ .cells c 94 false 0 0) (sk : s.get k0 = some ck) :
    ∃ s', execL U q1009_0 e s = some (.norm, e, s') ∧ (∃ B, InP s' R B ⟨ptoks S, -1⟩) ∧ Fr s' ∧ s.next ≤ s'.next ∧ s'.get a = some (.cells [.ptr R 0] 86 false 0 0) ∧ s'.get k0 = some ck := by
  have la := st_lt fr sa
  have lR := st_lt fr sR
  have lb := st_lt fr sb
  have lk := st_lt fr sk
  have y : InY (s.new (.loop 0 none e [17] (rfA q1009_0) (rfB q1009_0))) s.next a R (s.next + 1) e [] :=
    ⟨by rw [get_new, if_pos rfl], e5, by rw [get_new, if_neg (by omega)]; exact sa, ⟨.nils, by rw [get_new, if_neg (by omega)]; exact sR, RowI.nil _ _ _ _⟩, fr.new _, ⟨by omega, by omega, by omega, by rw [next_new]; omega, haR, by omega, by omega⟩, by simp⟩
  obtain ⟨v, s', h1, h2, h3, h4⟩ := c1104 hkR hck (show (s.new (.loop 0 none e [17] (rfA q1009_0) (rfB q1009_0))).get k0 = some ck by rw [get_new, if_neg (by omega)]; exact sk) hS y hbR (by rw [next_new]; omega) (by rw [get_new, if_neg (by omega)]; exact sb)
  obtain ⟨w1, w2, w3, ⟨vl, w4, w5⟩, w6, w7, w8⟩ := h2
  rw [next_new] at h3
  have hx : (U.ext 104).isNone = true := by rw [U_ext]; rfl
  refine ⟨s'.put s.next .gone, ?_, ?_, w6.put (by omega) _, by rw [next_put]; omega, by rw [get_put, if_neg (by omega)]; exact w3, by rw [get_put, if_neg (by omega)]; exact h4⟩
  · rw [execL_eq, q1009_0_eq]
    simp only [stepA, eval, e16, hx, if_true, List.nil_append]
    have h1' : callF U (execL U) 104 ([AV.fn (.yield s.next) [] []] ++ [AV.ptr b 0]) (s.new (.loop 0 none e #[17].toList (rfA q1009_0) (rfB q1009_0))) = some (v, s') := h1
    rw [h1']
    simp only [w1, endLoopA]
    rfl
  · have hlen := ptoks_len S
    have hne := (ptoks_gd S hS (-1)).ne
    rcases w5 with ⟨h0, _, _⟩ | ⟨h0, k1, bb, k2, k3, rfl, k5⟩
    · exact absurd (List.length_eq_zero_iff.1 h0) hne
    · exact ⟨bb, ⟨[], by rw [get_put, if_neg (by omega)]; exact w4, by rw [get_put, if_neg (by omega)]; exact k5⟩, hne, by omega, by rw [next_put]; omega, by rw [next_put]; omega, by show (ptoks S).length < 2 ^ 30; omega⟩
/-! # Parse, the program's -/

def P0 : Prog := ⟨0, true, []⟩
/-- what Parse answers where the tokens lie in hand -/
def pprog (N m : Nat) (r : Rd) : Prog := ⟨(plines r).1, true, (psteps N m (plines r).2).1.map PS.st⟩
def pans (N m : Nat) (r : Rd) : Prog × Int × Int :=
  br (decide ((psteps N m (plines r).2).2.bad ≥ 0)) (P0, (psteps N m (plines r).2).2.bad, 25) <| br (cpP (pprog N m r) != 0) (P0, 0, cpP (pprog N m r)) (pprog N m r, 0, 0)
def encPA (x : Prog × Int × Int) : AV := .tup [encP x.1, .int .i64 x.2.1, .int .i64 x.2.2]
theorem encPS_eq : ∀ l : List PS, encPS l = encSteps (l.map PS.st)
  | [] => by rfl
  | p :: l => by show _ :: encPS l = _ :: encSteps (l.map PS.st); rw [encPS_eq l]
theorem encP_pr (lines : Int) (L : List PS) : encP ⟨lines, true, L.map PS.st⟩ = .agg [.int .i64 lines, encS true (encPS L)] := by rw [encP_eq, encPS_eq]
theorem call47 {s : St} {P : Nat → Prop} {D : Nat} {L : List PS} {sv : AV} {lines : Int} (k : StK s P L sv) (hn : ∀ p ∈ L, okPS D p) (hd : 2 * D + 3 ≤ 4000) (hf : (Prog.mk lines true (L.map PS.st)).fits) :
    callK U (calV U 47 [.agg [.int .i64 lines, sv]]) 47 [.agg [.int .i64 lines, sv]] s = some (.int .i64 (cpP ⟨lines, true, L.map PS.st⟩), s) := by
  have h := c64 _ hf
  rw [encP_pr] at h
  rcases k with ⟨rfl, rfl⟩ | ⟨b, cs, h1, rfl, h3, h4, h5⟩
  · rw [ck]
    exact calV_eq h s
  · have hz := frzSt (d := 3999) (.inr ⟨b, cs, h1, rfl, h3, h4, h5⟩ : StK s P L _) hn (by omega)
    rw [z_of (by kernel_rfl) s (by simp [stills, still])]
    have : mapO (frz U s 4000) [AV.agg [.int .i64 lines, .sl b 0 L.length none 9]] = some [.agg [.int .i64 lines, encS true (encPS L)]] := by
      have e : frz U s 4000 (AV.agg [.int .i64 lines, .sl b 0 L.length none 9]) = (match mapO (frz U s 3999) [.int .i64 lines, .sl b 0 L.length none 9] with | some cs' => some (AV.agg cs') | none => none) := rfl
      rw [mapO_cons, mapO_nil, e, mapO_cons, mapO_cons, mapO_nil, hz]
      rfl
    rw [this]
    exact cz_of h (by kernel_rfl) (by rw [← encP_pr]; simp [stills, still_encP]) rfl s
theorem sf_plines (r : Rd) : Sf r (plines r).2 := by
  unfold plines
  cases decide ((ptake sLines r).bad < 0)
  · exact sf_take _ r
  · exact (sf_take _ r).trans (sf_num _)
theorem c1009 {S : Str} (hS : S.length ≤ 300) : calV U 9 [.str S] = some (encPA (pans 1300 700 ⟨ptoks S, -1⟩)) := by
  refine pure_go k1009 (by kernel_rfl) rfl ?_
  have hl : decide ((S.length : Int) > 4096) = false := decide_eq_false (by omega)
  have hck := ck 45 [.str S]
  simp (config := { maxSteps := 2000000 }) +contextual only [go_sem, ↓reduceIte, r1009, hl, hck, c1045]
  refine raw_step (Post := fun x => x = some (encPA (pans 1300 700 ⟨ptoks S, -1⟩))) (Q := fun e' s' => (Env.get e' 5 = .ptr 10 0 ∧ Env.get e' 2 = .ptr 8 0) ∧ (∃ B, InP s' 9 B ⟨ptoks S, -1⟩) ∧ Fr s' ∧ 12 ≤ s'.next ∧ s'.get 10 = some (.cells [.ptr 9 0] 86 false 0 0) ∧ s'.get 8 = some (.cells [.int .i64 0, .nils] 25 false 0 0)) ?_ ?_
  · obtain ⟨s', h1, h2, h3, h4, h5, h6⟩ := rf9 (S := S) (a := 10) (R := 9) (b := 11) (k0 := 8) (ck := .cells [.int .i64 0, .nils] 25 false 0 0)
      (e := ((((((((((((((Tr.nil.set 0 (AV.str S)).set 2 (AV.ptr 8 0)).set 3 (AV.int IntKind.i64 0)).set 4 (AV.int IntKind.i64 0)).set 9 (AV.str S)).set 10 (AV.int IntKind.i64 ↑(List.length S))).set 11 (AV.bool false)).set 11 (AV.bool false)).set 13 (AV.agg [AV.nils, AV.int IntKind.i64 (-1)])).set 14 (AV.ptr 9 0)).set 5 (AV.ptr 10 0)).set 15 (AV.str S)).set 16 (AV.fn (Fn.func 104) [] [AV.ptr 11 0])) : Env))
      (s := ((((((ownSt U).new (Blk.cells [AV.int IntKind.i64 0, AV.nils] 25 false 0 0)).new (Blk.cells [AV.nils, AV.int IntKind.i64 (-1)] 89 false 0 0)).new (Blk.cells [AV.nilp] 86 false 0 0)).put 10 (Blk.cells [AV.ptr 9 0] 86 false 0 0)).new (Blk.cells [AV.str S] 9 false 0 0)))
      (by omega) (by simp +contextual only [go_sem, ↓reduceIte]) (by simp +contextual only [go_sem, ↓reduceIte]) (by simp +contextual only [go_sem, ↓reduceIte]) (by simp +contextual only [go_sem, ↓reduceIte]) (by simp +contextual only [go_sem, ↓reduceIte]) (by (repeat (first | exact Fr.own | apply Fr.new | apply Fr.put)) <;> simp +contextual only [go_sem, ↓reduceIte] <;> omega) (by omega) (by omega) (by omega) (by intro c h; cases h) (by simp +contextual only [go_sem, ↓reduceIte])
    exact ⟨_, s', h1, ⟨by simp +contextual only [go_sem, ↓reduceIte], by simp +contextual only [go_sem, ↓reduceIte]⟩, h2, h3, h4, h5, h6⟩
  rintro e' s1 ⟨⟨e5, e2⟩, ⟨B, inp⟩, fr1, n1, g10, g8⟩
  have gd := ptoks_gd S (by omega) (-1)
  have hlen := ptoks_len S
  obtain ⟨v, s2, p1, ⟨sv, rfl, st2⟩, inp2, frm2⟩ := c1046 (N := 1300) (m := 700) inp fr1 gd (by show (ptoks S).length < 700; omega) (by show 2 * (ptoks S).length + 1 ≤ 1300; omega) (by show (ptoks S).length ≤ 2 ^ 19; omega)
  have hna := st2.noAgg
  have hcl := st2.cells
  have h10 := (frm2.get 10 (by omega) (by omega)).trans g10
  have h8 := (frm2.get 8 (by omega) (by omega)).trans g8
  obtain ⟨pre, hR, _⟩ := inp2.ex
  have n2 := frm2.next
  obtain ⟨g8', g8''⟩ := get8 (s := s2) (by omega)
  have m9 : (s2.next = 9) = False := eq_false (by omega)
  have m10 : (s2.next = 10) = False := eq_false (by omega)
  have fr2 := frm2.fr
  have hfk := fr2.at
  cases hb : decide ((psteps 1300 700 (plines ⟨ptoks S, -1⟩).2).2.bad ≥ 0) with
  | true =>
    have hA : pans 1300 700 ⟨ptoks S, -1⟩ = (P0, (psteps 1300 700 (plines ⟨ptoks S, -1⟩).2).2.bad, 25) := by rw [pans, hb, br_true]
    rw [hA]
    simp (config := { maxSteps := 2000000 }) +contextual only [go_sem, ↓reduceIte, e5, e2, ck, p1, g10, h10, h8, hna, hcl, hR, g8', g8'', m9, m10, hb, go_drcU d1009_1, hfk]
    rfl
  | false =>
    have ok := psteps_ok 1300 700 (plines ⟨ptoks S, -1⟩).2
    have hfit : (pprog 1300 700 ⟨ptoks S, -1⟩).fits := by
      have := psteps_fits (N := 1300) (by omega) 700 (plines ⟨ptoks S, -1⟩).2 (gd.sf (sf_plines _))
      refine ⟨by show (List.map PS.st _).length < 2 ^ 30; rw [List.length_map]; omega, fun x hx => ?_⟩
      obtain ⟨p, h1, rfl⟩ := List.mem_map.1 hx
      exact this.2 p h1
    have st3 : StK ((s2.new (.cells [.int .i64 0, .nils] 25 false 0 0)).put s2.next (.cells [.int .i64 (plines ⟨ptoks S, -1⟩).1, sv] 25 false 0 0)) (fun _ => True) (psteps 1300 700 (plines ⟨ptoks S, -1⟩).2).1 sv :=
      st2.mono fun j c _ h => ⟨trivial, by rw [get_put, if_neg (by have := st_lt fr2 h; omega), get_new, if_neg (by have := st_lt fr2 h; omega)]; exact h⟩
    have hc := call47 st3 ok (by omega) hfit
    have st4 : StK (((s2.new (.cells [.int .i64 0, .nils] 25 false 0 0)).put s2.next (.cells [.int .i64 (plines ⟨ptoks S, -1⟩).1, sv] 25 false 0 0)).put 8 (.cells [.int .i64 (plines ⟨ptoks S, -1⟩).1, sv] 25 false 0 0)) (fun _ => True) (psteps 1300 700 (plines ⟨ptoks S, -1⟩).2).1 sv :=
      st2.mono fun j c hj h => ⟨trivial, by rw [get_put, if_neg (by omega), get_put, if_neg (by have := st_lt fr2 h; omega), get_new, if_neg (by have := st_lt fr2 h; omega)]; exact h⟩
    have hz := frzSt (d := 3998) st4 ok (by omega)
    simp (config := { maxSteps := 2000000 }) +contextual only [go_sem, ↓reduceIte, e5, e2, ck, p1, g10, h10, h8, hna, hcl, hR, g8', g8'', m9, m10, hb, hfk, hc, hz]
    rw [pans, hb, br_false]
    unfold pprog
    cases cpP ⟨(plines ⟨ptoks S, -1⟩).1, true, (psteps 1300 700 (plines ⟨ptoks S, -1⟩).2).1.map PS.st⟩ != 0
    · simp only [br_false, encPA, encP_pr]
    · rfl
theorem c1009l {S : Str} (hS : 4096 < S.length) : calV U 9 [.str S] = some (encPA (P0, 0, 26)) := by
  refine pure_go k1009 (by kernel_rfl) rfl ?_
  have hl : decide ((S.length : Int) > 4096) = true := decide_eq_true (by omega)
  simp (config := { maxSteps := 2000000 }) +contextual only [go_sem, ↓reduceIte, r1009, hl]
  rfl
/-! # What the reference read, written out -/

theorem agJ : isAggT U 106 = some true := by kernel_rfl
theorem szJ : size U 106 = some 7 := by kernel_rfl
theorem ag109 : isAggT U 109 = some true := by kernel_rfl
theorem sz109 : size U 109 = some 9 := by kernel_rfl
mutual
theorem frzJ {s : St} {P : Nat → Prop} : ∀ {l : List Cond} {kv : AV} {d : Nat}, JK s P l kv → nmL l = true → 2 * dpL l + 1 ≤ d → frz U s d kv = some (encS true (encL l))
  | _, _, d, .nil, _, hd => by
    obtain ⟨d, rfl⟩ : ∃ q, d = q + 1 := ⟨d - 1, by omega⟩
    rfl
  | l, _, d, .row (cs := cs) (b := b) h1 h2 h3 h4, hn, hd => by
    obtain ⟨d, rfl⟩ : ∃ q, d = q + 1 := ⟨d - 1, by omega⟩
    have hl := frzJC_len h4
    have hne : l ≠ [] := h1
    have hp : 1 ≤ dpL l := by
      obtain ⟨c, m, rfl⟩ := List.exists_cons_of_ne_nil h1
      cases c; simp [dpL, Cond.dp]; omega
    obtain ⟨d, rfl⟩ : ∃ q, d = q + 1 := ⟨d - 1, by omega⟩
    rw [frz_sl, h3, frzS_cells, grab_len cs hl rfl, agJ, szJ, frzT_agg, frzJC h4 hn (by omega), fzK_some, show AV.fz (encL l) = encS true (encL l) by obtain ⟨c, m, rfl⟩ := List.exists_cons_of_ne_nil h1; rw [encL, encS_cons]]
theorem frzJC {s : St} {P : Nat → Prop} : ∀ {l : List Cond} {cs : List AV} {d : Nat}, JC s P l cs → nmL l = true → 2 * dpL l ≤ d + 1 → mapO (frz U s (d + 1)) (chunksA true 7 l.length cs) = some (encL l)
  | _, _, d, .nil, _, _ => by rw [encL]; rfl
  | _, _, d, .cons (c := c) (kv := kv) (l := l) (cs := cs) h1 h2, hn, hd => by
    simp only [nmL, Bool.and_eq_true] at hn
    simp only [dpL] at hd
    have hc : c.dp = dpL c.kids + 1 := by cases c; rfl
    have hcn : nmL c.kids = true ∧ c.nl = true := by
      have := hn.1
      cases c
      simp only [Cond.nm, Bool.and_eq_true] at this
      exact ⟨this.2, this.1⟩
    obtain ⟨d, rfl⟩ : ∃ q, d = q + 1 := ⟨d - 1, by omega⟩
    have ih1 := frzJ (d := d + 1) h1 hcn.1 (by omega)
    have ih2 := frzJC (d := d + 1) h2 hn.2 (by omega)
    have e1 : chunksA true 7 (c :: l).length (cellsC c kv ++ cs) = .agg (cellsC c kv) :: chunksA true 7 l.length cs := by
      rw [List.length_cons, chunks_agg]
      rfl
    have e2 : frz U s (d + 1 + 1) (.agg (cellsC c kv)) = some (encC c) := by
      rw [encC_cells]
      have : mapO (frz U s (d + 1)) (cellsC c kv) = some c.cells := by
        have f1 : ∀ t, frz U s (d + 1) (.str t) = some (.str t) := fun _ => rfl
        have f2 : ∀ n, frz U s (d + 1) (.int .i64 n) = some (.int .i64 n) := fun _ => rfl
        simp only [cellsC, Cond.cells, mapO_cons, mapO_nil, ih1, hcn.2, f1, f2]
        rfl
      show (match mapO (frz U s (d + 1)) (cellsC c kv) with | some cs' => some (AV.agg cs') | none => none) = _
      rw [this]
    rw [e1, mapO_cons, e2, ih2, encL]
    rfl
theorem frzJC_len {s : St} {P : Nat → Prop} : ∀ {l : List Cond} {cs : List AV}, JC s P l cs → cs.length = l.length * 7
  | _, _, .nil => rfl
  | _, _, .cons h1 h2 => by rw [List.length_append, frzJC_len h2, List.length_cons]; simp [cellsC]; omega
end

def StJ (s : St) (P : Nat → Prop) (L : List PS) (sv : AV) : Prop := (L = [] ∧ sv = .nils) ∨ ∃ b cs, L ≠ [] ∧ sv = .sl b 0 L.length none 9 ∧ P b ∧ s.get b = some (.cells cs 109 false 0 0) ∧ JSC s P L cs
theorem StJ.mono {s s' : St} {P P' : Nat → Prop} (h : ∀ j c, P j → s.get j = some c → P' j ∧ s'.get j = some c) {L : List PS} {sv : AV} (k : StJ s P L sv) : StJ s' P' L sv := by
  rcases k with q | ⟨b, cs, h1, h2, h3, h4, h5⟩
  · exact .inl q
  · exact .inr ⟨b, cs, h1, h2, (h b _ h3 h4).1, (h b _ h3 h4).2, h5.mono h⟩
theorem StJ.noAgg {s : St} {P : Nat → Prop} {L : List PS} {sv : AV} (k : StJ s P L sv) : Go.Am.noAgg sv = true := by
  rcases k with ⟨_, rfl⟩ | ⟨b, cs, _, rfl, _⟩ <;> rfl
theorem StJ.cells {s : St} {P : Nat → Prop} {L : List PS} {sv : AV} (k : StJ s P L sv) : sv.cells = [sv] := by
  rcases k with ⟨_, rfl⟩ | ⟨b, cs, _, rfl, _⟩ <;> rfl
theorem JSC.len {s : St} {P : Nat → Prop} {l : List PS} {cs : List AV} (k : JSC s P l cs) : cs.length = l.length * 9 := by
  induction k with
  | nil => rfl
  | cons _ _ ih => rw [List.length_append, ih, List.length_cons]; simp [cellsS, cellsC]; omega
theorem frzJSC {s : St} {P : Nat → Prop} {D : Nat} {l : List PS} {cs : List AV} {d : Nat} (k : JSC s P l cs) (hn : ∀ p ∈ l, okPS D p) (hd : 2 * D ≤ d) : mapO (frz U s (d + 1)) (chunksA true 9 l.length cs) = some (encPS l) := by
  induction k with
  | nil => rfl
  | @cons st kv l cs h1 h2 ih =>
    have hst := hn st (by simp)
    obtain ⟨c, tm, wi⟩ := st
    have hc : c.dp = dpL c.kids + 1 := by cases c; rfl
    have hcn : nmL c.kids = true ∧ c.nl = true := by
      have := hst.1
      cases c
      simp only [Cond.nm, Bool.and_eq_true] at this
      exact ⟨this.2, this.1⟩
    have hdp : c.dp ≤ D := hst.2
    have ih1 := frzJ (d := d) h1 hcn.1 (by show 2 * dpL c.kids + 1 ≤ d; omega)
    have ih2 := ih (fun p hp => hn p (List.mem_cons_of_mem _ hp))
    have e1 : chunksA true 9 (PS.mk c tm wi :: l).length (cellsS ⟨c, tm, wi⟩ kv ++ cs) = .agg (cellsS ⟨c, tm, wi⟩ kv) :: chunksA true 9 l.length cs := by
      rw [List.length_cons, chunks_agg]
      rfl
    have e2 : frz U s (d + 1) (.agg (cellsS ⟨c, tm, wi⟩ kv)) = some (encStep (PS.mk c tm wi).st) := by
      obtain ⟨d, rfl⟩ : ∃ q, d = q + 1 := ⟨d - 1, by omega⟩
      have : mapO (frz U s (d + 1)) (cellsS ⟨c, tm, wi⟩ kv) = some [.str c.kind, .int .i64 c.a, .int .i64 c.b, .int .i64 c.mi, .int .i64 c.ma, .str c.pat, encS c.nl (encL c.kids), .int .i64 tm, .int .i64 wi] := by
        have f1 : ∀ t, frz U s (d + 1) (.str t) = some (.str t) := fun _ => rfl
        have f2 : ∀ n, frz U s (d + 1) (.int .i64 n) = some (.int .i64 n) := fun _ => rfl
        have ih1 : frz U s (d + 1) kv = some (encS true (encL c.kids)) := ih1
        simp only [cellsS, cellsC, List.cons_append, List.nil_append, mapO_cons, mapO_nil, ih1, hcn.2, f1, f2]
        rfl
      show (match mapO (frz U s (d + 1)) (cellsS ⟨c, tm, wi⟩ kv) with | some cs' => some (AV.agg cs') | none => none) = _
      rw [this]; rfl
    rw [e1, mapO_cons, e2, ih2]
    rfl
theorem frzStJ {s : St} {P : Nat → Prop} {D : Nat} {L : List PS} {sv : AV} {d : Nat} (k : StJ s P L sv) (hn : ∀ p ∈ L, okPS D p) (hd : 2 * D + 2 ≤ d) : frz U s d sv = some (encS true (encPS L)) := by
  obtain ⟨d, rfl⟩ : ∃ q, d = q + 1 + 1 := ⟨d - 2, by omega⟩
  rcases k with ⟨rfl, rfl⟩ | ⟨b, cs, h1, rfl, h3, h4, h5⟩
  · rfl
  · rw [frz_sl, h4, frzS_cells, grab_len cs h5.len rfl, ag109, sz109, frzT_agg, frzJSC h5 hn (by omega), fzK_some]
    obtain ⟨c, m, rfl⟩ := List.exists_cons_of_ne_nil h1
    rfl
end Go.Am
