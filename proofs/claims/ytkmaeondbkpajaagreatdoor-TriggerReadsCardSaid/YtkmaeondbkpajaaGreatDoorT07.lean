/- A part of the proof of a statement of this seat: the machine on which the program is read, and what it computes; for every input. -/
import Derived.Test.YtkmaeondbkpajaaGreatDoorT06
import Derived.Test.YtkmaeondbkpajaaGreatDoorT03
set_option linter.all false
set_option linter.all false
namespace Go.Am
open Go
variable [MaxLen]
set_option maxRecDepth 100000
set_option maxHeartbeats 8000000
/-! # The program's reader, in memory -/

def tokC : List Tok → List AV
  | [] => []
  | t :: l => .int .i64 t.off :: .str t.txt :: tokC l
structure InP (s : St) (R B : Nat) (r : Rd) : Prop where
  ex : ∃ pre, s.get R = some (.cells [.sl B pre.length r.l.length none 2, .int .i64 r.bad] 89 false 0 0) ∧ s.get B = some (.cells (pre ++ tokC r.l) 94 false 0 0)
  ne : r.l ≠ []
  dif : R ≠ B
  lr : R < s.next
  lb : B < s.next
  len : r.l.length < 2 ^ 30
/-- but for block R all that stood there stands there still -/
structure Frm (R : Nat) (s s' : St) : Prop where
  next : s.next ≤ s'.next
  get : ∀ j, j < s.next → j ≠ R → s'.get j = s.get j
  fr : Fr s'
theorem Frm.refl {R : Nat} {s : St} (h : Fr s) : Frm R s s := ⟨Nat.le_refl _, fun _ _ _ => rfl, h⟩
theorem Frm.trans {R : Nat} {a b c : St} (h : Frm R a b) (k : Frm R b c) : Frm R a c := ⟨Nat.le_trans h.next k.next, fun j h1 h2 => (k.get j (Nat.lt_of_lt_of_le h1 h.next) h2).trans (h.get j h1 h2), k.fr⟩

theorem pre_get (pre l : List AV) (i : Nat) : (pre ++ l)[pre.length + i]? = l[i]? := by
  rw [List.getElem?_append_right (by omega)]; congr 1; omega
theorem pre_get0 (pre l : List AV) : (pre ++ l)[pre.length]? = l[0]? := pre_get pre l 0
theorem grab_pre (l : List AV) (n : Nat) : ∀ pre : List AV, grab n pre.length (pre ++ l) = grab n 0 l
  | [] => rfl
  | x :: pre => by
    cases n with
    | zero => simp [grab]
    | succ n =>
      show grab (n + 1) (pre.length + 1) (x :: (pre ++ l)) = _
      rw [grab, grab_pre l (n + 1) pre]
theorem InP.open {s : St} {R B : Nat} {r : Rd} (h : InP s R B r) : ∃ t l pre, r = ⟨t :: l, r.bad⟩ ∧ s.get R = some (.cells [.sl B pre.length (l.length + 1) none 2, .int .i64 r.bad] 89 false 0 0) ∧ s.get B = some (.cells (pre ++ tokC (t :: l)) 94 false 0 0) ∧
    (pre ++ tokC (t :: l))[pre.length]? = some (.int .i64 t.off) ∧ (pre ++ tokC (t :: l))[pre.length + 1]? = some (.str t.txt) ∧ grab 2 pre.length (pre ++ tokC (t :: l)) = some [.int .i64 t.off, .str t.txt] := by
  obtain ⟨⟨pre, hR, hB⟩, hne, hd, _, _, _⟩ := h
  obtain ⟨rl, rb⟩ := r
  cases rl with
  | nil => exact absurd rfl hne
  | cons t l => exact ⟨t, l, pre, rfl, hR, hB, by rw [pre_get0]; rfl, by rw [pre_get]; rfl, by rw [grab_pre]; simp [grab, tokC]⟩
theorem c1108 {s : St} {R B : Nat} {r : Rd} (h : InP s R B r) : cal U 108 [.ptr R 0] s = some (.str r.pk, s) := by
  obtain ⟨t, l, pre, e, hR, hB, h0, h1, h2⟩ := h.open
  rw [e]
  refine kept_go k1108 (by kernel_rfl) ?_
  simp +contextual only [go_sem, ↓reduceIte, r1108, hR, hB, h1, Nat.zero_lt_succ, Rd.pk]
theorem ck (f : FuncId) (args : List AV) (s : St) : callK U (calV U f args) f args s = cal U f args s := (callK_eq ..).symm
/-- a call's end, whatever the state -/
def okQ (Q : AV → St → Prop) (x : Option (AV × St)) : Prop := ∃ v s', x = some (v, s') ∧ Q v s'
theorem okQ_some (Q : AV → St → Prop) (v : AV) (s : St) : okQ Q (some (v, s)) = Q v s := by
  apply propext
  constructor
  · rintro ⟨v', s', h, k⟩; cases h; exact k
  · intro h; exact ⟨v, s, rfl, h⟩
theorem kept_ex {f : FuncId} {rs : List ResultVar} {r : RC} (h : fnRC f = some (rs, r)) (hp : isKept f = true) {args : List AV} {s : St} {Q : AV → St → Prop}
    (hg : okQ Q (go U (finB U rs) [] r (bindArgs 0 args .nil) s)) : ∃ v s', cal U f args s = some (v, s') ∧ Q v s' := by
  obtain ⟨v, s', h1, h2⟩ := hg
  exact ⟨v, s', kept_go h hp h1, h2⟩
theorem Frm.new {R : Nat} {a s : St} (h : Frm R a s) (x : Blk) : Frm R a (s.new x) :=
  ⟨by rw [next_new]; have := h.next; omega, fun j h1 h2 => by have := h.next; rw [get_new, if_neg (by omega)]; exact h.get j h1 h2, h.fr.new x⟩
theorem Frm.put {R k : Nat} {a s : St} (h : Frm R a s) (x : Blk) (hk : k = R ∨ a.next ≤ k) (hl : k < s.next) : Frm R a (s.put k x) :=
  ⟨h.next, fun j h1 h2 => by rw [get_put, if_neg (by omega)]; exact h.get j h1 h2, h.fr.put hl x⟩
theorem Frm.upto {R k : Nat} {a s : St} (h : Frm R a s) (hk : s.next ≤ k) : Frm R a (s.upto k) :=
  ⟨by rw [upto_next]; have := h.next; omega, fun j h1 h2 => by rw [upto_get]; exact h.get j h1 h2, h.fr.upto hk⟩
theorem InP.mono {s s' : St} {R B : Nat} {r : Rd} (h : InP s R B r) (hx : s.next ≤ s'.next) (hR : s'.get R = s.get R) (hB : s'.get B = s.get B) : InP s' R B r := by
  obtain ⟨⟨pre, h1, h2⟩, h3, h4, h5, h6, h7⟩ := h
  exact ⟨⟨pre, by rw [hR]; exact h1, by rw [hB]; exact h2⟩, h3, h4, by omega, by omega, h7⟩
theorem InP.mk' {s s' : St} {R B : Nat} {r r' : Rd} (h : InP s R B r) {pre : List AV} (hR : s'.get R = some (.cells [.sl B pre.length r'.l.length none 2, .int .i64 r'.bad] 89 false 0 0)) (hB : s'.get B = some (.cells (pre ++ tokC r'.l) 94 false 0 0))
    (hn : r'.l ≠ []) (hl : r'.l.length ≤ r.l.length) (hx : s.next ≤ s'.next) : InP s' R B r' :=
  ⟨⟨pre, hR, hB⟩, hn, h.dif, by have := h.lr; omega, by have := h.lb; omega, by have := h.len; omega⟩

theorem c1158 {s : St} {R B : Nat} {r : Rd} (h : InP s R B r) (fr : Fr s) : ∃ v s', cal U 158 [.ptr R 0] s = some (v, s') ∧ InP s' R B (pfail r) ∧ Frm R s s' := by
  obtain ⟨t, l, pre, e, hR, hB, h0, h1, h2⟩ := h.open
  have hd := h.dif
  have hd' := hd.symm
  have lr := h.lr
  refine kept_ex k1158 (by kernel_rfl) (Q := fun _ s' => InP s' R B (pfail r) ∧ Frm R s s') ?_
  cases hb : decide (r.bad < 0)
  · simp +contextual only [go_sem, ↓reduceIte, r1158, hR, hB, hb, okQ_some]
    refine ⟨?_, Frm.refl fr⟩
    unfold pfail; rw [hb, br_false]; exact h
  · simp +contextual only [go_sem, ↓reduceIte, r1158, hR, hB, hb, h0, Nat.zero_lt_succ, okQ_some]
    have hp : pfail r = ⟨t :: l, t.off⟩ := by unfold pfail; rw [hb, br_true, e]; rfl
    rw [hp]
    refine ⟨h.mk' (pre := pre) ?_ ?_ (by simp) (by rw [e]; exact Nat.le_refl _) (Nat.le_refl _), Nat.le_refl _, fun j h1 h2 => ?_, fr.put lr _⟩
    · rw [get_put, if_pos rfl]; rfl
    · rw [get_put, if_neg hd]; exact hB
    · rw [get_put, if_neg (fun e => h2 e.symm)]
theorem gt1_1 : decide (((1 : Nat) : Int) > 1) = false := rfl
theorem gt1_2 (n : Nat) : decide (((n + 1 + 1 : Nat) : Int) > 1) = true := by rw [decide_eq_true_eq]; omega
theorem slr_tok (B o n : Nat) : slRL 2 (.sl B o (n + 1 + 1) none 2) (some (.int .i64 1)) none = some (.sl B (o + 2) (n + 1) none 2) := by
  have h1 : (1 : Int) ≤ ((n + 1 + 1 : Nat) : Int) := by omega
  simp only [slRL, boundA, h1]
  simp
theorem tokC_cons (t : Tok) (l : List Tok) : tokC (t :: l) = [.int .i64 t.off, .str t.txt] ++ tokC l := rfl
theorem c1159 {s : St} {R B : Nat} {r : Rd} (h : InP s R B r) (fr : Fr s) : ∃ s', cal U 159 [.ptr R 0] s = some (.agg [.int .i64 r.at_, .str r.pk], s') ∧ InP s' R B r.nx ∧ Frm R s s' := by
  obtain ⟨t, l, pre, e, hR, hB, h0, h1, h2⟩ := h.open
  have hd := h.dif
  have hd' := hd.symm
  have lr := h.lr
  have lb := h.lb
  have : ∃ v s', cal U 159 [.ptr R 0] s = some (v, s') ∧ (v = .agg [.int .i64 r.at_, .str r.pk] ∧ InP s' R B r.nx ∧ Frm R s s') := by
    refine kept_ex k1159 (by kernel_rfl) (Q := fun v s' => v = .agg [.int .i64 r.at_, .str r.pk] ∧ InP s' R B r.nx ∧ Frm R s s') ?_
    have a1 : s.next ≠ R := by omega
    have a2 : s.next + 1 ≠ R := by omega
    have a3 : s.next ≠ B := by omega
    have a4 : s.next + 1 ≠ B := by omega
    have a5 : R ≠ s.next := by omega
    have a6 : R ≠ s.next + 1 := by omega
    have a7 : s.next + 1 ≠ s.next := by omega
    have a8 : s.next ≠ s.next + 1 := by omega
    have e1 : r.at_ = t.off := by rw [e]; rfl
    have e2 : r.pk = t.txt := by rw [e]; rfl
    rw [e1, e2]
    cases l with
    | nil =>
      have e3 : r.nx = r := by rw [e]; rfl
      rw [e3]
      simp +contextual only [go_sem, ↓reduceIte, r1159, hR, hB, h0, h2, Nat.zero_lt_succ, okQ_some, a1, a2, a3, a4, a5, a6, a7, a8, List.length_nil, gt1_1, br_false]
      refine ⟨h.mono (by simp only [next_put, next_new]; omega) ?_ ?_, ((((Frm.refl fr).new _).new _).put _ (.inr (by omega)) (by simp only [next_new]; omega)).put _ (.inr (by omega)) (by simp only [next_put, next_new]; omega)⟩
      · simp only [get_put, get_new, next_new, a1, a2, a7, ↓reduceIte]
      · simp only [get_put, get_new, next_new, a3, a4, a7, ↓reduceIte]
    | cons t' l =>
      have e3 : r.nx = ⟨t' :: l, r.bad⟩ := by rw [e]; rfl
      rw [e3]
      simp +contextual only [go_sem, ↓reduceIte, r1159, hR, hB, h0, h2, Nat.zero_lt_succ, okQ_some, a1, a2, a3, a4, a5, a6, a7, a8, List.length_cons, gt1_2, br_true, slr_tok]
      refine ⟨h.mk' (pre := pre ++ [.int .i64 t.off, .str t.txt]) ?_ ?_ (by simp) (by rw [e]; simp) (by simp only [next_put, next_new]; omega), (((((Frm.refl fr).new _).new _).put _ (.inr (by omega)) (by simp only [next_new]; omega)).put _ (.inl rfl) (by simp only [next_put, next_new]; omega)).put _ (.inr (by omega)) (by simp only [next_put, next_new]; omega)⟩
      · simp only [get_put, get_new, next_new, a1, a2, a7, ↓reduceIte, List.length_append]; rfl
      · rw [tokC_cons, ← List.append_assoc] at hB
        simp only [get_put, get_new, next_new, a3, a4, hd, ↓reduceIte, hB]
  obtain ⟨v, s', q1, rfl, q2⟩ := this
  exact ⟨s', q1, q2⟩

theorem c1106 {s : St} {R B : Nat} {r : Rd} (h : InP s R B r) (fr : Fr s) (w : Str) : ∃ v s', cal U 106 [.ptr R 0, .str w] s = some (v, s') ∧ InP s' R B (ptake w r) ∧ Frm R s s' := by
  refine kept_ex k1106 (by kernel_rfl) (Q := fun _ s' => InP s' R B (ptake w r) ∧ Frm R s s') ?_
  have g0 := c1108 h
  obtain ⟨v1, s1, e1, h1, f1⟩ := c1158 h fr
  obtain ⟨s2, e2, h2, f2⟩ := c1159 h fr
  unfold ptake
  have hn : (r.pk != w) = !(r.pk == w) := rfl
  rw [hn]
  cases hb : r.pk == w
  rotate_left
  · simp +contextual only [go_sem, ↓reduceIte, r1106, ck, g0, e2, hb, okQ_some]
    exact ⟨h2, f2⟩
  · simp +contextual only [go_sem, ↓reduceIte, r1106, ck, g0, e1, hb, okQ_some]
    exact ⟨h1, f1⟩
/-! ### Numbers, words, options -/
theorem ext_val {f : FuncId} {g : List AV → St → Option (AV × St)} (h : extU f = some g) {args : List AV} {v : AV} (hg : ∀ s, g args s = some (v, s)) : calV U f args = some v := by
  refine calV_of fun s => ?_
  unfold cal callF
  rw [U_ext, h]
  exact hg s
theorem c1160 (l : Str) (h : l.length ≤ 5000) : calV U 160 [.str l] = some (atoiV l) := ext_val (g := extAtoi) rfl fun s => by
  unfold extAtoi
  show (bif Nat.ble l.length 5000 then some (atoiV l, s) else none) = _
  rw [show Nat.ble l.length 5000 = true from Nat.ble_eq_true_of_le h]; rfl
theorem c1075 (n : Int) (h0 : -2 ^ 63 ≤ n) (h1 : n < 2 ^ 63) : calV U 75 [.int .i64 n] = some (.str (itoE n)) := ext_val (g := extItoa) rfl fun s => by
  unfold extItoa
  show (bif decide (-2 ^ 63 ≤ n) && decide (n < 2 ^ 63) then some (AV.str (itoE n), s) else none) = _
  rw [show (decide (-2 ^ 63 ≤ n) && decide (n < 2 ^ 63)) = true by rw [Bool.and_eq_true, decide_eq_true_eq, decide_eq_true_eq]; exact ⟨h0, h1⟩]; rfl
theorem bin_nil : binA U .neq 153 true .nili .nili = some (.bool false) := by kernel_rfl
theorem bin_err (t : TypeId) (v : AV) : binA U .neq 153 true (.iface t v) .nili = some (.bool true) := by
  obtain ⟨d, hd⟩ : ∃ d, U.und 153 = some (.interface d) := by
    have h : (match U.und 153 with | some (.interface _) => true | _ => false) = true := by kernel_rfl
    revert h
    cases U.und 153 with
    | none => intro h; cases h
    | some t => cases t <;> intro h <;> first | exact ⟨_, rfl⟩ | cases h
  simp [binA, eqTop, eqT, hd]
theorem c1107 {s : St} {R B : Nat} {r : Rd} (h : InP s R B r) (fr : Fr s) (hl : r.pk.length ≤ 5000) : ∃ s', cal U 107 [.ptr R 0] s = some (.int .i64 (pnum r).1, s') ∧ InP s' R B (pnum r).2 ∧ Frm R s s' := by
  have : ∃ v s', cal U 107 [.ptr R 0] s = some (v, s') ∧ (v = .int .i64 (pnum r).1 ∧ InP s' R B (pnum r).2 ∧ Frm R s s') := by
    refine kept_ex k1107 (by kernel_rfl) (Q := fun v s' => v = .int .i64 (pnum r).1 ∧ InP s' R B (pnum r).2 ∧ Frm R s s') ?_
    have g0 := c1108 h
    obtain ⟨v1, s1, e1, h1, f1⟩ := c1158 h fr
    obtain ⟨s2, e2, h2, f2⟩ := c1159 h fr
    have g1 := c1160 r.pk hl
    unfold atoiV at g1
    have fail : pnumOf r.pk = none → pnum r = (0, pfail r) := fun h => by unfold pnum; rw [h]
    cases ha : Lib.atoiAll r.pk
    · rename_i n
      rw [ha] at g1
      simp only at g1
      have hb := Lib.atoiAll_bounds ha
      have g2 := c1075 n (by omega) (by omega)
      have e9 : decide (((r.pk.length : Nat) : Int) > 9) = decide (r.pk.length > 9) := by
        have : (((r.pk.length : Nat) : Int) > 9) = (r.pk.length > 9) := by apply propext; omega
        simp only [this]
      have hp : pnumOf r.pk = br (decide (r.pk.length > 9) || !(itoE n == r.pk) || decide (n < 0)) none (some n) := by
        unfold pnumOf
        rw [ha]
        simp only
        rw [br_or, br_or]; rfl
      cases hq : (decide (r.pk.length > 9) || !(itoE n == r.pk) || decide (n < 0)) with
      | true =>
        rw [hq, br_true] at hp
        rw [fail hp]
        simp +contextual only [go_sem, ↓reduceIte, r1107, ck, g0, g1, g2, okQ_some, bin_nil, bin_err, e9, hq, e1, br_true]
        exact ⟨h1, f1⟩
      | false =>
        rw [hq, br_false] at hp
        have hp : pnum r = (n, r.nx) := by unfold pnum; rw [hp]
        rw [hp]
        simp +contextual only [go_sem, ↓reduceIte, r1107, ck, g0, g1, g2, okQ_some, bin_nil, bin_err, e9, hq, e2, br_false]
        exact ⟨h2, f2⟩
    · rw [ha] at g1
      simp only at g1
      rw [fail (by unfold pnumOf; rw [ha])]
      simp +contextual only [go_sem, ↓reduceIte, r1107, ck, g0, g1, okQ_some, bin_nil, bin_err, e1]
      exact ⟨h1, f1⟩
    · rw [ha] at g1
      simp only at g1
      rw [fail (by unfold pnumOf; rw [ha])]
      simp +contextual only [go_sem, ↓reduceIte, r1107, ck, g0, g1, okQ_some, bin_nil, bin_err, e1]
      exact ⟨h1, f1⟩
  obtain ⟨v, s', q1, rfl, q2⟩ := this
  exact ⟨s', q1, q2⟩

theorem ixs0 (c : UInt8) (l : Str) : ixRS (.str (c :: l)) (.int .i64 0) = some (.int .u8 c.toNat) := by simp [ixRS]
theorem c1105 (n : Int) : calV U 105 [.int .i32 n] = some (.bool (decide (n ≥ 97) && decide (n ≤ 122) || decide (n ≥ 48) && decide (n ≤ 57))) := by
  refine pure_go k1105 (by kernel_rfl) rfl ?_
  simp +contextual only [go_sem, ↓reduceIte, r1105]
theorem c1105b (c : UInt8) : calV U 105 [.int .i32 c.toNat] = some (.bool (letter c)) := by
  rw [c1105]
  unfold letter
  have e : ∀ n : Nat, decide ((c.toNat : Int) ≥ n) = decide (c.toNat ≥ n) := fun n => by
    have : ((c.toNat : Int) ≥ n) = (c.toNat ≥ n) := by apply propext; omega
    simp only [this]
  have e' : ∀ n : Nat, decide ((c.toNat : Int) ≤ n) = decide (c.toNat ≤ n) := fun n => by
    have : ((c.toNat : Int) ≤ n) = (c.toNat ≤ n) := by apply propext; omega
    simp only [this]
  have h1 := e 97
  have h2 := e' 122
  have h3 := e 48
  have h4 := e' 57
  simp only [Int.cast_ofNat_Int] at h1 h2 h3 h4
  rw [h1, h2, h3, h4]
theorem conv521 {e : Env} {s : St} {k : Nat} {j : IntKind} {n : Int} (h : Env.get e k = .int j n) : opA U (execL U) e (.convert 5 21 (.tmp k)) s = some (.int .i32 (IntKind.i32.wrap n), s) := by
  have h5 : U.und 5 = some (.int .u8) := by kernel_rfl
  have h21 : U.und 21 = some (.int .i32) := by kernel_rfl
  simp only [opA, eval, h, convA, h5, h21]
theorem wrap32 (c : UInt8) : IntKind.i32.wrap (c.toNat : Int) = c.toNat := by
  have := c.toNat_lt
  simp only [IntKind.wrap, IntKind.bits, IntKind.signed]
  simp
  omega
theorem be1 : (([] : Str) == []) = true := rfl
theorem be2 (c : UInt8) (l : Str) : ((c :: l : Str) == []) = false := rfl
theorem c1161 {s : St} {R B : Nat} {r : Rd} (h : InP s R B r) (fr : Fr s) : ∃ s', cal U 161 [.ptr R 0] s = some (.str (pword r).1, s') ∧ InP s' R B (pword r).2 ∧ Frm R s s' := by
  have : ∃ v s', cal U 161 [.ptr R 0] s = some (v, s') ∧ (v = .str (pword r).1 ∧ InP s' R B (pword r).2 ∧ Frm R s s') := by
    refine kept_ex k1161 (by kernel_rfl) (Q := fun v s' => v = .str (pword r).1 ∧ InP s' R B (pword r).2 ∧ Frm R s s') ?_
    have g0 := c1108 h
    obtain ⟨v1, s1, e1, h1, f1⟩ := c1158 h fr
    obtain ⟨s2, e2, h2, f2⟩ := c1159 h fr
    unfold pword
    cases hk : r.pk with
    | nil =>
      rw [hk] at g0
      simp +contextual only [go_sem, ↓reduceIte, r1161, ck, g0, e1, okQ_some, gateV_false, gateR_false, gateC_false, be1]
      exact ⟨h1, f1⟩
    | cons c l =>
      rw [hk] at g0 e2
      have g2 := c1105b c
      cases hb : letter c
      · simp +contextual only [go_sem, ↓reduceIte, r1161, ck, g0, e1, okQ_some, ixs0, conv521 (k := 10) (j := .u8) (n := c.toNat), wrap32, g2, hb, gateV_true, gateR_true, gateC_true, be2]
        exact ⟨h1, f1⟩
      · simp +contextual only [go_sem, ↓reduceIte, r1161, ck, g0, e2, okQ_some, ixs0, conv521 (k := 10) (j := .u8) (n := c.toNat), wrap32, g2, hb, gateV_true, gateR_true, gateC_true, be2]
        exact ⟨h2, f2⟩
  obtain ⟨v, s', q1, rfl, q2⟩ := this
  exact ⟨s', q1, q2⟩
theorem InP.bad {s : St} {R B : Nat} {r : Rd} (h : InP s R B r) : ∃ v, s.get R = some (.cells [v, .int .i64 r.bad] 89 false 0 0) := by
  obtain ⟨⟨pre, h1, _⟩, _⟩ := h
  exact ⟨_, h1⟩
theorem c1110 {s : St} {R B : Nat} {r : Rd} (h : InP s R B r) (fr : Fr s) (w : Str) (o : Int) (hl : r.nx.pk.length ≤ 5000) : ∃ s', cal U 110 [.ptr R 0, .str w, .int .i64 o] s = some (.int .i64 (popt w o r).1, s') ∧ InP s' R B (popt w o r).2 ∧ Frm R s s' := by
  have : ∃ v s', cal U 110 [.ptr R 0, .str w, .int .i64 o] s = some (v, s') ∧ (v = .int .i64 (popt w o r).1 ∧ InP s' R B (popt w o r).2 ∧ Frm R s s') := by
    refine kept_ex k1110 (by kernel_rfl) (Q := fun v s' => v = .int .i64 (popt w o r).1 ∧ InP s' R B (popt w o r).2 ∧ Frm R s s') ?_
    have g0 := c1108 h
    obtain ⟨vl, hR⟩ := h.bad
    obtain ⟨s2, e2, h2, f2⟩ := c1159 h fr
    obtain ⟨s3, e3, h3, f3⟩ := c1107 h2 f2.fr hl
    have hn : (r.pk != w) = !(r.pk == w) := rfl
    unfold popt
    rw [hn]
    cases hb : decide (r.bad ≥ 0) with
    | true =>
      simp +contextual only [go_sem, ↓reduceIte, r1110, ck, g0, hR, okQ_some, hb, br_true, gateV_false, gateR_false, gateC_false, Bool.true_or]
      exact ⟨h, Frm.refl fr⟩
    | false =>
      cases hq : r.pk == w with
      | false =>
        simp +contextual only [go_sem, ↓reduceIte, r1110, ck, g0, hR, okQ_some, hb, hq, br_true, gateV_true, gateR_true, gateC_true, Bool.false_or, Bool.not_false]
        exact ⟨h, Frm.refl fr⟩
      | true =>
        simp +contextual only [go_sem, ↓reduceIte, r1110, ck, g0, hR, e2, e3, okQ_some, hb, hq, br_false, gateV_true, gateR_true, gateC_true, Bool.false_or, Bool.not_true]
        exact ⟨h3, f2.trans f3⟩
  obtain ⟨v, s', q1, rfl, q2⟩ := this
  exact ⟨s', q1, q2⟩
/-! # The reference's reader, in memory -/

def encT (t : Tok) : AV := .agg [.str t.txt, .int .i64 t.off]
structure InR (s : St) (R en : Nat) (r : Rd) : Prop where
  ex : ∃ vl, s.get R = some (.cells [vl, .int .i64 en, .int .i64 r.bad] 101 false 0 0) ∧ ((r.l = [] ∧ vl = .nils) ∨ vl = .fz (r.l.map encT))
  lr : R < s.next
  len : r.l.length < 2 ^ 30
  ne : ∀ t ∈ r.l, t.txt ≠ []
theorem InR.open {s : St} {R en : Nat} {r : Rd} (h : InR s R en r) :
    (∃ vl, r = ⟨[], r.bad⟩ ∧ s.get R = some (.cells [vl, .int .i64 en, .int .i64 r.bad] 101 false 0 0) ∧ lenRL vl = some (.int .i64 (0 : Nat))) ∨
    ∃ t l, r = ⟨t :: l, r.bad⟩ ∧ s.get R = some (.cells [.fz (encT t :: l.map encT), .int .i64 en, .int .i64 r.bad] 101 false 0 0) ∧ t.txt ≠ [] := by
  obtain ⟨⟨vl, hR, hl⟩, lr, _, ne⟩ := h
  obtain ⟨rl, rb⟩ := r
  rcases hl with ⟨h1, rfl⟩ | rfl
  · have h1 : rl = [] := h1
    subst h1
    exact .inl ⟨.nils, rfl, hR, rfl⟩
  · cases rl with
    | nil => exact .inl ⟨_, rfl, hR, rfl⟩
    | cons t l => exact .inr ⟨t, l, rfl, hR, ne t (by simp)⟩
theorem InR.mono {s s' : St} {R en : Nat} {r : Rd} (h : InR s R en r) (hx : s.next ≤ s'.next) (hR : s'.get R = s.get R) : InR s' R en r := by
  obtain ⟨⟨vl, h1, h2⟩, h3, h4, h5⟩ := h
  exact ⟨⟨vl, by rw [hR]; exact h1, h2⟩, by omega, h4, h5⟩
end Go.Am
