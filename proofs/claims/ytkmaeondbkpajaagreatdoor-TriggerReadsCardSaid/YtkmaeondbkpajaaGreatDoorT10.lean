/- A part of the proof of a statement of this seat: the machine on which the program is read, and what it computes; for every input. -/
import Derived.Test.YtkmaeondbkpajaaGreatDoorT05
import Derived.Test.YtkmaeondbkpajaaGreatDoorT09
import Derived.Test.YtkmaeondbkpajaaGreatDoorT07
import Derived.Test.YtkmaeondbkpajaaGreatDoorT06
set_option linter.all false
set_option linter.all false
namespace Go.Am
open Go
variable [MaxLen]
set_option maxRecDepth 100000
set_option maxHeartbeats 8000000
/-! # What the automata use of the laws on signals -/
theorem calv_fn (X : Cx) (g : FuncId) (x y args : List AV) (s : St) : calv X (.fn (.func g) x y) args s = callK X (calV X g (x ++ args ++ y)) g (x ++ args ++ y) s := by
  rw [← callK_eq]; rfl
attribute [go_sem] calv_fn List.nil_append List.append_nil List.cons_append
theorem loop_ex {X : Cx} {β : Type} {fin : Fl → β} {ks : List K} [Stat] {b : RC} {σ : Type} {Post : β → Prop} (m : σ → Nat) (I : σ → Env → St → Prop) (x : σ) {e : Env} {s : St}
    (h : ∀ (L : RC) (x : σ) (e : Env) (s : St), I x e s → (∀ (y : σ) (e' : Env) (s' : St), m y < m x → I y e' s' → Post (goL X fin ks L e' s')) → Post (go X fin (.lp L :: ks) b e s))
    (hI : I x e s) : Post (goL X fin ks b e s) := by
  have key : ∀ n (x : σ) (e : Env) (s : St), m x = n → I x e s → Post (goL X fin ks b e s) := by
    intro n
    induction n using Nat.strongRecOn with
    | ind n ih =>
      intro x e s hx hI
      rw [goL_eq]
      exact h b x e s hI fun y e' s' hy hI' => ih (m y) (by omega) y e' s' rfl hI'
  exact key _ x e s rfl hI
theorem RowI.app2 {s : St} {B : Nat} {t : TypeId} {n i : Nat} {cs : List AV} {v : AV} (h : RowI s B t n i cs v) (hB : B ≤ s.next) {m : Nat} {new : List AV} (hm : m ≠ 0) (hl : new.length = m * n) (hna : new.all Go.Am.noAgg = true) :
    ∃ s1, appD t n m new v s = some (.sl s.next 0 (i + m) none n, s1) ∧ s1.next = s.next + 1 ∧ RowI s1 B t n (i + m) (cs ++ new) (.sl s.next 0 (i + m) none n) ∧ (∀ j, j ≠ s.next → v ≠ .sl j 0 i none n → s1.get j = s.get j) ∧ (Fr s → Fr s1) := by
  rcases h with ⟨rfl, rfl, rfl⟩ | ⟨h0, h1, b, h2, h3, rfl, h5⟩
  · refine ⟨s.new (.cells new t false 0 0), by rw [appD_nils, Nat.zero_add], rfl, .inr ⟨by omega, by rw [Nat.zero_add, List.nil_append]; exact hl, s.next, hB, by rw [next_new]; omega, rfl, by rw [get_new, if_pos rfl]; rfl⟩, fun j hj _ => by rw [get_new, if_neg (by omega)], fun hf => hf.new _⟩
  · refine ⟨(s.put b .gone).new (.cells (cs ++ new) t false 0 0), by rw [appD_sl, h5, appS_cells h1 (by omega) hna], rfl, .inr ⟨by omega, by rw [List.length_append, h1, hl, Nat.add_mul], s.next, hB, by rw [next_new, next_put]; omega, rfl, ?_⟩, fun j hj hv => ?_, fun hf => (hf.put h3 _).new _⟩
    · rw [get_new, next_put, if_pos rfl]
    · have : b ≠ j := fun e => hv (by rw [e])
      rw [get_new, next_put, if_neg (by omega), get_put, if_neg this]
theorem RowI.far {s : St} {B : Nat} {t : TypeId} {n i : Nat} {cs : List AV} {v : AV} (h : RowI s B t n i cs v) {j : Nat} (hj : s.next ≤ j ∨ j < B) : v ≠ .sl j 0 i none n := by
  rintro rfl
  rcases h with ⟨_, h, _⟩ | ⟨_, _, b, h1, h2, h3, _⟩
  · cases h
  · cases h3; omega
theorem RowI.other {s : St} {B : Nat} {t : TypeId} {n i : Nat} {cs : List AV} {v : AV} (h : RowI s B t n i cs v) {j : Nat} {c : List AV} {t' : TypeId} {lo hi : Nat} (hj : s.get j = some (.cells c t' false lo hi)) (ht : t' ≠ t) : v ≠ .sl j 0 i none n := by
  rintro rfl
  rcases h with ⟨_, h, _⟩ | ⟨_, _, b, h1, h2, h3, h4⟩
  · cases h
  · cases h3
    rw [hj] at h4
    cases h4; exact ht rfl
theorem go_drcU {β : Type} {c : Code} {n : Nat} {l : List ROC} (h : rcDrc U c = some (n, l)) (fin : Fl → β) (ks : List K) (e : Env) (s : St) : go U fin ks (.raw c) e s =
    bif noneC s.next s l then goC U (backC U fin ks c e s) fin ks s.next l e (s.upto (s.next + n)) [s.upto (s.next + n)] [] else backC U fin ks c e s := go_drc U h fin ks e s
def part {A : Type} (l : List A) (z : A) (n i : Nat) : List A := l.take i ++ List.replicate (n - i) z
/-! # The reference's numbers -/

/-! # The reference's tokens -/

theorem wlen_le : ∀ l : Str, wlen l ≤ l.length
  | [] => by simp [wlen]
  | c :: l => by
    have := wlen_le l
    rw [wlen]
    cases letter c
    · simp [br]
    · simp only [br_true, List.length_cons]; omega
theorem tlen_le {S : Str} {i : Nat} (hi : i < S.length) : 1 ≤ tlen S[i] (S.drop (i + 1)) ∧ i + tlen S[i] (S.drop (i + 1)) ≤ S.length := by
  unfold tlen
  have := wlen_le (S.drop (i + 1))
  rw [List.length_drop] at this
  cases letter S[i]
  · simp only [br_false]; omega
  · simp only [br_true]; omega
theorem rtk_len (S : Str) : ∀ f i, (rtk S f i).length ≤ f
  | 0, i => by simp [rtk]
  | f + 1, i => by
    rw [rtk]
    cases S.drop i with
    | nil => simp
    | cons c l =>
      have h1 := rtk_len S f (i + 1)
      have h2 := rtk_len S f (i + tlen c l)
      simp only
      cases c == 32 || c == 10
      · simp only [br_false, List.length_cons]; omega
      · simp only [br_true]; omega
/-! # The program's tokens -/

/-- the loop over the tokens, between two rounds -/
structure InY (s : St) (l a R B : Nat) (env : Env) (T : List Tok) : Prop where
  lp : s.get l = some (.loop 0 none env [17] (rfA q1009_0) (rfB q1009_0))
  ea : Env.get env 5 = .ptr a 0
  sa : s.get a = some (.cells [.ptr R 0] 86 false 0 0)
  row : ∃ v, s.get R = some (.cells [v, .int .i64 (-1)] 89 false 0 0) ∧ RowI s B 94 2 T.length (tokC T) v
  fr : Fr s
  lt : a < B ∧ R < B ∧ l < B ∧ B ≤ s.next ∧ a ≠ R ∧ a ≠ l ∧ R ≠ l
  len : T.length < 2 ^ 30
theorem execL_of {c : Code} {r : RC} (hr : rc U c = r) {e : Env} {s : St} {x : Out × Env × St} (h : go U id [] r e s = some x) : execL U c e s = some x := den_sound c e s x (by rw [hr]; exact h)
def okX (Q : Env → St → Prop) (x : Option (Out × Env × St)) : Prop := ∃ e s, x = some (.norm, e, s) ∧ Q e s
theorem okX_some (Q : Env → St → Prop) (e : Env) (s : St) : okX Q (some (.norm, e, s)) = Q e s := by
  apply propext
  constructor
  · rintro ⟨e', s', h, k⟩; cases h; exact k
  · intro h; exact ⟨e, s, rfl, h⟩
theorem execL_ex {c : Code} {r : RC} (hr : rc U c = r) {e : Env} {s : St} {Q : Env → St → Prop} (h : okX Q (go U id [] r e s)) : ∃ e' s', execL U c e s = some (.norm, e', s') ∧ Q e' s' := by
  obtain ⟨e', s', h1, h2⟩ := h
  exact ⟨e', s', execL_of hr h1, h2⟩
theorem tokC_app (T : List Tok) (t : Tok) : tokC (T ++ [t]) = tokC T ++ [.int .i64 t.off, .str t.txt] := by
  induction T with
  | nil => rfl
  | cons x T ih => rw [List.cons_append, tokC_cons, tokC_cons, ih, List.append_assoc]
theorem y_body {S : St} {a R B k : Nat} {e : Env} {T : List Tok} {t : Tok} {v : AV} (e5 : Env.get e 5 = .ptr a 0) (e6 : Env.get e 6 = .ptr k 0) (sa : S.get a = some (.cells [.ptr R 0] 86 false 0 0))
    (sR : S.get R = some (.cells [v, .int .i64 (-1)] 89 false 0 0)) (sk : S.get k = some (.cells [.int .i64 t.off, .str t.txt] 94 false 0 0)) (row : RowI S B 94 2 T.length (tokC T) v) (fr : Fr S) (lR : R < B) (lB : B ≤ S.next) (hT : T.length + 1 < 2 ^ 30) :
    ∃ e' s', execL U (rfB q1009_0) e S = some (.norm, e', s') ∧ (∃ v', s'.get R = some (.cells [v', .int .i64 (-1)] 89 false 0 0) ∧ RowI s' B 94 2 (T.length + 1) (tokC (T ++ [t])) v') ∧ Fr s' ∧ S.next ≤ s'.next ∧
      (∀ j, j < S.next → j ≠ R → v ≠ .sl j 0 T.length none 2 → s'.get j = S.get j) := by
  have hla := row.lenA
  have hna := row.noAgg
  have hfk := fr.at
  have hb1 : (T.length + 1) * 24 ≤ 1099511627776 := by omega
  have hb2 : T.length + 1 ≤ 1099511627776 := by omega
  have la : a < S.next := by
    rcases Nat.lt_or_ge a S.next with h | h
    · exact h
    · rw [fr a h] at sa; cases sa
  have lk : k < S.next := by
    rcases Nat.lt_or_ge k S.next with h | h
    · exact h
    · rw [fr k h] at sk; cases sk
  have n1 : S.next + 6 ≠ a := by omega
  have n2 : S.next + 6 ≠ R := by omega
  have n3 : S.next + 6 ≠ k := by omega
  refine execL_ex rc_1009_b ?_
  simp +contextual only [go_sem, ↓reduceIte, id_eq, go_drcU d1009_b, e5, e6, sa, sR, sk, hfk, appK_some, Nat.reducePow, Nat.one_mul, hla, hna, hb1, hb2, okX_some, Option.isNone_none, n1, n2, n3]
  have hv0 : RowI ((S.upto (S.next + 11)).put (S.next + 6) (.cells [.int .i64 t.off, .str t.txt] 94 false 0 0)) B 94 2 T.length (tokC T) v := row.mono (by rw [next_put, upto_next]; omega) fun j _ hj => by rw [get_put, upto_get, if_neg (by omega)]
  obtain ⟨s1, q1, q2, q3, q4, q5⟩ := hv0.app2 (by rw [next_put, upto_next]; omega) (m := 1) (new := [.int .i64 t.off, .str t.txt]) (by omega) rfl rfl
  rw [next_put, upto_next] at q2 q4 q3 q1
  have fr1 : Fr s1 := q5 ((fr.upto (by omega)).put (by rw [upto_next]; omega) _)
  have va : v ≠ .sl a 0 T.length none 2 := row.other sa (by decide)
  have vR : v ≠ .sl R 0 T.length none 2 := row.other sR (by decide)
  have g1 : ∀ j, j < S.next → v ≠ .sl j 0 T.length none 2 → s1.get j = S.get j := fun j h1 h2 => by rw [q4 j (by omega) h2, get_put, upto_get, if_neg (by omega)]
  have ga := (g1 a la va).trans sa
  have gR := (g1 R (by omega) vR).trans sR
  rw [q1]
  simp +contextual only [go_sem, ↓reduceIte, id_eq, okX_some, ga, gR, sa, n1, n2, q2, e5]
  have lR' : R < s1.next := by omega
  refine ⟨⟨_, rfl, ?_⟩, fr1.put lR' _, by omega, fun j h1 h2 h3 => ?_⟩
  · rw [tokC_app]
    exact q3.mono (Nat.le_refl _) fun j h1 _ => by rw [get_put, if_neg (by omega)]
  · rw [if_neg (fun e => h2 e.symm)]
    exact g1 j h1 h3
theorem y_round {s : St} {l a R B : Nat} {env : Env} {T : List Tok} (h : InY s l a R B env T) (t : Tok) (hT : (T ++ [t]).length < 2 ^ 30) :
    ∃ s', yieldA (execL U) l [.agg [.int .i64 t.off, .str t.txt]] s = some (.bool true, s') ∧ InY s' l a R B env (T ++ [t]) ∧ s.next ≤ s'.next ∧ (∀ j c, j < s.next → j ≠ R → s.get j = some c → (∀ x, c ≠ .cells x 94 false 0 0) → s'.get j = some c) := by
  obtain ⟨lp, ea, sa, ⟨v, sR, row⟩, fr, ⟨l1, l2, l3, l4, l5, l6, l7⟩, hlen⟩ := h
  have ne1 : s.next ≠ l := by omega
  have ne2 : s.next ≠ a := by omega
  have ne3 : s.next ≠ R := by omega
  have A : execL U (rfA q1009_0) (Tr.set env 17 (.agg [.int .i64 t.off, .str t.txt])) s = some (.norm, Tr.set (Tr.set env 17 (.agg [.int .i64 t.off, .str t.txt])) 6 (.ptr s.next 0), (s.new (.cells [.int .i64 0, .str []] 94 false 0 0)).put s.next (.cells [.int .i64 t.off, .str t.txt] 94 false 0 0)) := by
    refine execL_of rc_1009_a ?_
    simp +contextual only [go_sem, ↓reduceIte, r1009_a, id_eq]
  have vl : v ≠ .sl l 0 T.length none 2 := by
    rcases row with ⟨_, rfl, _⟩ | ⟨_, _, b, h1, h2, rfl, h3⟩
    · intro h; cases h
    · intro h; cases h; omega
  have vN : v ≠ .sl s.next 0 T.length none 2 := row.far (.inl (Nat.le_refl _))
  generalize hS1 : (s.new (.cells [.int .i64 0, .str []] 94 false 0 0)).put s.next (.cells [.int .i64 t.off, .str t.txt] 94 false 0 0) = S1 at A
  have G1 : ∀ j, j ≠ s.next → S1.get j = s.get j := fun j hj => by rw [← hS1, get_put, if_neg (fun e => hj e.symm), get_new, if_neg (fun e => hj e.symm)]
  have GN : S1.get s.next = some (.cells [.int .i64 t.off, .str t.txt] 94 false 0 0) := by rw [← hS1, get_put, if_pos rfl]
  have N1 : S1.next = s.next + 1 := by rw [← hS1]; rfl
  have F1 : Fr S1 := by rw [← hS1]; exact (fr.new _).put (by rw [next_new]; omega) _
  have gl := (G1 l (by omega)).trans lp
  obtain ⟨e2, s2, B1, ⟨v2, B2, B3⟩, B4, B5, B6⟩ := y_body (S := S1.put l (.loop 1 none env [17] (rfA q1009_0) (rfB q1009_0))) (a := a) (R := R) (B := B) (k := s.next) (T := T) (t := t) (v := v)
    (e := Tr.set (Tr.set env 17 (.agg [.int .i64 t.off, .str t.txt])) 6 (.ptr s.next 0))
    (by simp +contextual only [go_sem, ↓reduceIte, ea]) (by simp +contextual only [go_sem, ↓reduceIte])
    (by rw [get_put, if_neg (by omega), G1 a (by omega)]; exact sa) (by rw [get_put, if_neg (by omega), G1 R (by omega)]; exact sR) (by rw [get_put, if_neg (by omega)]; exact GN)
    (row.mono (by rw [next_put]; omega) fun j h1 h2 => by rw [get_put, if_neg (by omega), G1 j (by omega)]) (F1.put (by omega) _) l2 (by rw [next_put]; omega) (by simp at hT; omega)
  have B7 : s2.get l = some (.loop 1 none env [17] (rfA q1009_0) (rfB q1009_0)) := by
    rw [B6 l (by rw [next_put]; omega) (fun e => l7 e.symm) vl, get_put, if_pos rfl]
  rw [next_put] at B5 B6
  refine ⟨s2.put l (.loop 0 none env [17] (rfA q1009_0) (rfB q1009_0)), ?_, ⟨?_, ea, ?_, ⟨v2, ?_, ?_⟩, B4.put (by omega) _, ⟨l1, l2, l3, by rw [next_put]; omega, l5, l6, l7⟩, hT⟩, by rw [next_put]; omega, fun j c h1 h2 h3 h4 => ?_⟩
  · unfold yieldA
    rw [lp]
    simp only [List.length_cons, List.length_nil, if_true, List.zip_cons_cons, List.zip_nil_right, List.foldl_cons, List.foldl_nil, A, gl, B1, B7]
    rfl
  · rw [get_put, if_pos rfl]
  · have va : v ≠ .sl a 0 T.length none 2 := row.other sa (by decide)
    rw [get_put, if_neg (by omega), B6 a (by omega) l5 va, get_put, if_neg (by omega), G1 a (by omega)]; exact sa
  · rw [get_put, if_neg (by omega)]; exact B2
  · rw [List.length_append]
    exact B3.mono (Nat.le_refl _) fun j h5 h6 => by rw [get_put, if_neg (by omega)]
  · by_cases hjl : j = l
    · subst hjl
      rw [get_put, if_pos rfl, ← h3, lp]
    · have vj : v ≠ .sl j 0 T.length none 2 := by
        rcases row with ⟨_, rfl, _⟩ | ⟨_, _, b, k1, k2, rfl, k3⟩
        · intro h; cases h
        · intro h
          cases h
          rw [h3] at k3
          cases k3
          exact h4 _ rfl
      rw [get_put, if_neg (fun e => hjl e.symm), B6 j (by omega) h2 vj, get_put, if_neg (fun e => hjl e.symm), G1 j (by omega), h3]
/-! # One kid more: a drawn region with two late stores and an open call -/

def regOps : Code → Array Oper
  | .region _ o _ => o
  | _ => #[]
noncomputable def o20 : Array Oper := regOps q1109_1
noncomputable def p20 (i : Nat) : Oper := o20.getD i default
def isDrawn : Code → Bool
  | .region _ _ d => d
  | _ => false
theorem o20_list : o20.toList = [p20 0, p20 1, p20 2, p20 3, p20 4, p20 5, p20 6, p20 7, p20 8, p20 9, p20 10] := by kernel_rfl
theorem o20_size : o20.size = 11 := by kernel_rfl
theorem q1109_1_eq : ∃ i, q1109_1 = .region i o20 true := by
  have h : isDrawn q1109_1 = true := by kernel_rfl
  unfold o20
  revert h
  generalize q1109_1 = c
  intro h
  cases c <;> simp only [isDrawn, Bool.false_eq_true] at h
  subst h
  exact ⟨_, rfl⟩
theorem cl0 : cls U (p20 0).op = .p := by kernel_rfl
theorem cl1 : cls U (p20 1).op = .r := by kernel_rfl
theorem cl2 : cls U (p20 2).op = .p := by kernel_rfl
theorem cl3 : cls U (p20 3).op = .w := by kernel_rfl
theorem cl4 : cls U (p20 4).op = .r := by kernel_rfl
theorem cl5 : cls U (p20 5).op = .a := by kernel_rfl
theorem cl6 : cls U (p20 6).op = .w := by kernel_rfl
theorem cl7 : cls U (p20 7).op = .p := by kernel_rfl
theorem cl8 : cls U (p20 8).op = .w := by kernel_rfl
theorem cl9 : cls U (p20 9).op = .p := by kernel_rfl
theorem cl10 : cls U (p20 10).op = .w := by kernel_rfl
theorem d0 : (p20 0).dst = some 85 := by kernel_rfl
theorem d1 : (p20 1).dst = some 86 := by kernel_rfl
theorem d2 : (p20 2).dst = some 87 := by kernel_rfl
theorem d3 : (p20 3).dst = some 88 := by kernel_rfl
theorem d4 : (p20 4).dst = some 89 := by kernel_rfl
theorem d5 : (p20 5).dst = some 90 := by kernel_rfl
theorem d6 : (p20 6).dst = some 91 := by kernel_rfl
theorem d7 : (p20 7).dst = some 92 := by kernel_rfl
theorem d8 : (p20 8).dst = none := by kernel_rfl
theorem d9 : (p20 9).dst = some 93 := by kernel_rfl
theorem d10 : (p20 10).dst = none := by kernel_rfl
theorem gg0 : (p20 0).guard = none := by kernel_rfl
theorem gg1 : (p20 1).guard = none := by kernel_rfl
theorem gg2 : (p20 2).guard = none := by kernel_rfl
theorem gg3 : (p20 3).guard = none := by kernel_rfl
theorem gg4 : (p20 4).guard = none := by kernel_rfl
theorem gg5 : (p20 5).guard = none := by kernel_rfl
theorem gg6 : (p20 6).guard = none := by kernel_rfl
theorem gg7 : (p20 7).guard = none := by kernel_rfl
theorem gg8 : (p20 8).guard = none := by kernel_rfl
theorem gg9 : (p20 9).guard = none := by kernel_rfl
theorem gg10 : (p20 10).guard = none := by kernel_rfl
theorem lt0 : late U o20 0 = false := by kernel_rfl
theorem lt1 : late U o20 1 = false := by kernel_rfl
theorem lt2 : late U o20 2 = false := by kernel_rfl
theorem lt3 : late U o20 3 = false := by kernel_rfl
theorem lt4 : late U o20 4 = false := by kernel_rfl
theorem lt5 : late U o20 5 = false := by kernel_rfl
theorem lt6 : late U o20 6 = false := by kernel_rfl
theorem lt7 : late U o20 7 = false := by kernel_rfl
theorem lt8 : late U o20 8 = true := by kernel_rfl
theorem lt9 : late U o20 9 = false := by kernel_rfl
theorem lt10 : late U o20 10 = true := by kernel_rfl
theorem so8 : (p20 8).op = .store 78 (.tmp 92) (.tmp 88) := by kernel_rfl
theorem so10 : (p20 10).op = .store 76 (.tmp 93) (.tmp 91) := by kernel_rfl
theorem wIdx20 : wIdx U o20 0 o20.toList = [3, 6] := by kernel_rfl
theorem aIdx20 : aIdx U 0 o20.toList = [5] := by kernel_rfl
theorem b13 : bef o20 1 3 = false := by kernel_rfl
theorem b16 : bef o20 1 6 = true := by kernel_rfl
theorem b31 : bef o20 3 1 = false := by kernel_rfl
theorem b61 : bef o20 6 1 = false := by kernel_rfl
theorem b43 : bef o20 4 3 = false := by kernel_rfl
theorem b46 : bef o20 4 6 = true := by kernel_rfl
theorem b34 : bef o20 3 4 = false := by kernel_rfl
theorem b64 : bef o20 6 4 = false := by kernel_rfl
theorem b51 : bef o20 5 1 = false := by kernel_rfl
theorem b54 : bef o20 5 4 = false := by kernel_rfl
theorem rc0 : rcOp U (p20 0).op = .fa 6 (.t 6) := by kernel_rfl
theorem rc1 : rcOp U (p20 1).op = .ld1 (.t 85) := by kernel_rfl
theorem rc2 : rcOp U (p20 2).op = .mov (.t 0) := by kernel_rfl
theorem rc3 : rcOp U (p20 3).op = .call 109 [.t 87] := by kernel_rfl
theorem rc4 : rcOp U (p20 4).op = .lenL (.t 86) := by kernel_rfl
theorem rc5 : rcOp U (p20 5).op = .bsl 78 7 1 [.str [], .int .i64 0, .int .i64 0, .int .i64 0, .int .i64 0, .str [], .nils] [(0, 7, .v (.agg [.str [], .int .i64 0, .int .i64 0, .int .i64 0, .int .i64 0, .str [], .nils]))] := by kernel_rfl
theorem rc6 : rcOp U (p20 6).op = .app 78 7 88 (.t 86) (.t 90) := by kernel_rfl
theorem rc7 : rcOp U (p20 7).op = .ixa 7 (.t 91) (.t 89) := by kernel_rfl
theorem rc8 : rcOp U (p20 8).op = .st 7 (.t 92) (.t 88) := by kernel_rfl
theorem rc9 : rcOp U (p20 9).op = .fa 6 (.t 6) := by kernel_rfl
theorem rc10 : rcOp U (p20 10).op = .st 1 (.t 93) (.t 91) := by kernel_rfl
def z7 : List AV := [.str [], .int .i64 0, .int .i64 0, .int .i64 0, .int .i64 0, .str [], .nils]
theorem stp_n {i : Nat} {e : Env} {s s' : St} {v : AV} (hg : (p20 i).guard = none) {c : Cls} (hc : cls U (p20 i).op = c) (hn : c.isA = false) (base : Nat) (h : rop U base none e s (rcOp U (p20 i).op) = some (v, s')) :
    stepD U (execL U) o20 base i (p20 i) e s = some (setDst e (p20 i).dst v, s') := by
  have h1 := rop_spec h
  have hw : wantedA o20 e (p20 i) = true := by unfold wantedA; rw [hg]
  unfold stepD
  rw [hw, hc, h1]
  cases c <;> first | rfl | cases hn
theorem stp_a {i : Nat} {e : Env} {s s' : St} {v : AV} (hg : (p20 i).guard = none) (hc : cls U (p20 i).op = .a) (base : Nat) (h : rop U base (some i) e s (rcOp U (p20 i).op) = some (v, s')) :
    stepD U (execL U) o20 base i (p20 i) e s = some (setDst e (p20 i).dst v, s') := by
  obtain ⟨s1, h1, h2⟩ := rop_at hc h
  have hw : wantedA o20 e (p20 i) = true := by unfold wantedA; rw [hg]
  unfold stepD
  rw [hw, hc]
  simp only [if_true, h1, h2]
theorem lay_same : ∀ (cv zs : List AV), cv.length = zs.length → lay 0 cv zs = some cv
  | [], [], _ => rfl
  | [], z :: zs, h => by simp at h
  | c :: cv, [], h => by simp at h
  | c :: cv, z :: zs, h => by
    rw [lay, lay_same cv zs (by simpa using h)]
theorem lay_pre (cv zs : List AV) (h : cv.length = zs.length) (hn : cv ≠ []) : ∀ cs : List AV, lay cs.length cv (cs ++ zs) = some (cs ++ cv)
  | [] => lay_same cv zs h
  | c :: cs => by
    obtain ⟨a, l, rfl⟩ := List.exists_cons_of_ne_nil hn
    show lay (cs.length + 1) (a :: l) (c :: (cs ++ zs)) = _
    rw [lay, lay_pre (a :: l) zs h hn cs]; rfl
theorem reg20 {e : Env} {s s1 : St} {R B c6 n : Nat} {w0 w1 w2 w3 w4 w5 kv : AV} {cs cv : List AV} (h0 : Env.get e 0 = .ptr R 0) (h6 : Env.get e 6 = .ptr c6 0)
    (hc : s.get c6 = some (.cells [w0, w1, w2, w3, w4, w5, kv] 78 false 0 0)) (row : RowI s B 78 7 n cs kv) (hkc : kv ≠ .sl c6 0 n none 7) (hkR : kv ≠ .sl R 0 n none 7) (hcR : c6 ≠ R) (hR : R < s.next) (hcB : c6 < B) (hB : B ≤ s.next) (hn : n < 2 ^ 20)
    (hcall : cal U 109 [.ptr R 0] (s.upto (s.next + 11)) = some (.agg cv, s1)) (hcv : cv.length = 7) (hcn : cv.all noAgg = true) (fr : Fr s) (f1 : Frm R (s.upto (s.next + 11)) s1) :
    ∃ e' s', execL U q1109_1 e s = some (.norm, e', s') ∧ (∀ t, t < 85 → Env.get e' t = Env.get e t) ∧ (∃ kv', s'.get c6 = some (.cells [w0, w1, w2, w3, w4, w5, kv'] 78 false 0 0) ∧ RowI s' B 78 7 (n + 1) (cs ++ cv) kv' ∧ ∀ j, kv' = .sl j 0 (n + 1) none 7 → s1.get j = none) ∧ Fr s' ∧ s1.next ≤ s'.next ∧
      (∀ j c, s1.get j = some c → j ≠ c6 → kv ≠ .sl j 0 n none 7 → s'.get j = some c) ∧ (∀ j, j < s.next → j ≠ c6 → kv ≠ .sl j 0 n none 7 → s'.get j = s1.get j) := by
  have S1n : s.next + 11 ≤ s1.next := f1.next
  have lc : c6 < s.next := by omega
  have lR : R < s.next := hR
  have g1 : ∀ j, j < s.next + 11 → j ≠ R → s1.get j = s.get j := fun j q1 q2 => by rw [f1.get j q1 q2, upto_get]
  have hc1 := (g1 c6 (by omega) hcR).trans hc
  have hfree : s1.get (s.next + 5) = none := by rw [g1 _ (by omega) (by omega)]; exact fr _ (by omega)
  have hlen := row.len
  have hla := row.lenA
  have hna := row.noAgg
  have hb1 : (n + 1) * 88 ≤ 1099511627776 := by omega
  have hb2 : n + 1 ≤ 1099511627776 := by omega
  have c5 : c6 ≠ s.next + 5 := by omega
  have c5' : s.next + 5 ≠ c6 := by omega
  -- the steps
  have t0 := stp_n (i := 0) (e := e) (s := s.upto (s.next + 11)) (v := .ptr c6 6) (s' := s.upto (s.next + 11)) gg0 cl0 rfl s.next (by rw [rc0]; simp +contextual only [go_sem, ↓reduceIte, h6])
  rw [d0] at t0
  obtain ⟨e1, he1⟩ : ∃ e1, e1 = Tr.set e 85 (.ptr c6 6) := ⟨_, rfl⟩
  have t0 : stepD U (execL U) o20 s.next 0 (p20 0) e (s.upto (s.next + 11)) = some (e1, s.upto (s.next + 11)) := by rw [he1]; exact t0
  have r1 : ∀ S : St, S.get c6 = some (.cells [w0, w1, w2, w3, w4, w5, kv] 78 false 0 0) → rop U s.next none e1 S (rcOp U (p20 1).op) = some (kv, S) := fun S hS => by
    rw [rc1, he1]; simp +contextual only [go_sem, ↓reduceIte, hS]
  have t1 := stp_n (i := 1) gg1 cl1 rfl s.next (r1 (s.upto (s.next + 11)) hc)
  rw [d1] at t1
  obtain ⟨e2, he2⟩ : ∃ e2, e2 = Tr.set e1 86 kv := ⟨_, rfl⟩
  have t1 : stepD U (execL U) o20 s.next 1 (p20 1) e1 (s.upto (s.next + 11)) = some (e2, s.upto (s.next + 11)) := by rw [he2]; exact t1
  have t2 := stp_n (i := 2) (e := e2) (s := s.upto (s.next + 11)) (v := .ptr R 0) (s' := s.upto (s.next + 11)) gg2 cl2 rfl s.next (by rw [rc2, he2, he1]; simp +contextual only [go_sem, ↓reduceIte, h0])
  rw [d2] at t2
  obtain ⟨e3, he3⟩ : ∃ e3, e3 = Tr.set e2 87 (.ptr R 0) := ⟨_, rfl⟩
  have t2 : stepD U (execL U) o20 s.next 2 (p20 2) e2 (s.upto (s.next + 11)) = some (e3, s.upto (s.next + 11)) := by rw [he3]; exact t2
  have t3 := stp_n (i := 3) (e := e3) (s := s.upto (s.next + 11)) (v := .agg cv) (s' := s1) gg3 cl3 rfl s.next (by rw [rc3, he3]; simp +contextual only [go_sem, ↓reduceIte, ck, hcall])
  rw [d3] at t3
  obtain ⟨e4, he4⟩ : ∃ e4, e4 = Tr.set e3 88 (.agg cv) := ⟨_, rfl⟩
  have t3 : stepD U (execL U) o20 s.next 3 (p20 3) e3 (s.upto (s.next + 11)) = some (e4, s1) := by rw [he4]; exact t3
  have E486 : Env.get e4 86 = kv := by rw [he4, he3, he2]; simp +contextual only [go_sem, ↓reduceIte]
  have r4 : ∀ S : St, rop U s.next none e4 S (rcOp U (p20 4).op) = some (.int .i64 (n : Int), S) := fun S => by
    rw [rc4]; simp +contextual only [go_sem, ↓reduceIte, E486, hlen]
  have t4 := stp_n (i := 4) gg4 cl4 rfl s.next (r4 s1)
  rw [d4] at t4
  obtain ⟨e5, he5⟩ : ∃ e5, e5 = Tr.set e4 89 (.int .i64 (n : Int)) := ⟨_, rfl⟩
  have t4 : stepD U (execL U) o20 s.next 4 (p20 4) e4 s1 = some (e5, s1) := by rw [he5]; exact t4
  obtain ⟨s2, hs2⟩ : ∃ s2, s2 = s1.put (s.next + 5) (.cells z7 78 false 0 0) := ⟨_, rfl⟩
  have t5 := stp_a (i := 5) (e := e5) (s := s1) (v := .sl (s.next + 5) 0 1 (some 1) 7) (s' := s2) gg5 cl5 s.next (by rw [rc5, hs2]; simp +contextual only [go_sem, ↓reduceIte, z7])
  rw [d5] at t5
  obtain ⟨e6, he6⟩ : ∃ e6, e6 = Tr.set e5 90 (.sl (s.next + 5) 0 1 (some 1) 7) := ⟨_, rfl⟩
  have t5 : stepD U (execL U) o20 s.next 5 (p20 5) e5 s1 = some (e6, s2) := by rw [he6]; exact t5
  have n2 : s2.next = s1.next := by rw [hs2]; rfl
  have gs2 : s2.get (s.next + 5) = some (.cells z7 78 false 0 0) := by rw [hs2, get_put, if_pos rfl]
  have row2 : RowI s2 B 78 7 n cs kv := by
    rcases row with q | ⟨k0, k1, b, k2, k3, k4, k5⟩
    · exact .inl q
    · refine .inr ⟨k0, k1, b, k2, by omega, k4, ?_⟩
      rw [hs2, get_put, if_neg (by omega), g1 b (by omega) (by rintro rfl; exact hkR k4)]; exact k5
  have fr2 : Fr s2 := by rw [hs2]; exact f1.fr.put (by omega) _
  obtain ⟨s3, q1, q2, q3, q4, q5⟩ := row2.app2 (by omega) (m := 1) (new := z7) (by omega) rfl rfl
  have E586 : Env.get e5 86 = kv := by rw [he5]; simp +contextual only [go_sem, ↓reduceIte, E486]
  have t6 := stp_n (i := 6) (e := e6) (s := s2) (v := .sl s2.next 0 (n + 1) none 7) (s' := s3) gg6 cl6 rfl s.next (by
    rw [rc6]
    have gs2 := gs2
    simp only [z7] at gs2 q1
    rw [he6]
    simp +contextual only [go_sem, ↓reduceIte, E586, gs2, appK_some, Nat.reducePow, Nat.one_mul, hla, hna, hb1, hb2, q1])
  rw [d6] at t6
  obtain ⟨nb, hnb⟩ : ∃ nb, nb = s2.next := ⟨_, rfl⟩
  rw [← hnb] at q1 q2 q3 q4 t6
  obtain ⟨e7, he7⟩ : ∃ e7, e7 = Tr.set e6 91 (.sl nb 0 (n + 1) none 7) := ⟨_, rfl⟩
  have t6 : stepD U (execL U) o20 s.next 6 (p20 6) e6 s2 = some (e7, s3) := by rw [he7]; exact t6
  have gnb : s3.get nb = some (.cells (cs ++ z7) 78 false 0 0) ∧ cs.length = n * 7 := by
    rcases q3 with ⟨h1, _⟩ | ⟨_, k1, b, k2, k3, k4, k5⟩
    · omega
    · cases k4
      refine ⟨k5, ?_⟩
      simp [z7] at k1; omega
  obtain ⟨gnb, hcs⟩ := gnb
  have fr3 : Fr s3 := q5 fr2
  have E789 : Env.get e7 89 = .int .i64 (n : Int) := by rw [he7, he6, he5]; simp +contextual only [go_sem, ↓reduceIte]
  have hix : ixRA 7 (.sl nb 0 (n + 1) none 7) (.int .i64 (n : Int)) = some (.ptr nb (n * 7)) := by
    simp [ixRA]; omega
  have t7 := stp_n (i := 7) (e := e7) (s := s3) (v := .ptr nb (n * 7)) (s' := s3) gg7 cl7 rfl s.next (by
    rw [rc7, he7]
    have E689 : Env.get e6 89 = .int .i64 (n : Int) := by rw [he6, he5]; simp +contextual only [go_sem, ↓reduceIte]
    simp +contextual only [go_sem, ↓reduceIte, E689, hix])
  rw [d7] at t7
  obtain ⟨e8, he8⟩ : ∃ e8, e8 = Tr.set e7 92 (.ptr nb (n * 7)) := ⟨_, rfl⟩
  have t7 : stepD U (execL U) o20 s.next 7 (p20 7) e7 s3 = some (e8, s3) := by rw [he8]; exact t7
  have E892 : Env.get e8 92 = .ptr nb (n * 7) := by rw [he8]; simp +contextual only [go_sem, ↓reduceIte]
  have E888 : Env.get e8 88 = .agg cv := by rw [he8, he7, he6, he5, he4]; simp +contextual only [go_sem, ↓reduceIte]
  obtain ⟨s4, hs4⟩ : ∃ s4, s4 = s3.put nb (.cells (cs ++ cv) 78 false 0 0) := ⟨_, rfl⟩
  have t8 := stp_n (i := 8) (e := e8) (s := s3) (v := undef) (s' := s4) gg8 cl8 rfl s.next (by
    rw [rc8, rop_st]
    simp only [evO, E892, E888, st, AV.cells, hcv, if_true, writeCells, gnb]
    have hl := lay_pre cv z7 (by rw [hcv]; rfl) (by rintro rfl; simp at hcv) cs
    rw [hcs] at hl
    simp [hcn, hl, unitO, hs4])
  rw [d8] at t8
  have t8 : stepD U (execL U) o20 s.next 8 (p20 8) e8 s3 = some (e8, s4) := t8
  have t9 := stp_n (i := 9) (e := e8) (s := s4) (v := .ptr c6 6) (s' := s4) gg9 cl9 rfl s.next (by
    rw [rc9]
    have E86 : Env.get e8 6 = .ptr c6 0 := by rw [he8, he7, he6, he5, he4, he3, he2, he1]; simp +contextual only [go_sem, ↓reduceIte, h6]
    simp +contextual only [go_sem, ↓reduceIte, E86])
  rw [d9] at t9
  obtain ⟨e10, he10⟩ : ∃ e10, e10 = Tr.set e8 93 (.ptr c6 6) := ⟨_, rfl⟩
  have t9 : stepD U (execL U) o20 s.next 9 (p20 9) e8 s4 = some (e10, s4) := by rw [he10]; exact t9
  have kc : kv ≠ .sl c6 0 n none 7 := hkc
  have gc3 : s3.get c6 = some (.cells [w0, w1, w2, w3, w4, w5, kv] 78 false 0 0) := by rw [q4 c6 (by omega) kc, hs2, get_put, if_neg (by omega)]; exact hc1
  have gc4 : s4.get c6 = some (.cells [w0, w1, w2, w3, w4, w5, kv] 78 false 0 0) := by rw [hs4, get_put, if_neg (by omega)]; exact gc3
  obtain ⟨s5, hs5⟩ : ∃ s5, s5 = s4.put c6 (.cells [w0, w1, w2, w3, w4, w5, .sl nb 0 (n + 1) none 7] 78 false 0 0) := ⟨_, rfl⟩
  have t10 := stp_n (i := 10) (e := e10) (s := s4) (v := undef) (s' := s5) gg10 cl10 rfl s.next (by
    rw [rc10, rop_st, hs5]
    have E93 : Env.get e10 93 = .ptr c6 6 := by rw [he10]; simp +contextual only [go_sem, ↓reduceIte]
    have E91 : Env.get e10 91 = .sl nb 0 (n + 1) none 7 := by rw [he10, he8, he7]; simp +contextual only [go_sem, ↓reduceIte]
    simp only [evO, E93, E91, st, AV.cells, writeCells, gc4]
    simp [unitO, lay, noAgg])
  rw [d10] at t10
  have t10 : stepD U (execL U) o20 s.next 10 (p20 10) e10 s4 = some (e10, s5) := t10
  have hgo : goD U (execL U) o20 s.next 0 o20.toList e (s.upto (s.next + 11)) = some [(e, s.upto (s.next + 11)), (e1, s.upto (s.next + 11)), (e2, s.upto (s.next + 11)), (e3, s.upto (s.next + 11)), (e4, s1), (e5, s1), (e6, s2), (e7, s3), (e8, s3), (e8, s4), (e10, s4), (e10, s5)] := by
    rw [o20_list]
    simp only [goD, t0, t1, t2, t3, t4, t5, t6, t7, t8, t9, t10, Nat.zero_add, Nat.reduceAdd]
  have fin : drawA U (execL U) o20 e s = some (e10, s5) := by
    have hE0 : ({ s with next := s.next + o20.size } : St) = s.upto (s.next + 11) := by rw [o20_size]; rfl
    unfold drawA
    rw [hE0, hgo]
    simp only [wIdx20, aIdx20, statesD, List.getElem?_cons_succ, List.getElem?_cons_zero, Nat.reduceAdd]
    have L8 : lateBlk U e8 (p20 8).op = some nb := by rw [so8]; simp only [lateBlk, eval_tmp, E892]
    have L10 : lateBlk U e10 (p20 10).op = some c6 := by
      have E93 : Env.get e10 93 = .ptr c6 6 := by rw [he10]; simp +contextual only [go_sem, ↓reduceIte]
      rw [so10]; simp only [lateBlk, eval_tmp, E93]
    have hlo : lateOk s.next o20.size (lateIds U o20 0 o20.toList [(e, s.upto (s.next + 11)), (e1, s.upto (s.next + 11)), (e2, s.upto (s.next + 11)), (e3, s.upto (s.next + 11)), (e4, s1), (e5, s1), (e6, s2), (e7, s3), (e8, s3), (e8, s4), (e10, s4), (e10, s5)]) = true := by
      rw [o20_list, o20_size]
      simp only [lateIds, lt0, lt1, lt2, lt3, lt4, lt5, lt6, lt7, lt8, lt9, lt10, if_true, Bool.false_eq_true, if_false, L8, L10, Nat.zero_add, Nat.reduceAdd, lateOk, List.all_cons, List.all_nil]
      have a1 : s.next + 11 ≤ nb := by omega
      have a2 : (some c6 == some nb) = false := by
        rw [beq_eq_false_iff_ne]; intro h; cases h; omega
      simp [a1, lc, a2]
    have r1' := fun S hS => rop_spec (r1 S hS)
    have r4' := fun S => rop_spec (r4 S)
    have hck : checkR U (execL U) o20 s.next [3, 6] [5] [(0, s.upto (s.next + 11)), (4, s1), (7, s3)] [(e, s.upto (s.next + 11)), (e1, s.upto (s.next + 11)), (e2, s.upto (s.next + 11)), (e3, s.upto (s.next + 11)), (e4, s1), (e5, s1), (e6, s2), (e7, s3), (e8, s3), (e8, s4), (e10, s4), (e10, s5)] 0 o20.toList
        [(e, s.upto (s.next + 11)), (e1, s.upto (s.next + 11)), (e2, s.upto (s.next + 11)), (e3, s.upto (s.next + 11)), (e4, s1), (e5, s1), (e6, s2), (e7, s3), (e8, s3), (e8, s4), (e10, s4), (e10, s5)] = true := by
      rw [o20_list]
      have w1 : wantedA o20 e1 (p20 1) = true := by unfold wantedA; rw [gg1]
      have w4 : wantedA o20 e4 (p20 4) = true := by unfold wantedA; rw [gg4]
      have q1 := r1' (s.upto (s.next + 11)) hc
      have q2 := r1' s1 hc1
      have q3 := r4' (s.upto (s.next + 11))
      have q4 := r4' s1
      simp only [checkR, cl0, cl1, cl2, cl3, cl4, cl5, cl6, cl7, cl8, cl9, cl10, Nat.zero_add, Nat.reduceAdd, w1, w4, rangeR, countL, b13, b16, b31, b61, b43, b46, b34, b64, Bool.not_true, Bool.not_false, if_true, Bool.false_eq_true, if_false,
        List.take_succ_cons, List.take_zero, List.drop_zero, readsSame, addA, b51, b54, Bool.and_false, q1, q2, q3, q4, same_refl, Bool.and_true, Bool.true_and, Bool.false_or]
    have hna' : noneAll U o20 s.next [(0, s.upto (s.next + 11)), (4, s1), (7, s3)] = true := by
      have f0 : (s.upto (s.next + 11)).get (s.next + 5) = none := fr _ (by omega)
      simp only [noneAll, o20_list, List.drop_zero, List.drop_succ_cons, noneD, cl0, cl1, cl2, cl3, cl4, cl5, cl6, cl7, cl8, cl9, cl10, Cls.isA, Bool.not_false, Bool.not_true, Bool.true_or, Bool.false_or, Bool.true_and, Bool.and_true, Nat.zero_add, Nat.reduceAdd, f0, hfree, Option.isNone_none]
    rw [hlo, hck, hna']
    rfl
  obtain ⟨id, hq⟩ := q1109_1_eq
  refine ⟨e10, s5, ?_, fun t ht => ?_, ⟨_, by rw [hs5, get_put, if_pos rfl], ?_, fun j hj => by cases hj; rw [hnb, n2]; exact f1.fr _ (Nat.le_refl _)⟩, ?_, ?_, fun j c h1 h2 h3 => ?_, fun j h1 h2 h3 => ?_⟩
  · rw [execL_eq, hq]
    simp only [stepA, if_true, fin]
  · rw [he10, he8, he7, he6, he5, he4, he3, he2, he1]
    simp only [Env.get_set]
    have m : ∀ k : Nat, 85 ≤ k → k ≠ t := fun k hk h => Nat.lt_irrefl k (Nat.lt_of_lt_of_le (by rw [h]; exact ht) hk)
    rw [if_neg (m 93 (by omega)), if_neg (m 92 (by omega)), if_neg (m 91 (by omega)), if_neg (m 90 (by omega)), if_neg (m 89 (by omega)), if_neg (m 88 (by omega)), if_neg (m 87 (by omega)), if_neg (m 86 (by omega)), if_neg (m 85 (by omega))]
  · refine .inr ⟨by omega, by rw [List.length_append, hcs, hcv]; omega, nb, by omega, ?_, rfl, ?_⟩
    · rw [hs5, next_put, hs4, next_put]; omega
    · rw [hs5, get_put, if_neg (by omega), hs4, get_put, if_pos rfl]
  · rw [hs5, hs4]
    exact (fr3.put (by omega) _).put (by rw [next_put]; omega) _
  · rw [hs5, next_put, hs4, next_put]; omega
  · have lj : j < s1.next := by
      rcases Nat.lt_or_ge j s1.next with h5 | h5
      · exact h5
      · rw [f1.fr j h5] at h1; cases h1
    rw [hs5, get_put, if_neg (fun e => h2 e.symm), hs4, get_put, if_neg (by omega), q4 j (by omega) h3, hs2, get_put]
    by_cases hj : s.next + 5 = j
    · rw [← hj, hfree] at h1; cases h1
    · rw [if_neg hj]; exact h1
  · rw [hs5, get_put, if_neg (fun e => h2 e.symm), hs4, get_put, if_neg (by omega), q4 j (by omega) h3, hs2, get_put, if_neg (by omega)]
end Go.Am
