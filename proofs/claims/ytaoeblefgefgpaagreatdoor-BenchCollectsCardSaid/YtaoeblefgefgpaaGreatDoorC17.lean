/- A part of the proof of a statement of this seat: the machine on which the program is read, and what it computes; for every input. -/
import Derived.Test.YtaoeblefgefgpaaGreatDoorC14
import Derived.Test.YtaoeblefgefgpaaGreatDoorC16
set_option linter.all false
set_option linter.all false
namespace Go.Am.K
open Go Go.Am Go.Proofs
set_option maxRecDepth 100000
set_option maxHeartbeats 8000000

/-! # collect: the whole -/
theorem end_of {f : List Shot} {M r : Nat} {seen : List Nat} {e e' : Env} {s : St} (h : Rng f M r seen e s) (hl : leftA (f.map ent) (List.range f.length) seen = []) (h13 : Env.get e' 13 = Env.get e 13) : EndP f e' s := by
  obtain ⟨v, g13, row⟩ := h.row
  refine ⟨pk f seen, r + 1, v, done_of h hl, by rw [h13]; exact g13, by rw [pk_len]; exact row, by have := h.hM; have := h.hMr; omega, h.fr⟩
theorem EndP.of13 {f : List Shot} {e e' : Env} {s : St} (h : EndP f e s) (h13 : Env.get e' 13 = Env.get e 13) : EndP f e' s := by
  obtain ⟨p, B, v, h1, h2, h3⟩ := h
  exact ⟨p, B, v, h1, by rw [h13]; exact h2, h3⟩
theorem nb_end {e : Env} {s : St} (h : Env.get e 62 = .bool false) : go U (fun d => d) [] rNB e s = some (.exit 4, Tr.set e 62 (.bool false), s) := by
  simp +contextual only [go_sem, ↓reduceIte, rNB, h]
/-- what one round comes to -/
theorem round_gor (hX : Full U Tryz.prog) (hD : DrawOk U Tryz.prog) {f : List Shot} (hlen : f.length ≤ 1000) {M r : Nat} {seen : List Nat} {e : Env} {s : St} (h : Rng f M r seen e s) :
    GoR U Tryz.prog cL e s fun out e' s' => (out = .norm ∧ ∃ b, Rng f M r (seen ++ [b]) e' s') ∨ (out = .exit 4 ∧ EndP f e' s') := by
  rw [k_L, n_reg]
  refine GoR.seq (Q1 := fun out e1 s1 => out = .norm ∧ ((∃ b, Mid f M r seen b e1 s1 ∧ Env.get e1 62 = .bool true) ∨ (EndP f e1 s1 ∧ Env.get e1 62 = .bool false))) ?_ ?_ ?_
  · have hall := next_all h
    have hit : eval U e (.tmp 60) = some (.ptr r 0) := by
      show some (Env.get e 60) = _
      rw [h.g60]
    refine GoR.next hX n_ops n_op n_guard hit ?_ ?_
    · rw [hall]
      split
      · simp
      · rename_i l hl
        intro h0
        rw [List.map_eq_nil_iff] at h0
        exact hl h0
    · rw [hall]
      intro x hx
      split at hx
      · rename_i hl
        rw [List.mem_singleton] at hx
        subst hx
        refine ⟨_, _, ext_step, rfl, .inr ⟨end_of h hl ?_, ?_⟩⟩ <;> simp +contextual only [go_sem, ↓reduceIte]
      · obtain ⟨y, hy, rfl⟩ := List.mem_map.1 hx
        obtain ⟨b, hb, hnb, rfl⟩ := left_iff.1 hy
        refine ⟨_, _, ext_step, rfl, .inl ⟨b, ?_, ?_⟩⟩
        · obtain ⟨nd, lt, g60, it, mp, hM, hMr, hr, fr, v, g13, row⟩ := h
          refine ⟨?_, ?_, ?_, ?_, ?_, hM, hMr, by rw [next_put]; exact hr, fr.put hr _, v, ?_, ?_⟩
          · rw [List.nodup_append]
            refine ⟨nd, by simp, ?_⟩
            intro a ha c hc
            rw [List.mem_singleton] at hc
            subst hc
            rintro rfl
            exact hnb ha
          · intro c hc
            rcases List.mem_append.1 hc with hc | hc
            · exact lt c hc
            · rw [List.mem_singleton] at hc; subst hc; exact hb
          · simp +contextual only [go_sem, ↓reduceIte, g60]
          · rw [get_put, if_pos rfl]
          · rw [get_put, if_neg (by omega)]; exact mp
          · simp +contextual only [go_sem, ↓reduceIte, g13]
          · exact row.mono (Nat.le_of_eq (next_put ..).symm) fun j hj _ => by rw [get_put, if_neg (by omega)]
        · simp +contextual only [go_sem, ↓reduceIte]
  · rintro e1 s1 ⟨_, ⟨b, hm, h62⟩ | ⟨he, h62⟩⟩
    · obtain ⟨e', s', hg, hr⟩ := body_go hm h62 hlen
      exact det_L hX hD (go_exec k_nb hg) (.inl ⟨rfl, b, hr⟩)
    · exact det_L hX hD (go_exec k_nb (nb_end h62)) (.inr ⟨rfl, he.of13 (by simp +contextual only [go_sem, ↓reduceIte])⟩)
  · rintro out e1 s1 hne ⟨rfl, _⟩
    exact absurd rfl hne
theorem loop_gor (hX : Full U Tryz.prog) (hD : DrawOk U Tryz.prog) {f : List Shot} (hlen : f.length ≤ 1000) {M r : Nat} : ∀ (k : Nat) (seen : List Nat) (e : Env) (s : St), Rng f M r seen e s → f.length - seen.length = k →
    GoR U Tryz.prog (.loop cL) e s fun out e' s' => out = .exit 4 ∧ EndP f e' s' := by
  intro k
  induction k with
  | zero =>
    intro seen e s h hk
    refine GoR.loop (round_gor hX hD hlen h) ?_ ?_
    · rintro e1 s1 (⟨_, b, hr⟩ | ⟨h0, _⟩)
      · have := len_le hr.nd hr.lt
        have := len_le h.nd h.lt
        simp at *; omega
      · cases h0
    · rintro out e1 s1 hne (⟨rfl, _⟩ | h0)
      · exact absurd rfl hne
      · exact h0
  | succ k ih =>
    intro seen e s h hk
    refine GoR.loop (round_gor hX hD hlen h) ?_ ?_
    · rintro e1 s1 (⟨_, b, hr⟩ | ⟨h0, _⟩)
      · exact ih (seen ++ [b]) e1 s1 hr (by rw [List.length_append]; simp; omega)
      · cases h0
    · rintro out e1 s1 hne (⟨rfl, _⟩ | h0)
      · exact absurd rfl hne
      · exact h0
/-! ### The end -/
theorem foundL_keys : ∀ (l acc f : List Shot), foundL acc l = some f → acc.Pairwise (fun a b => cmpK a b ≠ 0) → f.Pairwise fun a b => cmpK a b ≠ 0
  | [], acc, f, h, ha => by cases h; exact ha
  | x :: l, acc, f, h, ha => by
    rw [foundL] at h
    cases hf : acc.find? fun y => y.i == x.i && y.n == x.n with
    | some y =>
      rw [hf] at h
      simp only at h
      cases hd : decide (y = x)
      · rw [hd] at h; cases h
      · rw [hd] at h; exact foundL_keys l acc f h ha
    | none =>
      rw [hf] at h
      refine foundL_keys l _ f h ?_
      rw [List.pairwise_append]
      refine ⟨ha, by simp, fun a haa b hb => ?_⟩
      rw [List.mem_singleton] at hb
      subst hb
      have := List.find?_eq_none.1 hf a haa
      intro h0
      have h0 : orI (cmpB a.i b.i) (cmpI a.n b.n) = 0 := h0
      rw [orI_zero, cmpB_zero, cmpI_zero] at h0
      apply this
      rw [h0.1, h0.2]; simp
theorem keys_dist {f : List Shot} (h : f.Pairwise fun a b => cmpK a b ≠ 0) : distS cmpT f = true := by
  rw [distS_iff]
  refine h.imp fun {a b} hab h0 => hab ?_
  have h0 : orI (cmpI a.t b.t) (cmpK a b) = 0 := h0
  exact (orI_zero.1 h0).2
theorem dist_perm {cf : Shot → Shot → Int} (hc : CmpOk cf) {f p : List Shot} (hp : p.Perm f) (h : distS cf f = true) : distS cf p = true := by
  rw [distS_iff] at *
  refine hp.symm.pairwise h fun {a b} hab h0 => hab ?_
  have := hc.neg a b
  omega
theorem noAgg_shots : ∀ l : List Shot, (shotsCells l).all noAgg = true
  | [] => rfl
  | x :: l => by
    rw [shotsCells, List.flatMap_cons, List.all_append]
    have := noAgg_shots l
    rw [shotsCells] at this
    rw [this]; rfl
theorem shotsC_of : ∀ l : List Shot, shotsC l.length (shotsCells l) = some l
  | [] => rfl
  | x :: l => by
    have := shotsC_of l
    rw [shotsCells] at this
    show (match shotC [_, _, _, _, _], shotsC l.length (l.flatMap Shot.cells) with | some x, some r => some (x :: r) | _, _ => none) = _
    rw [this]; rfl
theorem cells_len (l : List Shot) : (shotsCells l).length = l.length * 5 := by
  induction l with
  | nil => rfl
  | cons x l ih =>
    rw [shotsCells] at *
    rw [List.flatMap_cons, List.length_append, ih, List.length_cons]
    show 5 + _ = _
    omega
/-- SortFunc at a row -/
theorem sort_sl {c : FuncId} {cf : Shot → Shot → Int} (hc : cmpOf c = some cf) {p : List Shot} {s : St} {b : Nat} (h : s.get b = some (.cells (shotsCells p) 42 false 0 0)) (hd : distS cf p = true) (hl : p.length ≤ 1000000) :
    extSort [.sl b 0 p.length none 5, .fn (.func c) [] []] s = some (.tup [], s.put b (.cells (shotsCells (sortS cf p)) 42 false 0 0)) := by
  have hcells : s.cells b = some (shotsCells p) := by unfold St.cells; rw [h]
  have hgr : grab (p.length * 5) 0 (shotsCells p) = some (shotsCells p) := by rw [← cells_len]; exact grab_all _
  have hw : writeCells s b 0 (shotsCells (sortS cf p)) = some (s.put b (.cells (shotsCells (sortS cf p)) 42 false 0 0)) := by
    unfold writeCells
    rw [h]
    simp only
    rw [lay_full _ _ (by rw [cells_len, cells_len, (sortS_perm cf p).length_eq]), noAgg_shots]
    simp
  unfold extSort
  simp only [hc, hcells, hgr, shotsC_of, hd, show Nat.ble p.length 1000000 = true by rw [Nat.ble_eq]; exact hl, Bool.and_self, if_true, hw]
theorem e38 {args : List AV} {s : St} : callK U (calV U 38 args) 38 args s = extSort args s := (ck ..).trans rfl
theorem fn_37 : ∃ fn, U.fn 37 = some fn ∧ fn.body = some c37 ∧ fn.results.toList = [.tmp 2, .tmp 3] := by
  refine ⟨Tryz.f37, Tryz.func37, by kernel_rfl, by kernel_rfl⟩
theorem res_of {fn : Func} (h : fn.results.toList = [.tmp 2, .tmp 3]) {e : Env} {s : St} {a b : AV} (ha : Env.get e 2 = a) (hb : Env.get e 3 = b) : resultsA U fn e s = some (.tup [a, b]) := by
  unfold resultsA
  rw [h, ← ha, ← hb]; rfl
/-- after the range -/
theorem tail_go {f p : List Shot} {e : Env} {s : St} {B : Nat} {v : AV} (hp : p.Perm f) (hd : distS cmpT f = true) (h13 : Env.get e 13 = v) (row : RowI s B 42 5 p.length (shotsCells p) v) (hB : 10 ≤ B) (hlen : f.length ≤ 1000) :
    ∃ e' s', go U (fun d => d) [] rTail e s = some (.ret, e', s') ∧ Env.get e' 2 = v ∧ Env.get e' 3 = .int .i64 0 ∧ RowI s' B 42 5 p.length (shotsCells (sortS cmpT f)) v := by
  have hdp := dist_perm cmpT_ok hp hd
  have hsame : sortS cmpT p = sortS cmpT f := sort_one cmpT_ok hd ((sortS_perm cmpT p).trans hp) (sortS_sorted cmpT_ok p)
  rcases row with ⟨h0, rfl, hcs⟩ | ⟨h0, h1, b, h2, h3, rfl, h5⟩
  · have hp0 : p = [] := List.eq_nil_of_length_eq_zero h0
    subst hp0
    have hf0 : f = [] := hp.symm.eq_nil
    subst hf0
    have hs : extSort [.nils, .fn (.func 93) [] []] s = some (.tup [], s) := rfl
    simp +contextual only [go_sem, ↓reduceIte, rTail, h13, e38, hs]
    refine ⟨_, _, rfl, ?_, ?_, .inl ⟨rfl, rfl, rfl⟩⟩ <;> simp +contextual only [go_sem, ↓reduceIte, h13]
  · have hs := sort_sl (c := 93) (cf := cmpT) rfl h5 hdp (by have := hp.length_eq; omega)
    rw [hsame] at hs
    simp +contextual only [go_sem, ↓reduceIte, rTail, h13, e38, hs]
    refine ⟨_, _, rfl, ?_, ?_, .inr ⟨h0, ?_, b, h2, by rw [next_put]; exact h3, rfl, by rw [get_put, if_pos rfl]⟩⟩
    · simp +contextual only [go_sem, ↓reduceIte, h13]
    · simp +contextual only [go_sem, ↓reduceIte, h13]
    · rw [cells_len, (sortS_perm cmpT f).length_eq, hp.length_eq]
theorem shotsF_some : ∀ {es : List AV} {l : List Shot}, shotsF es = some l → es = shotsA l
  | [], l, h => by cases h; rfl
  | x :: es, l, h => by
    cases x <;> simp only [shotsF] at h <;> try (cases h; done)
    rename_i c
    split at h
    · rename_i y r h1 h2
      cases h
      rw [shotsF_some h2]
      unfold shotC at h1
      split at h1
      · cases h1; rfl
      · cases h1
    · cases h
/-- what collect hands back, for shots that lie somewhere -/
def collR (l : List Shot) : RowR := match collectC l with
  | .err e => .flat (.tup [.nils, .int .i64 e])
  | .got [] => .flat (.tup [.nils, .int .i64 0])
  | .got (x :: r) => .row (r.length + 1) none 5 (.int .i64 0) (shotsCells (x :: r)) 42
theorem collectG_some {args : List AV} {r : RowR} (h : collectG args = some r) : ∃ nl l, args = [encS nl (shotsA l)] ∧ l.all shortS = true ∧ r = collR l := by
  unfold collectG at h
  split at h
  · rename_i l hl
    cases hs : l.all shortS
    · rw [hs] at h; cases h
    rw [hs, cond_true] at h
    have hr : r = collR l := by
      unfold collR
      split at h <;> rename_i hc <;> simp only [hc] <;> (cases h; rfl)
    split at hl
    · cases hl
      exact ⟨true, [], rfl, hs, hr⟩
    · rename_i es
      have := shotsF_some hl
      subst this
      exact ⟨false, l, by rw [encS_fz], hs, hr⟩
    · cases hl
  · cases h
theorem found_len : ∀ (l acc f : List Shot), foundL acc l = some f → f.length ≤ acc.length + l.length
  | [], acc, f, h => by cases h; simp
  | x :: l, acc, f, h => by
    rw [foundL] at h
    cases hf : acc.find? fun y => y.i == x.i && y.n == x.n with
    | some y =>
      rw [hf] at h
      simp only at h
      cases hd : decide (y = x)
      · rw [hd] at h; cases h
      · rw [hd] at h
        have := found_len l acc f h
        rw [List.length_cons]; omega
    | none =>
      rw [hf] at h
      have := found_len l _ f h
      rw [List.length_append] at this
      rw [List.length_cons]; simp at this; omega
theorem collect_ok (hX : Full U Tryz.prog) : FnOk U Tryz.prog 37 (rowG (X := U) collectG) := by
  obtain ⟨fn, h1, h2, h3⟩ := fn_37
  refine callR_row hX h1 h2 ?_
  intro fargs r hr
  obtain ⟨nl, l, rfl, hs, rfl⟩ := collectG_some hr
  have hD := drawOk hX
  have hpre := c37_pre nl l hs
  have hsq : seqsB 6 c37 = true := by kernel_rfl
  unfold Pre at hpre
  unfold collR
  split at hpre
  · rename_i er hc
    obtain ⟨e, s, hg, g2, g3⟩ := hpre
    simp only [hc]
    exact det_L hX hD (take_ret 6 c37 _ _ _ _ hsq (go_exec k_pre hg)) ⟨.inr rfl, _, res_of h3 g2 g3, rfl⟩
  · rename_i q hc
    obtain ⟨e, s, f, M, hg, rfl, hf, g7, g13, hM, hMs, hmp, hF⟩ := hpre
    simp only [hc]
    have hlen : f.length ≤ 1000 := by
      have := found_len l [] f hf
      have h1000 : l.length ≤ 1000 := by
        unfold collectC at hc
        cases hb : Nat.blt 1000 l.length
        · rw [Bool.eq_false_iff, ne_eq, Nat.blt_eq] at hb; omega
        · rw [hb] at hc; cases hc
      simp at this; omega
    have hdist := keys_dist (foundL_keys l [] f hf .nil)
    refine take_gor hX hD 6 c37 _ _ _ _ _ hsq (go_exec k_pre hg) ?_
    rw [k_rest]
    refine GoR.seq (Q1 := fun out e' s' => out = .norm ∧ EndP f e' s') ?_ ?_ ?_
    · have hrg : go U (fun d => d) [] rReg e s = some (.norm, Tr.set (Tr.set e 59 (.map M)) 60 (.ptr s.next 0), s.new (.miter (some M) f.length [] f.length)) := by
        have ho : ∀ e' : Env, Env.get e' 59 = .map M → opA U (execL U) e' (.range 191 (.tmp 59)) s = some (.ptr s.next 0, s.new (.miter (some M) f.length [] f.length)) := fun e' h' => by
          simp only [opA, eval, h', und_191, hmp, mapB, miF]
        simp +contextual only [go_sem, ↓reduceIte, rReg, g7, ho]
      refine GoR.seq (Q1 := fun out e' s' => out = .norm ∧ Rng f M s.next [] e' s') ?_ ?_ ?_
      · refine det_L hX hD (go_exec k_reg hrg) ⟨rfl, .nil, by simp, ?_, ?_, ?_, hM, hMs, by rw [next_new]; omega, hF.new _, .nils, ?_, .inl ⟨rfl, rfl, rfl⟩⟩
        · simp +contextual only [go_sem, ↓reduceIte]
        · rw [get_new, if_pos rfl]
        · rw [get_new, if_neg (by omega)]; exact hmp
        · simp +contextual only [go_sem, ↓reduceIte, g13]
      · rintro e1 s1 ⟨_, hr⟩
        refine GoR.block (loop_gor hX hD hlen _ [] e1 s1 hr rfl) ?_ ?_ ?_
        · rintro e2 s2 ⟨h0, _⟩; cases h0
        · rintro i e2 s2 ⟨h0, he⟩
          cases h0
          exact ⟨rfl, he⟩
        · rintro e2 s2 ⟨h0, _⟩; cases h0
      · rintro out e1 s1 hne ⟨rfl, _⟩
        exact absurd rfl hne
    · rintro e1 s1 ⟨_, p, B, v, hp, h13, row, hB, hF1⟩
      obtain ⟨e', s', hg', r2, r3, row'⟩ := tail_go hp hdist h13 row hB hlen
      refine det_L hX hD (go_exec k_tail hg') ⟨.inr rfl, _, res_of h3 r2 r3, ?_⟩
      have hsl : (sortS cmpT f).length = p.length := by rw [(sortS_perm cmpT f).length_eq, hp.length_eq]
      rcases row' with ⟨h0, rfl, hcs⟩ | ⟨h0, h1', b, h2', h3', rfl, h5'⟩
      · have : sortS cmpT f = [] := List.eq_nil_of_length_eq_zero (by omega)
        rw [this]; rfl
      · cases hq : sortS cmpT f with
        | nil => rw [hq] at hsl; simp at hsl; omega
        | cons x q =>
          rw [hq] at h5' hsl
          rw [List.length_cons] at hsl
          rw [← hsl]
          exact ⟨b, rfl, by rw [U_glob]; omega, h5'⟩
    · rintro out e1 s1 hne ⟨rfl, _⟩
      exact absurd rfl hne
end Go.Am.K
set_option linter.all false
namespace Go.Am
open Go
set_option maxRecDepth 100000
set_option maxHeartbeats 8000000
/-! # The reference's check of shots -/
def codeC (l : List Shot) : Int := match collectC l with
  | .err e => e
  | .got _ => 0
theorem code_many {l : List Shot} (h : 1000 < l.length) : codeC l = 5 := by unfold codeC; rw [K.pre_many h]
theorem code_bad {l : List Shot} (h : l.length ≤ 1000) (hb : badL l ≠ 0) : codeC l = badL l := by unfold codeC; rw [K.pre_bad h hb]
theorem code_conf {l : List Shot} (h : l.length ≤ 1000) (hb : badL l = 0) (hf : foundL [] l = none) : codeC l = 29 := by unfold codeC; rw [K.pre_conf h hb hf]
theorem code_got {l f : List Shot} (h : l.length ≤ 1000) (hb : badL l = 0) (hf : foundL [] l = some f) : codeC l = 0 := by unfold codeC; rw [K.pre_got h hb hf]
def pairOK (a b : Shot) : Bool := !(a.i == b.i && a.n == b.n && !decide (a = b))
theorem pair_nc {l : List Shot} (h : ∀ i (hi : i < l.length) k (hk : k < i), pairOK l[i] (l[k]'(by omega)) = true) : NC l := by
  intro a ha b hb h0
  obtain ⟨i, hi, rfl⟩ := List.mem_iff_getElem.1 ha
  obtain ⟨j, hj, rfl⟩ := List.mem_iff_getElem.1 hb
  obtain ⟨h1, h2⟩ := cmpK_zero.1 h0
  have key : ∀ i (hi : i < l.length) k (hk : k < i), (l[i]).i = (l[k]'(by omega)).i → (l[i]).n = (l[k]'(by omega)).n → l[i] = l[k]'(by omega) := by
    intro i hi k hk e1 e2
    have := h i hi k hk
    unfold pairOK at this
    rw [e1, e2] at this
    simpa using this
  rcases Nat.lt_trichotomy i j with hij | hij | hij
  · exact (key j hj i hij h1.symm h2.symm).symm
  · subst hij; rfl
  · exact key i hi j hij h1 h2
theorem c9 (nl : Bool) (l : List Shot) (hl : l.length ≤ 1003) (hs : ∀ x ∈ l, x.i.length < 2 ^ 40) : calV U 9 [encS nl (shotsA l)] = some (.int .i64 (codeC l)) := by
  refine pure_go k9 (by kernel_rfl) (by simp [stills, still_encS]) ?_
  simp +contextual only [go_sem, ↓reduceIte, r9, lenL_encS, shotsA_len]
  by_cases hbig : 1000 < l.length
  · rw [show decide ((l.length : Int) > 1000) = true by simp; omega, code_many hbig]; rfl
  rw [show decide ((l.length : Int) > 1000) = false by simp; omega]
  have hlen : l.length ≤ 1000 := by omega
  refine loop_to (σ := Nat) (fun i => l.length - i) (fun i => some (AV.int .i64 (codeC l))) (fun i e s => i ≤ l.length ∧ badL (l.take i) = 0 ∧ Env.get e 0 = encS nl (shotsA l) ∧ Env.get e 3 = .int .i64 i ∧ Fr s) 0 ?_ rfl ?_
  · rintro L i e s ⟨hi, hbad, g0, g3, hF⟩ ih
    by_cases hd : i < l.length
    · have hx := ixa_shots (nl := nl) hd
      have hw := wrap_succ hd (by omega)
      have hn := c43 l[i].i (hs _ (List.getElem_mem hd))
      have hbt : badL (l.take (i + 1)) = badS l[i] := by
        rw [List.take_succ_eq_append_getElem hd, K.badL_app, hbad]
        simp only [beq_self_eq_true, cond_true, badL]
        cases hb : badS l[i] == 0
        · rfl
        · rw [beq_iff_eq] at hb; rw [hb]; rfl
      have hall : badS l[i] ≠ 0 → codeC l = badS l[i] := by
        intro hne
        have e := K.badL_app (l.take (i + 1)) (l.drop (i + 1))
        rw [List.take_append_drop, hbt, show (badS l[i] == 0) = false by simpa using hne] at e
        have e : badL l = badS l[i] := e
        rw [code_bad hlen (by rw [e]; exact hne), e]
      have hbs : badS l[i] = bif nameB l[i].i then (bif inB l[i].n 1 1000 && inB l[i].t 0 999999999 && inB l[i].f (-999999999) 1999999998 && inB l[i].o (-999999999) 1999999998 then 0 else 3) else 8 := rfl
      cases h0 : nameB l[i].i with
      | false =>
        rw [h0] at hbs hn
        rw [hall (by rw [hbs]; simp), hbs]
        simp +contextual only [go_sem, ↓reduceIte, r9_l0, g0, g3, nat_lt_dec, hd, hx, hn, c44, lenL_encS, shotsA_len, Bool.not_false]
      | true =>
        rw [h0] at hbs hn
        cases h1 : inB l[i].n 1 1000 with
        | false =>
          rw [h1] at hbs
          rw [hall (by rw [hbs]; simp), hbs]
          simp +contextual only [go_sem, ↓reduceIte, r9_l0, g0, g3, nat_lt_dec, hd, hx, hn, c44, lenL_encS, shotsA_len, h1, Bool.not_false, Bool.not_true]
        | true =>
          rw [h1] at hbs
          cases h2 : inB l[i].t 0 999999999 with
          | false =>
            rw [h2] at hbs
            rw [hall (by rw [hbs]; simp), hbs]
            simp +contextual only [go_sem, ↓reduceIte, r9_l0, g0, g3, nat_lt_dec, hd, hx, hn, c44, lenL_encS, shotsA_len, h1, h2, Bool.not_false, Bool.not_true]
          | true =>
            rw [h2] at hbs
            cases h3 : inB l[i].f (-999999999) 1999999998 with
            | false =>
              rw [h3] at hbs
              rw [hall (by rw [hbs]; simp), hbs]
              simp +contextual only [go_sem, ↓reduceIte, r9_l0, g0, g3, nat_lt_dec, hd, hx, hn, c44, lenL_encS, shotsA_len, h1, h2, h3, Bool.not_false, Bool.not_true]
            | true =>
              rw [h3] at hbs
              cases h4 : inB l[i].o (-999999999) 1999999998 with
              | false =>
                rw [h4] at hbs
                rw [hall (by rw [hbs]; simp), hbs]
                simp +contextual only [go_sem, ↓reduceIte, r9_l0, g0, g3, nat_lt_dec, hd, hx, hn, c44, lenL_encS, shotsA_len, h1, h2, h3, h4, Bool.not_false, Bool.not_true]
              | true =>
                rw [h4] at hbs
                simp +contextual only [go_sem, ↓reduceIte, r9_l0, g0, g3, nat_lt_dec, hd, hx, hn, c44, lenL_encS, shotsA_len, h1, h2, h3, h4, Bool.not_false, Bool.not_true, hw]
                refine ih (i + 1) _ _ (by omega) ⟨by omega, by rw [hbt, hbs]; rfl, ?_, ?_, Fr.put (hF.new _) (by rw [next_new]; omega) _⟩ <;> simp +contextual only [go_sem, ↓reduceIte, g0, hw]
    · have : i = l.length := by omega
      subst this
      rw [List.take_length] at hbad
      simp +contextual only [go_sem, ↓reduceIte, r9_l0, g0, g3, nat_lt_dec, Nat.lt_irrefl, lenL_encS, shotsA_len]
      refine loop_to (σ := Nat) (fun i => l.length - i) (fun i => some (AV.int .i64 (codeC l))) (fun i e s => i ≤ l.length ∧ (∀ j (hj : j < l.length) k (hk : k < j), j < i → pairOK l[j] (l[k]'(by omega)) = true) ∧ Env.get e 0 = encS nl (shotsA l) ∧ Env.get e 5 = .int .i64 i ∧ Fr s) 0 ?_ rfl ?_
      · rintro L i e s ⟨hi, hok, g0, g5, hF⟩ ih
        by_cases hd : i < l.length
        · have hx := ixa_shots (nl := nl) hd
          have hw := wrap_succ hd (by omega)
          simp +contextual only [go_sem, ↓reduceIte, r9_l2, g0, g5, nat_lt_dec, hd, lenL_encS, shotsA_len]
          refine loop_to (σ := Nat) (fun k => i - k) (fun k => some (AV.int .i64 (codeC l))) (fun k e s => k ≤ i ∧ (∀ k' (hk : k' < k) (hk2 : k' < l.length), pairOK l[i] l[k'] = true) ∧ Env.get e 0 = encS nl (shotsA l) ∧ Env.get e 5 = .int .i64 i ∧ Env.get e 6 = .int .i64 k ∧ Fr s) 0 ?_ rfl ?_
          · rintro L2 k e s ⟨hk, hokk, g0, g5, g6, hF⟩ ih2
            by_cases hdk : k < i
            · have hkl : k < l.length := by omega
              have hy := ixa_shots (nl := nl) hkl
              have hwk := wrap_succ hkl (by omega)
              have hne := neq43 l[i] l[k]
              have hfr1 := hF.at 0
              simp +contextual only [go_sem, ↓reduceIte, r9_l1, g0, g5, g6, nat_lt_dec, hd, hdk, hx, hy, hne]
              cases hp : (l[i].i == l[k].i && l[i].n == l[k].n && !decide (l[i] = l[k])) with
              | true =>
                have hcf : codeC l = 29 := by
                  refine code_conf hlen hbad ?_
                  cases hf : foundL [] l with
                  | none => rfl
                  | some f =>
                    have hnc := found_nc hf (K.foundL_keys l [] f hf .nil)
                    simp only [Bool.and_eq_true, beq_iff_eq, Bool.not_eq_true', decide_eq_false_iff_not] at hp
                    exact absurd (hnc l[i] (List.getElem_mem hd) l[k] (List.getElem_mem hkl) (cmpK_zero.2 hp.1)) hp.2
                rw [hcf]; rfl
              | false =>
                simp +contextual only [go_sem, ↓reduceIte, hwk]
                refine ih2 (k + 1) _ _ (by omega) ⟨by omega, ?_, ?_, ?_, ?_, ?_⟩
                · intro k' hk' hk2
                  by_cases he : k' = k
                  · subst he; unfold pairOK; rw [hp]; rfl
                  · exact hokk k' (by omega) hk2
                · simp +contextual only [go_sem, ↓reduceIte, g0]
                · simp +contextual only [go_sem, ↓reduceIte, g5]
                · simp +contextual only [go_sem, ↓reduceIte]
                · first | exact hF | exact hF.upto (by omega)
            · have : k = i := by omega
              subst this
              simp +contextual only [go_sem, ↓reduceIte, r9_l1, g0, g5, g6, nat_lt_dec, Nat.lt_irrefl, hw]
              refine ih (k + 1) _ _ (by omega) ⟨by omega, ?_, ?_, ?_, hF⟩
              · intro j hj k' hk' hjk
                by_cases he : j = k
                · subst he; exact hokk k' hk' (by omega)
                · exact hok j hj k' hk' (by omega)
              · simp +contextual only [go_sem, ↓reduceIte, g0]
              · simp +contextual only [go_sem, ↓reduceIte]
          · refine ⟨Nat.zero_le _, fun k' hk => absurd hk (Nat.not_lt_zero _), ?_, ?_, ?_, hF⟩ <;> simp +contextual only [go_sem, ↓reduceIte, g0, g5] <;> rfl
        · have : i = l.length := by omega
          subst this
          have hnc : NC l := pair_nc fun j hj k hk => hok j hj k hk hj
          simp +contextual only [go_sem, ↓reduceIte, r9_l2, g0, g5, nat_lt_dec, Nat.lt_irrefl, lenL_encS, shotsA_len]
          cases hf : foundL [] l with
          | none => exact absurd hf (foundL_none (by simpa using hnc))
          | some f => rw [code_got hlen hbad hf]
      · refine ⟨Nat.zero_le _, fun j hj k hk h => absurd h (Nat.not_lt_zero _), ?_, ?_, hF⟩ <;> simp +contextual only [go_sem, ↓reduceIte, g0] <;> rfl
  · refine ⟨Nat.zero_le _, rfl, ?_, ?_, Fr.own⟩ <;> simp +contextual only [go_sem, ↓reduceIte] <;> rfl
/-! # Rows built by appends to an empty one -/
def Bld (S : St) (B a0 : Nat) (t : TypeId) (n i : Nat) (cs : List AV) (v : AV) : Prop :=
  (i = 0 ∧ cs = [] ∧ v = .sl a0 0 0 (some 0) n ∧ S.get a0 = some (.cells [] t false 0 0) ∧ a0 < B) ∨ (0 < i ∧ RowI S B t n i cs v)
theorem Bld.mono {S S' : St} {B a0 : Nat} {t : TypeId} {n i : Nat} {cs : List AV} {v : AV} (h : Bld S B a0 t n i cs v) (h0 : S'.get a0 = S.get a0) (hn : S.next ≤ S'.next) (hg : ∀ j, B ≤ j → j < S.next → S'.get j = S.get j) : Bld S' B a0 t n i cs v := by
  rcases h with ⟨h1, h2, h3, h4, h5⟩ | ⟨h1, h2⟩
  · exact .inl ⟨h1, h2, h3, by rw [h0]; exact h4, h5⟩
  · exact .inr ⟨h1, h2.mono hn hg⟩
theorem Bld.row {S : St} {B a0 : Nat} {t : TypeId} {n i : Nat} {cs : List AV} {v : AV} (h : Bld S B a0 t n i cs v) (hi : 0 < i) : RowI S B t n i cs v := by
  rcases h with ⟨h1, _⟩ | ⟨_, h2⟩
  · omega
  · exact h2
theorem Bld.app {S : St} {B a0 : Nat} {t : TypeId} {n bytes i : Nat} {cs : List AV} {v : AV} (h : Bld S B a0 t n i cs v) (hB : B ≤ S.next) {m : Nat} {new : List AV} (hl : new.length = m * n) (hna : new.all Go.Am.noAgg = true) (h1 : (i + m) * bytes ≤ 2 ^ 47) (h2 : i + m ≤ 2 ^ 47) :
    ∃ v' S', appK t n bytes v (some (m, new)) S = some (v', S') ∧ Bld S' B a0 t n (i + m) (cs ++ new) v' ∧ B ≤ S'.next ∧ (∀ j, j < B → S'.get j = S.get j) ∧ (Fr S → Fr S') := by
  by_cases hm : m = 0
  · subst hm
    have hnew : new = [] := List.eq_nil_of_length_eq_zero (by rw [hl, Nat.zero_mul])
    subst hnew
    refine ⟨v, S, ?_, by rw [Nat.add_zero, List.append_nil]; exact h, hB, fun _ _ => rfl, fun h => h⟩
    have hlen : lenA v = i := by
      rcases h with ⟨h1, _, rfl, _⟩ | ⟨_, h2⟩
      · rw [h1]; rfl
      · exact h2.lenA
    rw [Nat.add_zero] at h1 h2
    unfold appK
    dsimp only
    rw [if_neg (by rw [hlen, Nat.add_zero]; rintro (h3 | h3 | h3) <;> omega), if_pos rfl]
    rcases h with ⟨_, _, rfl, _⟩ | ⟨h0, h2⟩
    · rfl
    · rcases h2 with ⟨h3, _⟩ | ⟨_, _, b, _, _, rfl, _⟩
      · omega
      · rfl
  · rcases h with ⟨rfl, rfl, rfl, h4, h5⟩ | ⟨h0, h3⟩
    · refine ⟨.sl S.next 0 (0 + m) none n, S.new (.cells new t false 0 0), ?_, .inr ⟨by omega, .inr ⟨by omega, by rw [List.nil_append, Nat.zero_add]; exact hl, S.next, hB, by rw [next_new]; omega, rfl, by rw [get_new, if_pos rfl, List.nil_append]⟩⟩, by rw [next_new]; omega, fun j hj => by rw [get_new, if_neg (by omega)], fun hF => hF.new _⟩
      rw [appK_some hl (by show (0 + m) * bytes ≤ _; exact h1) (by show 0 + m ≤ _; exact h2) hm]
      have hc : S.cells a0 = some [] := by unfold St.cells; rw [h4]
      simp only [appD, hc, Nat.zero_mul]
      rw [show grab 0 0 ([] : List AV) = some [] from rfl]
      simp only
      rw [if_neg (by omega)]
      rfl
    · obtain ⟨S', ha, hn, hr, hg, hf⟩ := h3.app hB hm hl hna
      refine ⟨_, S', ?_, .inr ⟨by omega, hr⟩, by omega, hg, hf⟩
      rw [appK_some hl (by rw [h3.lenA]; exact h1) (by rw [h3.lenA]; exact h2) hm]
      exact ha
theorem sl_lo {b n k esz : Nat} (hz : esz ≠ 0) (hk : k ≤ n) : slRL esz (.sl b 0 n none esz) none (some (.int .i64 (k : Int))) = some (.sl b 0 k none esz) := by
  simp only [slRL, boundA, Option.getD_none, Option.map_none]
  rw [if_pos ⟨by omega, by omega⟩]
  simp
theorem sl_hi {b n k esz : Nat} (hz : esz ≠ 0) (hk : k ≤ n) : slRL esz (.sl b 0 n none esz) (some (.int .i64 (k : Int))) none = some (.sl b (k * esz) (n - k) none esz) := by
  simp only [slRL, boundA, Option.map_none]
  rw [if_pos ⟨by omega, by omega⟩]
  simp
theorem nil_lo {esz : Nat} : slRL esz .nils none (some (.int .i64 ((0 : Nat) : Int))) = some .nils := rfl
theorem nil_hi {esz : Nat} : slRL esz .nils (some (.int .i64 ((0 : Nat) : Int))) none = some .nils := rfl
theorem grab_mid {A : Type} (f : A → List AV) (n : Nat) (hf : ∀ a, (f a).length = n) : ∀ (l : List A) (k m : Nat), k + m ≤ l.length → grab (m * n) (k * n) (l.flatMap f) = some (((l.drop k).take m).flatMap f) := by
  intro l k m h
  have e1 : l.flatMap f = (l.take k).flatMap f ++ (((l.drop k).take m).flatMap f ++ ((l.drop k).drop m).flatMap f) := by
    rw [← List.flatMap_append, ← List.flatMap_append, List.take_append_drop, List.take_append_drop]
  have hlen : ∀ l : List A, (l.flatMap f).length = l.length * n := fun l => by
    induction l with
    | nil => simp
    | cons x l ih => rw [List.flatMap_cons, List.length_append, hf, ih, List.length_cons, Nat.add_mul]; omega
  have hk : ((l.take k).flatMap f).length = k * n := by rw [hlen, List.length_take, Nat.min_eq_left (by omega)]
  have hm : (((l.drop k).take m).flatMap f).length = m * n := by rw [hlen, List.length_take, List.length_drop, Nat.min_eq_left (by omega)]
  rw [e1, ← hk, grab_pre]
  rw [← hm]
  generalize ((l.drop k).take m).flatMap f = a
  generalize ((l.drop k).drop m).flatMap f = c
  induction a with
  | nil => cases c <;> rfl
  | cons x a ih =>
    show grab (a.length + 1) 0 (x :: (a ++ c)) = _
    simp only [grab, ih]
end Go.Am
