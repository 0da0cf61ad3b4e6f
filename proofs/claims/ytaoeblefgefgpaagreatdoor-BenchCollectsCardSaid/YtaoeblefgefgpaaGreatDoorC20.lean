/- A part of the proof of a statement of this seat: the machine on which the program is read, and what it computes; for every input. -/
import Derived.Test.YtaoeblefgefgpaaGreatDoorC19
set_option linter.all false
set_option linter.all false
namespace Go.Am
open Go
set_option maxRecDepth 100000
set_option maxHeartbeats 8000000
/-! # bench.FindMissing -/
theorem gaps_next {i : Str} {b n : Int} (h : b < n) : gaps i b (n + 1) = gaps i b n ++ [(i, n)] := by
  unfold gaps
  rw [show (n + 1 - 1 - b).toNat = (n - 1 - b).toNat + 1 by omega, List.range_succ, List.map_append]
  congr 1
  simp; omega
theorem gaps_none {i : Str} {b n : Int} (h : n ≤ b + 1) : gaps i b n = [] := by
  unfold gaps
  rw [show (n - 1 - b).toNat = 0 by omega]; rfl
theorem gaps_len (i : Str) (b n : Int) : (gaps i b n).length = (n - 1 - b).toNat := by simp [gaps]
def lastS (a : List Shot) : Shot := (a.getLast?).getD K.zShot
theorem lastS_app (a : List Shot) (x : Shot) : lastS (a ++ [x]) = x := by simp [lastS]
def lowN (q x : Shot) : Int := bif x.i != q.i then 0 else q.n
theorem pm_last : ∀ (a : List Shot) (q x : Shot), pm q.i q.n (a ++ [x]) = pm q.i q.n a ++ gaps x.i (lowN ((a.getLast?).getD q) x) x.n
  | [], q, x => by simp [pm, lowN]
  | y :: a, q, x => by
    rw [List.cons_append, pm, pm, pm_last a y x, List.append_assoc]
    congr 2
    cases a with
    | nil => simp
    | cons z a => simp [List.getLast?_cons_cons]; rw [List.getLast?_eq_some_getLast (by simp)]; rfl
theorem pm_take (S : List Shot) (i : Nat) (h : i < S.length) : pm [] 0 (S.take (i + 1)) = pm [] 0 (S.take i) ++ gaps S[i].i (lowN (lastS (S.take i)) S[i]) S[i].n := by
  rw [List.take_succ_eq_append_getElem h]
  exact pm_last (S.take i) K.zShot S[i]
def missV (l : List Shot) : AV := match collectC l with
  | .err e => .tup [.nils, .int .i64 e]
  | .got r => .tup [encS true (missA (pm [] 0 (sortS cmpK r))), .int .i64 0]
theorem err_ne {l : List Shot} {er : Int} (h : collectC l = .err er) : er ≠ 0 := by
  unfold collectC at h
  cases h1 : Nat.blt 1000 l.length
  · rw [h1, cond_false] at h
    cases h2 : badL l == 0
    · rw [h2, cond_false] at h
      cases h
      simpa using h2
    · rw [h2, cond_true] at h
      cases h3 : foundL [] l with
      | none => rw [h3] at h; cases h; decide
      | some f => rw [h3] at h; cases h
  · rw [h1] at h; cases h; decide
/-- a row of shots that lies in memory, or none -/
def RowS (S : List Shot) (P : Nat) (v : AV) (s : St) : Prop := lenRL v = some (.int .i64 S.length) ∧ ∀ i, i < S.length → ∃ b, v = .sl b 0 S.length none 5 ∧ 10 ≤ b ∧ b < P ∧ s.get b = some (.cells (shotsCells S) 42 false 0 0)
theorem miss_b (S : List Shot) (hS : S.length ≤ 1000) (hn : ∀ x ∈ S, 1 ≤ x.n ∧ x.n ≤ 1000) (e0 : Env) (s0 : St) (v : AV) (g4 : Env.get e0 4 = v) (hR : RowS S s0.next v s0) (hF0 : Fr s0) (hB0 : 10 ≤ s0.next) :
    go U (finP U [.tmp 2, .tmp 3]) [] r8_b e0 s0 = some (.tup [encS true (missA (pm [] 0 S)), .int .i64 0]) := by
  obtain ⟨hlv, hRv⟩ := hR
  have hpl : ∀ i, i ≤ S.length → (pm [] 0 (S.take i)).length ≤ 1000 * i := by
    intro i
    induction i with
    | zero => intro _; rw [List.take_zero]; exact Nat.le_refl _
    | succ i ih =>
      intro hi
      rw [pm_take S i (by omega), List.length_append, gaps_len]
      have h1 := ih (by omega)
      have h2 := hn S[i] (List.getElem_mem (by omega))
      have h3 : 0 ≤ lowN (lastS (S.take i)) S[i] := by
        unfold lowN
        cases S[i].i != (lastS (S.take i)).i
        · rw [cond_false]
          unfold lastS
          cases hg : (S.take i).getLast? with
          | none => exact Int.le_refl _
          | some y =>
            have := List.mem_of_getLast? hg
            have := hn y (List.mem_of_mem_take this)
            show 0 ≤ y.n
            omega
        · exact Int.le_refl _
      omega
  simp +contextual only [go_sem, ↓reduceIte, r8_b, g4, hlv]
  refine loop_to (σ := Nat) (fun i => S.length - i) (fun i => some (.tup [encS true (missA (pm [] 0 S)), .int .i64 0])) (fun i e s => i ≤ S.length ∧ Env.get e 22 = v ∧ Env.get e 23 = .int .i64 S.length ∧ Env.get e 24 = .int .i64 i ∧ Env.get e 7 = .ptr s0.next 0 ∧ s0.next < s.next ∧ (∀ c, c < s0.next → s.get c = s0.get c) ∧ (∃ q, q = lastS (S.take i) ∧ s.get s0.next = some (.cells [.str q.i, .int .i64 q.n, .int .i64 q.t, .int .i64 q.f, .int .i64 q.o] 42 false 0 0)) ∧ Fr s ∧ ∃ w, Env.get e 6 = w ∧ RowI s (s0.next + 1) 85 2 (pm [] 0 (S.take i)).length (missCells (pm [] 0 (S.take i))) w) 0 ?_ rfl ?_
  · rintro L i e s ⟨hi, g22, g23, g24, g7, hn0, hkeep, ⟨q, hq, hP⟩, hF, w, g6, row⟩ ih
    by_cases hd : i < S.length
    · have hw := wrap_succ hd (by omega)
      obtain ⟨b, rfl, hb10, hbP, hcb⟩ := hRv i hd
      have hcb' : s.get b = some (.cells (shotsCells S) 42 false 0 0) := by rw [hkeep b hbP]; exact hcb
      have hgr := grab_shots S i hd
      have hni := hn S[i] (List.getElem_mem hd)
      have nP : ¬ s.next = s0.next := by omega
      have nP' : ¬ s0.next = s.next := by omega
      have hpm := pm_take S i hd
      rw [← hq] at hpm
      have hlow : lowN q S[i] = bif S[i].i != q.i then 0 else q.n := rfl
      have hq0 : 0 ≤ q.n ∧ q.n ≤ 1000 := by
        rw [hq]
        unfold lastS
        cases hg : (S.take i).getLast? with
        | none => exact ⟨Int.le_refl _, by decide⟩
        | some y =>
          have := List.mem_of_getLast? hg
          have := hn y (List.mem_of_mem_take this)
          show 0 ≤ y.n ∧ y.n ≤ 1000
          omega
      -- the numbers between
      have inner : ∀ (lo : Int) (P4 : List AV), lo = lowN q S[i] → ∀ (e : Env) (s2 : St), Env.get e 22 = .sl b 0 S.length none 5 → Env.get e 23 = .int .i64 S.length → Env.get e 24 = .int .i64 i → Env.get e 7 = .ptr s0.next 0 → Env.get e 9 = .ptr s.next 0 → Env.get e 6 = w → Env.get e 10 = .int .i64 (lo + 1) → s2.next = s.next + 1 → (∀ c, c < s.next → c ≠ s0.next → s2.get c = s.get c) → s2.get s.next = some (.cells [.str S[i].i, .int .i64 S[i].n, .int .i64 S[i].t, .int .i64 S[i].f, .int .i64 S[i].o] 42 false 0 0) → (∃ q' : Shot, s2.get s0.next = some (.cells [.str q'.i, .int .i64 q'.n, .int .i64 q'.t, .int .i64 q'.f, .int .i64 q'.o] 42 false 0 0)) → Fr s2 →
          goL U (finP U [.tmp 2, .tmp 3]) [K.bk 2, K.sq (.ops [⟨some 50, none, none, false, .ldn 5 (.t 9)⟩, ⟨none, none, none, false, .st 5 (.t 7) (.t 50)⟩]), K.bk 1, K.sq (.ops [⟨some 51, none, none, false, .bin .add 3 true (.t 24) (.v (.int .i64 1))⟩, ⟨some 24, none, none, false, .mov (.t 51)⟩]), K.lp L, K.bk 0, K.sq r8_z] r8_l0 e s2 = some (.tup [encS true (missA (pm [] 0 S)), .int .i64 0]) := by
        intro lo _ hlo e s2 g22 g23 g24 g7 g9 g6 g10 hs2n hs2 hs2x hs2q hF2
        have hlo0 : 0 ≤ lo ∧ lo ≤ 1000 := by
          rw [hlo, hlow]
          cases S[i].i != q.i
          · exact hq0
          · show (0 : Int) ≤ 0 ∧ (0 : Int) ≤ 1000; omega
        rw [← hlo] at hpm
        have hpi := hpl i (by omega)
        have row2 : RowI s2 (s0.next + 1) 85 2 (pm [] 0 (S.take i)).length (missCells (pm [] 0 (S.take i))) w := row.mono (by omega) fun c hc hc' => hs2 c hc' (by omega)
        have hg1 : gaps S[i].i lo (lo + 1 + ((0 : Nat) : Int)) = [] := gaps_none (by omega)
        refine loop_to (σ := Nat) (fun t => 2000 - t) (fun t => some (.tup [encS true (missA (pm [] 0 S)), .int .i64 0])) (fun t e s3 => (lo + 1 + (t : Int) ≤ S[i].n ∨ t = 0) ∧ Env.get e 22 = .sl b 0 S.length none 5 ∧ Env.get e 23 = .int .i64 S.length ∧ Env.get e 24 = .int .i64 i ∧ Env.get e 7 = .ptr s0.next 0 ∧ Env.get e 9 = .ptr s.next 0 ∧ Env.get e 10 = .int .i64 (lo + 1 + (t : Int)) ∧ s.next < s3.next ∧ (∀ c, c < s0.next → s3.get c = s.get c) ∧ s3.get s.next = some (.cells [.str S[i].i, .int .i64 S[i].n, .int .i64 S[i].t, .int .i64 S[i].f, .int .i64 S[i].o] 42 false 0 0) ∧ (∃ q' : Shot, s3.get s0.next = some (.cells [.str q'.i, .int .i64 q'.n, .int .i64 q'.t, .int .i64 q'.f, .int .i64 q'.o] 42 false 0 0)) ∧ Fr s3 ∧ ∃ w', Env.get e 6 = w' ∧ RowI s3 (s0.next + 1) 85 2 (pm [] 0 (S.take i) ++ gaps S[i].i lo (lo + 1 + (t : Int))).length (missCells (pm [] 0 (S.take i) ++ gaps S[i].i lo (lo + 1 + (t : Int)))) w') 0 ?_ rfl ?_
        · rintro L3 t e s3 ⟨ht, g22, g23, g24, g7, g9, g10, hs3, hkeep3, h3x, ⟨q', h3q⟩, hF3, w', g6, row3⟩ ih3
          by_cases hlt : lo + 1 + (t : Int) < S[i].n
          · have hwt : IntKind.i64.wrap (lo + 1 + (t : Int) + 1) = lo + 1 + ((t + 1 : Nat) : Int) := by rw [wrap_i64] <;> omega
            have hgn := gaps_next (i := S[i].i) (b := lo) (n := lo + 1 + (t : Int)) (by omega)
            let X : List AV := [.str S[i].i, .int .i64 (lo + 1 + (t : Int))]
            let S1 : St := s3.new (.cells X 85 false 0 0)
            have hn1 : S1.next = s3.next + 1 := rfl
            have hold : ∀ c, c < s3.next → S1.get c = s3.get c := fun c hc => by
              show (s3.new _).get c = _
              rw [get_new, if_neg (by omega)]
            have row4 : RowI S1 (s0.next + 1) 85 2 (pm [] 0 (S.take i) ++ gaps S[i].i lo (lo + 1 + (t : Int))).length (missCells (pm [] 0 (S.take i) ++ gaps S[i].i lo (lo + 1 + (t : Int)))) w' := row3.mono (by omega) fun c _ hc => hold c hc
            obtain ⟨S2, ha, hn2', row5, hold2, hfr2⟩ := row4.app2 (by omega) (m := 1) (new := X) (by omega) rfl rfl
            have hla : lenA w' = (pm [] 0 (S.take i) ++ gaps S[i].i lo (lo + 1 + (t : Int))).length := row3.lenA
            have hsmall : (pm [] 0 (S.take i) ++ gaps S[i].i lo (lo + 1 + (t : Int))).length ≤ 2 ^ 30 := by
              rw [List.length_append, gaps_len]
              have : 1000 * i ≤ 1000000 := by omega
              omega
            have hk : appK 85 2 24 w' (some (1, [.str S[i].i, .int .i64 (lo + 1 + (t : Int))])) (s3.new (.cells [.str S[i].i, .int .i64 (lo + 1 + (t : Int))] 85 false 0 0)) = some (.sl S1.next 0 ((pm [] 0 (S.take i) ++ gaps S[i].i lo (lo + 1 + (t : Int))).length + 1) none 2, S2) := by
              rw [appK_some rfl (by rw [hla]; omega) (by rw [hla]; omega) (by omega)]; exact ha
            have hkeepX : ∀ c, c < s3.next → (∀ l' hi', s3.get c ≠ some (.cells l' 85 false 0 hi')) → S2.get c = s3.get c := by
              intro c hc hne
              rw [hold2 c (by omega) ?_, hold c hc]
              rintro rfl
              rcases row3 with ⟨_, h, _⟩ | ⟨_, _, b', _, _, h, h'⟩
              · cases h
              · cases h
                exact hne _ _ h'
            have hltd : decide (lo + 1 + (t : Int) < S[i].n) = true := decide_eq_true hlt
            simp +contextual only [go_sem, ↓reduceIte, r8_l0, g6, g7, g9, g10, h3x, hltd, hlt, hk, hwt]
            refine ih3 (t + 1) _ _ (by omega) ⟨.inl (by omega), ?_, ?_, ?_, ?_, ?_, ?_, by omega, fun c hc => ?_, ?_, ⟨q', ?_⟩, hfr2 (hF3.new _), _, rfl, ?_⟩
            · simp +contextual only [go_sem, ↓reduceIte, g22]
            · simp +contextual only [go_sem, ↓reduceIte, g23]
            · simp +contextual only [go_sem, ↓reduceIte, g24]
            · simp +contextual only [go_sem, ↓reduceIte, g7]
            · simp +contextual only [go_sem, ↓reduceIte, g9]
            · simp +contextual only [go_sem, ↓reduceIte]
            · rw [hold2 c (by omega) ?_, hold c (by omega)]
              · exact hkeep3 c hc
              · rintro rfl
                rcases row3 with ⟨_, h, _⟩ | ⟨_, _, b', hb', _, h, _⟩
                · cases h
                · cases h; omega
            · rw [hkeepX _ hs3 (by rw [h3x]; intro l' hi' h; cases h)]; exact h3x
            · rw [hkeepX _ (by omega) (by rw [h3q]; intro l' hi' h; cases h)]; exact h3q
            · simp +contextual only [go_sem, ↓reduceIte]
              rw [show lo + 1 + ((t + 1 : Nat) : Int) = lo + 1 + (t : Int) + 1 by omega, hgn, ← List.append_assoc, List.length_append, missCells, List.flatMap_append]
              exact row5
          · have hltd : decide (lo + 1 + (t : Int) < S[i].n) = false := decide_eq_false hlt
            have hgt : gaps S[i].i lo (lo + 1 + (t : Int)) = gaps S[i].i lo S[i].n := by
              rcases ht with h | h
              · rw [show lo + 1 + (t : Int) = S[i].n by omega]
              · subst h; rw [hg1, gaps_none (by omega)]
            rw [hgt, ← hpm] at row3
            simp +contextual only [go_sem, ↓reduceIte, r8_l0, g6, g7, g9, g10, g24, h3x, h3q, hltd, hlt, hw]
            refine ih (i + 1) _ _ (by omega) ⟨by omega, ?_, ?_, ?_, ?_, ?_, fun c hc => ?_, ⟨S[i], ?_, ?_⟩, ?_, w', ?_, ?_⟩
            · simp +contextual only [go_sem, ↓reduceIte, g22]
            · simp +contextual only [go_sem, ↓reduceIte, g23]
            · simp +contextual only [go_sem, ↓reduceIte]
            · simp +contextual only [go_sem, ↓reduceIte, g7]
            · simp only [next_put]; omega
            · rw [get_put, if_neg (by omega), hkeep3 c hc]; exact hkeep c hc
            · rw [List.take_succ_eq_append_getElem hd, lastS_app]
            · rw [get_put, if_pos rfl]
            · exact Fr.put hF3 (by omega) _
            · simp +contextual only [go_sem, ↓reduceIte, g6]
            · exact row3.mono (Nat.le_of_eq (next_put ..).symm) fun c hc _ => by rw [get_put, if_neg (by omega)]
        · refine ⟨.inr rfl, ?_, ?_, ?_, ?_, ?_, ?_, by omega, fun c hc => hs2 c (by omega) (by omega), hs2x, hs2q, hF2, w, ?_, by rw [hg1, List.append_nil]; exact row2⟩
          · exact g22
          · exact g23
          · exact g24
          · exact g7
          · exact g9
          · rw [g10]; simp
          · exact g6
      simp +contextual only [go_sem, ↓reduceIte, r8_l1, g22, g23, g24, g6, g7, nat_lt_dec, hd, hcb', hgr, hP, nP, nP']
      have hw1 : IntKind.i64.wrap 1 = 1 := by decide
      have hwq : IntKind.i64.wrap (q.n + 1) = q.n + 1 := wrap_i64 (by omega) (by omega)
      cases hb : (S[i].i == q.i) with
      | false =>
        have hlo : (0 : Int) = lowN q S[i] := by rw [hlow, bne, hb]; rfl
        refine inner 0 [] hlo _ _ ?_ ?_ ?_ ?_ ?_ ?_ ?_ ?_ ?_ ?_ ⟨⟨q.i, 0, q.t, q.f, q.o⟩, ?_⟩ ?_
        · simp +contextual only [go_sem, ↓reduceIte, g22]
        · simp +contextual only [go_sem, ↓reduceIte, g23]
        · simp +contextual only [go_sem, ↓reduceIte, g24]
        · simp +contextual only [go_sem, ↓reduceIte, g7]
        · simp +contextual only [go_sem, ↓reduceIte]
        · simp +contextual only [go_sem, ↓reduceIte, g6]
        · simp +contextual only [go_sem, ↓reduceIte, hw1]
        · simp +contextual only [go_sem, ↓reduceIte]
        · intro c hc hc'
          rw [get_put, if_neg (fun e => hc' e.symm), get_put, if_neg (by omega), get_new, if_neg (by omega)]
        · rw [get_put, if_neg nP', get_put, if_pos rfl]
        · rw [get_put, if_pos rfl]
        · exact Fr.put (Fr.put (hF.new _) (by rw [next_new]; omega) _) (by rw [next_put, next_new]; omega) _
      | true =>
        have hlo : q.n = lowN q S[i] := by rw [hlow, bne, hb]; rfl
        refine inner q.n [] hlo _ _ ?_ ?_ ?_ ?_ ?_ ?_ ?_ ?_ ?_ ?_ ⟨q, ?_⟩ ?_
        · simp +contextual only [go_sem, ↓reduceIte, g22]
        · simp +contextual only [go_sem, ↓reduceIte, g23]
        · simp +contextual only [go_sem, ↓reduceIte, g24]
        · simp +contextual only [go_sem, ↓reduceIte, g7]
        · simp +contextual only [go_sem, ↓reduceIte]
        · simp +contextual only [go_sem, ↓reduceIte, g6]
        · simp +contextual only [go_sem, ↓reduceIte, hwq]
        · simp +contextual only [go_sem, ↓reduceIte]
        · intro c hc _
          rw [get_put, if_neg (by omega), get_new, if_neg (by omega)]
        · rw [get_put, if_pos rfl]
        · rw [get_put, if_neg nP, get_new, if_neg nP]; exact hP
        · exact Fr.put (hF.new _) (by rw [next_new]; omega) _
    · have : i = S.length := by omega
      subst this
      rw [List.take_length] at row
      have hf := row.frz_agg U (A := Mis) (enc := misAV) ag_85 sz_85 (by decide) mis_agg (d := 3998) fun x => frz_mis s 3996 x
      simp +contextual only [go_sem, ↓reduceIte, r8_l1, r8_z, g6, g22, g23, g24, nat_lt_dec, Nat.lt_irrefl]
      rw [hf]; rfl
  · refine ⟨Nat.zero_le _, ?_, ?_, ?_, ?_, by simp +contextual only [go_sem, ↓reduceIte], fun c hc => ?_, ⟨K.zShot, rfl, ?_⟩, Fr.put (hF0.new _) (by rw [next_new]; omega) _, .nils, ?_, RowI.nil ..⟩
    · simp +contextual only [go_sem, ↓reduceIte]
    · simp +contextual only [go_sem, ↓reduceIte]
    · simp +contextual only [go_sem, ↓reduceIte]; rfl
    · simp +contextual only [go_sem, ↓reduceIte]
    · rw [get_put, if_neg (by omega), get_new, if_neg (by omega)]
    · rw [get_put, if_pos rfl]; rfl
    · simp +contextual only [go_sem, ↓reduceIte]
theorem c8 (nl : Bool) (l : List Shot) (hs : l.all shortS = true) (hl : l.length ≤ 1000 → ∀ r, collectC l = .got r → r.length ≤ 1000 ∧ distS cmpK r = true ∧ ∀ x ∈ r, 1 ≤ x.n ∧ x.n ≤ 1000) : calV U 8 [encS nl (shotsA l)] = some (missV l) := by
  refine pure_go k8 (by kernel_rfl) (by simp [stills, still_encS]) ?_
  unfold missV
  cases hc : collectC l with
  | err er =>
    have hne : (er != 0) = true := by simpa using err_ne hc
    simp +contextual only [go_sem, ↓reduceIte, r8, e37, row_err hs hc, hne]
  | got r =>
    have h1000 : l.length ≤ 1000 := by
      unfold collectC at hc
      cases hb : Nat.blt 1000 l.length
      · rw [Bool.eq_false_iff, ne_eq, Nat.blt_eq] at hb; omega
      · rw [hb] at hc; cases hc
    obtain ⟨hr1, hr2, hr3⟩ := hl h1000 r hc
    cases r with
    | nil =>
      have hsn : ∀ s, extSort [.nils, .fn (.func 39) [] []] s = some (.tup [], s) := fun _ => rfl
      simp +contextual only [go_sem, ↓reduceIte, r8, e37, row_nil hs hc, e38, hsn, bne_self_eq_false]
      refine miss_b [] (by simp) (by simp) _ _ .nils ?_ ⟨rfl, fun i hi => absurd hi (Nat.not_lt_zero _)⟩ Fr.own (by rw [own_next, U_glob]; exact Nat.le_refl _)
      simp +contextual only [go_sem, ↓reduceIte]
    | cons x r =>
      generalize hS : sortS cmpK (x :: r) = S
      have hperm : S.Perm (x :: r) := by rw [← hS]; exact sortS_perm _ _
      have hlen : S.length = r.length + 1 := hperm.length_eq
      have hsn := K.sort_sl (c := 39) (cf := cmpK) rfl (p := x :: r) (s := (ownSt U).new (.cells (shotsCells (x :: r)) 42 false 0 0)) (b := 10) (by rw [get_new, own_next, U_glob, if_pos rfl]) hr2 (by omega)
      rw [hS] at hsn
      have hg10 : (ownSt U).next = 10 := by rw [own_next, U_glob]
      have hsn' : extSort [.sl 10 0 (r.length + 1) none 5, .fn (.func 39) [] []] ((ownSt U).new (.cells (shotsCells (x :: r)) 42 false 0 0)) = some (.tup [], ((ownSt U).new (.cells (shotsCells (x :: r)) 42 false 0 0)).put 10 (.cells (shotsCells S) 42 false 0 0)) := hsn
      simp +contextual only [go_sem, ↓reduceIte, r8, e37, row_got hs hc, e38, hsn', bne_self_eq_false]
      rw [hS]
      refine miss_b S (by rw [hlen]; simp at hr1; omega) (fun y hy => hr3 y (hperm.mem_iff.1 hy)) _ _ (.sl 10 0 (r.length + 1) none 5) ?_ ⟨by rw [hlen]; rfl, fun i hi => ⟨10, by rw [hlen], Nat.le_refl _, ?_, ?_⟩⟩ (Fr.put (k := 10) (Fr.own.new (.cells (shotsCells (x :: r)) 42 false 0 0)) (by rw [next_new, hg10]; omega) (.cells (shotsCells S) 42 false 0 0)) ?_
      · simp +contextual only [go_sem, ↓reduceIte]
      · simp only [next_put, next_new, hg10]; omega
      · rw [get_put, if_pos rfl]
      · simp only [next_put, next_new, hg10]; omega
end Go.Am
