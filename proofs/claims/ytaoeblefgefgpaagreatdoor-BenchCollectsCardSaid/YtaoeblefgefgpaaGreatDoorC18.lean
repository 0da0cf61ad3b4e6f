/- A part of the proof of a statement of this seat: the machine on which the program is read, and what it computes; for every input. -/
import Derived.Test.YtaoeblefgefgpaaGreatDoorC17
set_option linter.all false
set_option linter.all false
namespace Go.Am
open Go
set_option maxRecDepth 100000
set_option maxHeartbeats 8000000
/-! # The reference's collecting -/
theorem grab_shots : ∀ (l : List Shot) (i : Nat) (h : i < l.length), grab 5 (i * 5) (shotsCells l) = some [.str l[i].i, .int .i64 l[i].n, .int .i64 l[i].t, .int .i64 l[i].f, .int .i64 l[i].o]
  | [], i, h => by simp at h
  | x :: l, 0, h => by
    show grab (0 + 1 + 1 + 1 + 1 + 1) 0 (AV.str x.i :: .int .i64 x.n :: .int .i64 x.t :: .int .i64 x.f :: .int .i64 x.o :: shotsCells l) = _
    simp only [go_sem, ↓reduceIte, Nat.zero_add]
    rfl
  | x :: l, i + 1, h => by
    have := grab_shots l i (by simpa using h)
    rw [show (i + 1) * 5 = i * 5 + 1 + 1 + 1 + 1 + 1 by omega]
    exact this
theorem c10 (nl : Bool) (l : List Shot) (hl : l.length ≤ 1000) : calV U 10 [encS nl (shotsA l)] = some (encS true (shotsA (refColl [] l))) := by
  refine pure_go k10 (by kernel_rfl) (by simp [stills, still_encS]) ?_
  simp +contextual only [go_sem, ↓reduceIte, r10, lenL_encS, shotsA_len]
  refine loop_to (σ := Nat) (fun i => l.length - i) (fun i => some (encS true (shotsA (refColl [] l)))) (fun i e s => i ≤ l.length ∧ Env.get e 0 = encS nl (shotsA l) ∧ Env.get e 4 = .int .i64 i ∧ 10 ≤ s.next ∧ Fr s ∧ ∃ out v, refColl out (l.drop i) = refColl [] l ∧ out.length ≤ i ∧ Env.get e 3 = v ∧ RowI s 10 43 5 out.length (shotsCells out) v) 0 ?_ rfl ?_
  · rintro L i e s ⟨hi, g0, g4, hB, hF, out, v, hout, hol, g3, row⟩ ih
    by_cases hd : i < l.length
    · have hx := ixa_shots (nl := nl) hd
      have hw := wrap_succ hd (by omega)
      rw [List.drop_eq_getElem_cons hd, refColl] at hout
      simp +contextual only [go_sem, ↓reduceIte, r10_l1, g0, g4, nat_lt_dec, hd, lenL_encS, shotsA_len]
      have hple := posR_le l[i] out
      have ins : ∀ (e : Env) (s' : St), refColl (out.take (posR l[i] out) ++ [l[i]] ++ out.drop (posR l[i] out)) (l.drop (i + 1)) = refColl [] l → Env.get e 0 = encS nl (shotsA l) → Env.get e 4 = .int .i64 i → Env.get e 5 = .int .i64 ((posR l[i] out : Nat) : Int) → Env.get e 3 = v → 10 ≤ s'.next → Fr s' → RowI s' 10 43 5 out.length (shotsCells out) v →
          go U (finP U [.tmp 2]) [K.bk 1, K.sq r10_i, K.lp L, K.bk 0, K.sq r10_z] (.raw q10_0) e s' = some (encS true (shotsA (refColl [] l))) := by
        intro e s' hout g0 g4 g5 g3 hB hF row
        have hlen := row.len
        generalize posR l[i] out = k at *
        have f0 : s'.get s'.next = none := hF _ (Nat.le_refl _)
        have f9 : s'.get (s'.next + 9) = none := hF _ (by omega)
        let X : List AV := [.str l[i].i, .int .i64 l[i].n, .int .i64 l[i].t, .int .i64 l[i].f, .int .i64 l[i].o]
        let S1 : St := (s'.upto (s'.next + 16)).put s'.next (.cells [] 43 false 0 0)
        have hS1n : S1.next = s'.next + 16 := rfl
        have hS1 : ∀ j, j ≠ s'.next → S1.get j = s'.get j := fun j hj => by
          show ((s'.upto _).put _ _).get j = _
          rw [get_put, if_neg (fun e => hj e.symm), upto_get]
        have hF1 : Fr S1 := (hF.upto (by omega)).put (by show s'.next < s'.next + 16; omega) _
        have b1 : Bld S1 (s'.next + 16) s'.next 43 5 0 [] (.sl s'.next 0 0 (some 0) 5) := .inl ⟨rfl, rfl, rfl, by show ((s'.upto _).put _ _).get _ = _; rw [get_put, if_pos rfl], by omega⟩
        obtain ⟨v1, S2, e1, b2, hn2, hg2, hF2⟩ := b1.app (bytes := 48) (by rw [hS1n]; exact Nat.le_refl _) (m := k) (new := shotsCells (out.take k)) (by rw [K.cells_len, List.length_take, Nat.min_eq_left hple]) (K.noAgg_shots _) (by omega) (by omega)
        have hF2 := hF2 hF1
        let S3 : St := S2.put (s'.next + 9) (.cells X 43 false 0 0)
        have b3 : Bld S3 (s'.next + 16) s'.next 43 5 (0 + k) ([] ++ shotsCells (out.take k)) v1 := b2.mono (by show (S2.put _ _).get _ = _; rw [get_put, if_neg (by omega)]) (Nat.le_of_eq (next_put ..).symm) fun j hj _ => by show (S2.put _ _).get _ = _; rw [get_put, if_neg (by omega)]
        have hn3 : s'.next + 16 ≤ S3.next := hn2
        have hF3 : Fr S3 := hF2.put (by omega) _
        obtain ⟨v2, S4, e2, b4, hn4, hg4, hF4⟩ := b3.app (bytes := 48) hn3 (m := 1) (new := X) rfl rfl (by omega) (by omega)
        have hF4 := hF4 hF3
        obtain ⟨v3, S5, e3, b5, hn5, hg5, hF5⟩ := b4.app (bytes := 48) hn4 (m := out.length - k) (new := shotsCells (out.drop k)) (by rw [K.cells_len, List.length_drop]) (K.noAgg_shots _) (by omega) (by omega)
        have hF5 := hF5 hF4
        have h9 : S2.get (s'.next + 9) = none := by rw [hg2 _ (by omega), hS1 _ (by omega)]; exact f9
        have h3x : S3.get (s'.next + 9) = some (.cells X 43 false 0 0) := by show (S2.put _ _).get _ = _; rw [get_put, if_pos rfl]
        have hfin : RowI S5 10 43 5 (out.take k ++ [l[i]] ++ out.drop k).length (shotsCells (out.take k ++ [l[i]] ++ out.drop k)) v3 := by
          have h6 := b5.row (by omega)
          have e6 : (out.take k ++ [l[i]] ++ out.drop k).length = 0 + k + 1 + (out.length - k) := by
            simp only [List.length_append, List.length_take, List.length_drop, List.length_cons, List.length_nil, Nat.min_eq_left hple]; omega
          have e7 : shotsCells (out.take k ++ [l[i]] ++ out.drop k) = [] ++ shotsCells (out.take k) ++ X ++ shotsCells (out.drop k) := by
            simp only [shotsCells, List.flatMap_append, List.nil_append]; rfl
          rw [e6, e7]
          rcases h6 with ⟨h7, h8, h9⟩ | ⟨h7, h8, b, h10, h11, h12, h13⟩
          · omega
          · exact .inr ⟨h7, h8, b, by omega, h11, h12, h13⟩
        have next : ∀ e' : Env, Env.get e' 0 = encS nl (shotsA l) → Env.get e' 4 = .int .i64 i → Env.get e' 3 = v3 → go U (finP U [.tmp 2]) [K.lp L, K.bk 0, K.sq r10_z] r10_i e' S5 = some (encS true (shotsA (refColl [] l))) := by
          intro e' q0 q4 q3
          simp +contextual only [go_sem, ↓reduceIte, r10_i, q4, hw]
          refine ih (i + 1) _ _ (by omega) ⟨by omega, ?_, ?_, by omega, hF5, _, v3, hout, ?_, ?_, hfin⟩
          · simp +contextual only [go_sem, ↓reduceIte, q0]
          · simp +contextual only [go_sem, ↓reduceIte]
          · simp only [List.length_append, List.length_take, List.length_drop, List.length_cons, List.length_nil, Nat.min_eq_left hple]; omega
          · simp +contextual only [go_sem, ↓reduceIte, q3]
        rcases row with ⟨h0, rfl, h2⟩ | ⟨h0, h1, b, h2, h3, rfl, h5⟩
        · have hout0 : out = [] := List.eq_nil_of_length_eq_zero h0
          have hk0 : k = 0 := by omega
          subst hk0
          subst hout0
          have e1' : appK 43 5 48 (.sl s'.next 0 0 (some 0) 5) (some (0, [])) ((s'.upto (s'.next + 16)).put s'.next (.cells [] 43 false 0 0)) = some (v1, S2) := e1
          have e2' : appK 43 5 48 v1 (some (1, [.str l[i].i, .int .i64 l[i].n, .int .i64 l[i].t, .int .i64 l[i].f, .int .i64 l[i].o])) (S2.put (s'.next + 9) (.cells [.str l[i].i, .int .i64 l[i].n, .int .i64 l[i].t, .int .i64 l[i].f, .int .i64 l[i].o] 43 false 0 0)) = some (v2, S4) := e2
          have e3' : appK 43 5 48 v2 (some (0, [])) S4 = some (v3, S5) := e3
          simp +contextual only [go_sem, ↓reduceIte, go_drcU d10_0, g0, g3, g4, g5, hx, f0, f9, nil_lo, nil_hi, source_nils, e1', e2', e3', h9]
          refine next _ ?_ ?_ ?_ <;> simp +contextual only [go_sem, ↓reduceIte, g0, g4]
        · have sL := sl_lo (b := b) (n := out.length) (k := k) (esz := 5) (by omega) hple
          have sH := sl_hi (b := b) (n := out.length) (k := k) (esz := 5) (by omega) hple
          have hb1 : S1.get b = some (.cells (shotsCells out) 43 false 0 0) := by rw [hS1 _ (by omega)]; exact h5
          have hb4 : S4.get b = some (.cells (shotsCells out) 43 false 0 0) := by
            rw [hg4 _ (by omega)]
            show (S2.put _ _).get _ = _
            rw [get_put, if_neg (by omega), hg2 _ (by omega)]; exact hb1
          have gL : grab (k * 5) 0 (shotsCells out) = some (shotsCells (out.take k)) := by
            have := grab_mid Shot.cells 5 (fun _ => rfl) out 0 k (by omega)
            rw [Nat.zero_mul, List.drop_zero] at this; exact this
          have gH : grab ((out.length - k) * 5) (k * 5) (shotsCells out) = some (shotsCells (out.drop k)) := by
            have := grab_mid Shot.cells 5 (fun _ => rfl) out k (out.length - k) (by omega)
            rw [List.take_of_length_le (by rw [List.length_drop]; exact Nat.le_refl _)] at this; exact this
          have nb : ¬ s'.next = b := by omega
          have e1' : appK 43 5 48 (.sl s'.next 0 0 (some 0) 5) (some (k, shotsCells (out.take k))) ((s'.upto (s'.next + 16)).put s'.next (.cells [] 43 false 0 0)) = some (v1, S2) := e1
          have e2' : appK 43 5 48 v1 (some (1, [.str l[i].i, .int .i64 l[i].n, .int .i64 l[i].t, .int .i64 l[i].f, .int .i64 l[i].o])) (S2.put (s'.next + 9) (.cells [.str l[i].i, .int .i64 l[i].n, .int .i64 l[i].t, .int .i64 l[i].f, .int .i64 l[i].o] 43 false 0 0)) = some (v2, S4) := e2
          simp +contextual only [go_sem, ↓reduceIte, go_drcU d10_0, g0, g3, g4, g5, hx, h5, f0, f9, sL, sH, nb, gL, gH, hb4, e1', e2', e3, h9]
          refine next _ ?_ ?_ ?_ <;> simp +contextual only [go_sem, ↓reduceIte, g0, g4]
      have after : ∀ (e : Env) (s' : St), Env.get e 0 = encS nl (shotsA l) → Env.get e 4 = .int .i64 i → Env.get e 5 = .int .i64 ((posR l[i] out : Nat) : Int) → Env.get e 3 = v → 10 ≤ s'.next → Fr s' → RowI s' 10 43 5 out.length (shotsCells out) v →
          go U (finP U [.tmp 2]) [K.bk 1, K.sq r10_i, K.lp L, K.bk 0, K.sq r10_z] r10_a e s' = some (encS true (shotsA (refColl [] l))) := by
        intro e s' g0 g4 g5 g3 hB hF row
        have hlen := row.len
        by_cases hk : posR l[i] out < out.length
        · rcases row with ⟨h0, h1, h2⟩ | ⟨h0, h1, b, h2, h3, rfl, h5⟩
          · omega
          have hgr := grab_shots out _ hk
          have heq := eql43 (out[posR l[i] out]) l[i]
          by_cases hsame : out[posR l[i] out] = l[i]
          · rw [decide_eq_true hsame] at heq
            have hri : refIns l[i] out = out := by
              rw [refIns_eq, if_pos (by rw [List.getElem?_eq_getElem hk, hsame])]
            rw [hri] at hout
            simp +contextual only [go_sem, ↓reduceIte, r10_a, r10_i, g0, g3, g4, g5, nat_lt_dec, hk, hx, hlen, h5, hgr, heq, hw]
            refine ih (i + 1) _ _ (by omega) ⟨by omega, ?_, ?_, ?_, hF.upto (by omega), out, _, hout, by omega, ?_, .inr ⟨h0, h1, b, h2, by show b < s'.next + 15; omega, rfl, by simp +contextual only [go_sem, ↓reduceIte, h5]⟩⟩
            · simp +contextual only [go_sem, ↓reduceIte, g0]
            · simp +contextual only [go_sem, ↓reduceIte]
            · show 10 ≤ s'.next + 15; omega
            · simp +contextual only [go_sem, ↓reduceIte, g3]
          · rw [decide_eq_false hsame] at heq
            have hri : refIns l[i] out = out.take (posR l[i] out) ++ [l[i]] ++ out.drop (posR l[i] out) := by
              rw [refIns_eq, if_neg (by rw [List.getElem?_eq_getElem hk, Option.some.injEq]; exact hsame)]
            rw [hri] at hout
            simp +contextual only [go_sem, ↓reduceIte, r10_a, g0, g3, g4, g5, nat_lt_dec, hk, hx, hlen, h5, hgr, heq, hw]
            refine ins _ _ hout ?_ ?_ ?_ ?_ ?_ (hF.upto (by omega)) (.inr ⟨h0, h1, b, h2, by show b < s'.next + 15; omega, rfl, by simp +contextual only [go_sem, ↓reduceIte, h5]⟩)
            · simp +contextual only [go_sem, ↓reduceIte, g0]
            · simp +contextual only [go_sem, ↓reduceIte, g4]
            · simp +contextual only [go_sem, ↓reduceIte, g5]
            · simp +contextual only [go_sem, ↓reduceIte, g3]
            · show 10 ≤ s'.next + 15; omega
        · have hri : refIns l[i] out = out.take (posR l[i] out) ++ [l[i]] ++ out.drop (posR l[i] out) := by
            rw [refIns_eq, if_neg (by rw [List.getElem?_eq_none (by omega)]; simp)]
          rw [hri] at hout
          simp +contextual only [go_sem, ↓reduceIte, r10_a, g0, g3, g4, g5, nat_lt_dec, hk, hx, hlen, hw]
          refine ins _ _ hout ?_ ?_ ?_ ?_ ?_ (hF.upto (by omega)) (row.mono (by show s'.next ≤ s'.next + 15; omega) fun j _ _ => by simp +contextual only [go_sem, ↓reduceIte])
          · simp +contextual only [go_sem, ↓reduceIte, g0]
          · simp +contextual only [go_sem, ↓reduceIte, g4]
          · simp +contextual only [go_sem, ↓reduceIte, g5]
          · simp +contextual only [go_sem, ↓reduceIte, g3]
          · show 10 ≤ s'.next + 15; omega
      -- the place
      refine loop_to (σ := Nat) (fun k => out.length - k) (fun k => some (encS true (shotsA (refColl [] l)))) (fun k e s' => k ≤ posR l[i] out ∧ Env.get e 0 = encS nl (shotsA l) ∧ Env.get e 4 = .int .i64 i ∧ Env.get e 5 = .int .i64 k ∧ Env.get e 3 = v ∧ 10 ≤ s'.next ∧ Fr s' ∧ RowI s' 10 43 5 out.length (shotsCells out) v) 0 ?_ rfl ?_
      · rintro L2 k e s' ⟨hk, g0, g4, g5, g3, hB, hF, row⟩ ih2
        have hlen := row.len
        have hple := posR_le l[i] out
        by_cases hdk : k < out.length
        · have hwk := wrap_succ hdk (by omega)
          rcases row with ⟨h0, h1, h2⟩ | ⟨h0, h1, b, h2, h3, rfl, h5⟩
          · omega
          have hgr := grab_shots out k hdk
          have hcb := c45 out[k] l[i]
          simp +contextual only [go_sem, ↓reduceIte, r10_l0, g0, g3, g4, g5, nat_lt_dec, hdk, hx, hlen, h5, hgr, hcb]
          cases hbf : before out[k] l[i] with
          | true =>
            simp +contextual only [go_sem, ↓reduceIte, hwk]
            have hk1 : k + 1 ≤ posR l[i] out := by
              rcases Nat.lt_or_ge k (posR l[i] out) with h | h
              · exact h
              · have : k = posR l[i] out := by omega
                have h6 := posR_at l[i] out out[k] (by rw [← this]; exact List.getElem?_eq_getElem hdk)
                rw [hbf] at h6; cases h6
            refine ih2 (k + 1) _ _ (by omega) ⟨hk1, ?_, ?_, ?_, ?_, ?_, ?_, ?_⟩
            · simp +contextual only [go_sem, ↓reduceIte, g0]
            · simp +contextual only [go_sem, ↓reduceIte, g4]
            · simp +contextual only [go_sem, ↓reduceIte]
            · simp +contextual only [go_sem, ↓reduceIte, g3]
            · show 10 ≤ s'.next + 15; omega
            · exact hF.upto (by omega)
            · exact .inr ⟨h0, h1, b, h2, by simp +contextual only [go_sem, ↓reduceIte]; omega, rfl, by simp +contextual only [go_sem, ↓reduceIte, h5]⟩
          | false =>
            have hke : k = posR l[i] out := by
              rcases Nat.lt_or_ge k (posR l[i] out) with h | h
              · obtain ⟨y, h6, h7⟩ := posR_lt l[i] out k h
                rw [List.getElem?_eq_getElem hdk, Option.some.injEq] at h6
                rw [← h6, hbf] at h7; cases h7
              · omega
            simp +contextual only [go_sem, ↓reduceIte]
            refine after _ _ ?_ ?_ ?_ ?_ ?_ ?_ ?_
            · simp +contextual only [go_sem, ↓reduceIte, g0]
            · simp +contextual only [go_sem, ↓reduceIte, g4]
            · rw [← hke]; simp +contextual only [go_sem, ↓reduceIte, g5]
            · simp +contextual only [go_sem, ↓reduceIte, g3]
            · show 10 ≤ s'.next + 15; omega
            · exact hF.upto (by omega)
            · exact .inr ⟨h0, h1, b, h2, by simp +contextual only [go_sem, ↓reduceIte]; omega, rfl, by simp +contextual only [go_sem, ↓reduceIte, h5]⟩
        · have hke : k = posR l[i] out := by omega
          have hkl : k = out.length := by omega
          simp +contextual only [go_sem, ↓reduceIte, r10_l0, g0, g3, g4, g5, nat_lt_dec, hdk, hx, hlen]
          refine after _ _ ?_ ?_ ?_ ?_ ?_ ?_ ?_
          · simp +contextual only [go_sem, ↓reduceIte, g0]
          · simp +contextual only [go_sem, ↓reduceIte, g4]
          · rw [← hke]; simp +contextual only [go_sem, ↓reduceIte, g5]
          · simp +contextual only [go_sem, ↓reduceIte, g3]
          · show 10 ≤ s'.next + 15; omega
          · exact hF.upto (by omega)
          · exact row.mono (by simp +contextual only [go_sem, ↓reduceIte]; omega) fun j _ _ => by simp +contextual only [go_sem, ↓reduceIte]
      · refine ⟨Nat.zero_le _, ?_, ?_, ?_, ?_, hB, hF, row⟩ <;> simp +contextual only [go_sem, ↓reduceIte, g0, g4, g3] <;> rfl
    · have : i = l.length := by omega
      subst this
      rw [List.drop_length, refColl] at hout
      have hf := row.frz_agg U (A := Shot) (enc := Shot.av) ag_43 sz_43 (by decide) shot_agg (d := 3999) fun x => frz_shot s 3997 x
      simp +contextual only [go_sem, ↓reduceIte, r10_l1, r10_z, g0, g3, g4, nat_lt_dec, Nat.lt_irrefl, lenL_encS, shotsA_len]
      rw [hf, hout]; rfl
  · refine ⟨Nat.zero_le _, ?_, ?_, by rw [own_next, U_glob]; exact Nat.le_refl _, Fr.own, [], .nils, by rw [List.drop_zero], Nat.le_refl _, ?_, RowI.nil ..⟩ <;> simp +contextual only [go_sem, ↓reduceIte] <;> rfl
/-! # The reference's missing numbers: the names -/
def strs (l : List Str) : List AV := l.map .str
theorem strs_len (l : List Str) : (strs l).length = l.length := by simp [strs]
theorem strs_get {l : List Str} {i : Nat} (h : i < l.length) : (strs l)[i]? = some (.str l[i]) := by simp [strs, h]
theorem noAgg_strs (l : List Str) : (strs l).all noAgg = true := by
  rw [List.all_eq_true]; intro x hx
  obtain ⟨b, _, rfl⟩ := List.mem_map.1 hx; rfl
def posN (x : Str) : List Str → Nat
  | [] => 0
  | y :: l => bif decide (cmpB y x < 0) then posN x l + 1 else 0
theorem posN_le (x : Str) : ∀ l, posN x l ≤ l.length
  | [] => Nat.le_refl _
  | y :: l => by
    rw [posN]
    have := posN_le x l
    cases decide (cmpB y x < 0)
    · exact Nat.zero_le _
    · rw [cond_true, List.length_cons]; omega
theorem posN_lt (x : Str) : ∀ (l : List Str) (i : Nat), i < posN x l → ∃ y, l[i]? = some y ∧ decide (cmpB y x < 0) = true
  | [], i, h => by simp [posN] at h
  | y :: l, i, h => by
    rw [posN] at h
    cases hb : decide (cmpB y x < 0)
    · rw [hb] at h; simp at h
    · rw [hb, cond_true] at h
      cases i with
      | zero => exact ⟨y, rfl, hb⟩
      | succ i => exact posN_lt x l i (by omega)
theorem posN_at (x : Str) : ∀ (l : List Str) (y : Str), l[posN x l]? = some y → decide (cmpB y x < 0) = false
  | [], y, h => by simp at h
  | z :: l, y, h => by
    rw [posN] at h
    cases hb : decide (cmpB z x < 0)
    · rw [hb] at h; simp at h; rw [← h]; exact hb
    · rw [hb, cond_true, List.getElem?_cons_succ] at h
      exact posN_at x l y h
theorem insN_eq (x : Str) : ∀ l : List Str, insN x l = if l[posN x l]? = some x then l else l.take (posN x l) ++ [x] ++ l.drop (posN x l)
  | [] => by simp [insN, posN]
  | y :: l => by
    rw [insN, posN]
    cases hb : decide (cmpB y x < 0)
    · simp only [cond_false, List.getElem?_cons_zero, Option.some.injEq, List.take_zero, List.drop_zero, List.nil_append]
      by_cases h : y = x
      · rw [show (y == x) = true by simpa using h, if_pos h]; rfl
      · rw [show (y == x) = false by simpa using h, if_neg h]; rfl
    · simp only [cond_true, List.getElem?_cons_succ, List.take_succ_cons, List.drop_succ_cons]
      rw [insN_eq x l]
      split <;> simp
theorem strs_mid (l : List Str) (k m : Nat) (h : k + m ≤ l.length) : grab (m * 1) (k * 1) (strs l) = some (strs ((l.drop k).take m)) := by
  have := grab_mid (fun x : Str => [AV.str x]) 1 (fun _ => rfl) l k m h
  have e : ∀ l : List Str, l.flatMap (fun x : Str => [AV.str x]) = strs l := fun l => by
    induction l with
    | nil => rfl
    | cons x l ih => rw [List.flatMap_cons, ih]; rfl
  rw [e, e] at this
  exact this
theorem names11 (nl : Bool) (l : List Shot) (hl : l.length ≤ 1000) {r : Option AV} (partB : ∀ (e : Env) (s : St) (v : AV), Env.get e 0 = encS nl (shotsA l) → Env.get e 3 = v → 10 ≤ s.next → Fr s → RowI s 10 9 1 (namesR [] l).length (strs (namesR [] l)) v → go U (finP U [.tmp 2]) [] r11_b e s = r) :
    go U (finP U [.tmp 2]) [] r11 (bindArgs 0 [encS nl (shotsA l)] .nil) (ownSt U) = r := by
  simp +contextual only [go_sem, ↓reduceIte, r11, lenL_encS, shotsA_len]
  refine loop_to (σ := Nat) (fun i => l.length - i) (fun i => r) (fun i e s => i ≤ l.length ∧ Env.get e 0 = encS nl (shotsA l) ∧ Env.get e 4 = .int .i64 i ∧ 10 ≤ s.next ∧ Fr s ∧ ∃ out v, namesR out (l.drop i) = namesR [] l ∧ out.length ≤ i ∧ Env.get e 3 = v ∧ RowI s 10 9 1 out.length (strs out) v) 0 ?_ rfl ?_
  · rintro L i e s ⟨hi, g0, g4, hB, hF, out, v, hout, hol, g3, row⟩ ih
    by_cases hd : i < l.length
    · have hx := ixa_shots (nl := nl) hd
      have hw := wrap_succ hd (by omega)
      rw [List.drop_eq_getElem_cons hd, namesR] at hout
      simp +contextual only [go_sem, ↓reduceIte, r11_l1, g0, g4, nat_lt_dec, hd, lenL_encS, shotsA_len]
      have hple := posN_le l[i].i out
      have ins : ∀ (e : Env) (s' : St), namesR (out.take (posN l[i].i out) ++ [l[i].i] ++ out.drop (posN l[i].i out)) (l.drop (i + 1)) = namesR [] l → Env.get e 0 = encS nl (shotsA l) → Env.get e 4 = .int .i64 i → Env.get e 5 = .int .i64 ((posN l[i].i out : Nat) : Int) → Env.get e 3 = v → 10 ≤ s'.next → Fr s' → RowI s' 10 9 1 out.length (strs out) v →
          go U (finP U [.tmp 2]) [K.bk 1, K.sq r11_i, K.lp L, K.bk 0, K.sq r11_b] (.raw q11_0) e s' = r := by
        intro e s' hout g0 g4 g5 g3 hB hF row
        have hlen := row.len
        generalize posN l[i].i out = k at *
        have f0 : s'.get s'.next = none := hF _ (Nat.le_refl _)
        have f9 : s'.get (s'.next + 10) = none := hF _ (by omega)
        let X : List AV := [.str l[i].i]
        let S1 : St := (s'.upto (s'.next + 17)).put s'.next (.cells [] 9 false 0 0)
        have hS1n : S1.next = s'.next + 17 := rfl
        have hS1 : ∀ j, j ≠ s'.next → S1.get j = s'.get j := fun j hj => by
          show ((s'.upto _).put _ _).get j = _
          rw [get_put, if_neg (fun e => hj e.symm), upto_get]
        have hF1 : Fr S1 := (hF.upto (by omega)).put (by show s'.next < s'.next + 17; omega) _
        have b1 : Bld S1 (s'.next + 17) s'.next 9 1 0 [] (.sl s'.next 0 0 (some 0) 1) := .inl ⟨rfl, rfl, rfl, by show ((s'.upto _).put _ _).get _ = _; rw [get_put, if_pos rfl], by omega⟩
        obtain ⟨v1, S2, e1, b2, hn2, hg2, hF2⟩ := b1.app (bytes := 16) (by rw [hS1n]; exact Nat.le_refl _) (m := k) (new := strs (out.take k)) (by rw [strs_len, List.length_take, Nat.min_eq_left hple, Nat.mul_one]) (noAgg_strs _) (by omega) (by omega)
        have hF2 := hF2 hF1
        let S3 : St := S2.put (s'.next + 10) (.cells X 9 false 0 0)
        have b3 : Bld S3 (s'.next + 17) s'.next 9 1 (0 + k) ([] ++ strs (out.take k)) v1 := b2.mono (by show (S2.put _ _).get _ = _; rw [get_put, if_neg (by omega)]) (Nat.le_of_eq (next_put ..).symm) fun j hj _ => by show (S2.put _ _).get _ = _; rw [get_put, if_neg (by omega)]
        have hn3 : s'.next + 17 ≤ S3.next := hn2
        have hF3 : Fr S3 := hF2.put (by omega) _
        obtain ⟨v2, S4, e2, b4, hn4, hg4, hF4⟩ := b3.app (bytes := 16) hn3 (m := 1) (new := X) rfl rfl (by omega) (by omega)
        have hF4 := hF4 hF3
        obtain ⟨v3, S5, e3, b5, hn5, hg5, hF5⟩ := b4.app (bytes := 16) hn4 (m := out.length - k) (new := strs (out.drop k)) (by rw [strs_len, List.length_drop, Nat.mul_one]) (noAgg_strs _) (by omega) (by omega)
        have hF5 := hF5 hF4
        have h9 : S2.get (s'.next + 10) = none := by rw [hg2 _ (by omega), hS1 _ (by omega)]; exact f9
        have hfin : RowI S5 10 9 1 (out.take k ++ [l[i].i] ++ out.drop k).length (strs (out.take k ++ [l[i].i] ++ out.drop k)) v3 := by
          have h6 := b5.row (by omega)
          have e6 : (out.take k ++ [l[i].i] ++ out.drop k).length = 0 + k + 1 + (out.length - k) := by
            simp only [List.length_append, List.length_take, List.length_drop, List.length_cons, List.length_nil, Nat.min_eq_left hple]; omega
          have e7 : strs (out.take k ++ [l[i].i] ++ out.drop k) = [] ++ strs (out.take k) ++ X ++ strs (out.drop k) := by
            simp only [strs, List.map_append, List.nil_append]; rfl
          rw [e6, e7]
          rcases h6 with ⟨h7, h8, h9⟩ | ⟨h7, h8, b, h10, h11, h12, h13⟩
          · omega
          · exact .inr ⟨h7, h8, b, by omega, h11, h12, h13⟩
        have next : ∀ e' : Env, Env.get e' 0 = encS nl (shotsA l) → Env.get e' 4 = .int .i64 i → Env.get e' 3 = v3 → go U (finP U [.tmp 2]) [K.lp L, K.bk 0, K.sq r11_b] r11_i e' S5 = r := by
          intro e' q0 q4 q3
          simp +contextual only [go_sem, ↓reduceIte, r11_i, q4, hw]
          refine ih (i + 1) _ _ (by omega) ⟨by omega, ?_, ?_, by omega, hF5, _, v3, hout, ?_, ?_, hfin⟩
          · simp +contextual only [go_sem, ↓reduceIte, q0]
          · simp +contextual only [go_sem, ↓reduceIte]
          · simp only [List.length_append, List.length_take, List.length_drop, List.length_cons, List.length_nil, Nat.min_eq_left hple]; omega
          · simp +contextual only [go_sem, ↓reduceIte, q3]
        rcases row with ⟨h0, rfl, h2⟩ | ⟨h0, h1, b, h2, h3, rfl, h5⟩
        · have hout0 : out = [] := List.eq_nil_of_length_eq_zero h0
          have hk0 : k = 0 := by omega
          subst hk0
          subst hout0
          have e1' : appK 9 1 16 (.sl s'.next 0 0 (some 0) 1) (some (0, [])) ((s'.upto (s'.next + 17)).put s'.next (.cells [] 9 false 0 0)) = some (v1, S2) := e1
          have e2' : appK 9 1 16 v1 (some (1, [.str l[i].i])) (S2.put (s'.next + 10) (.cells [.str l[i].i] 9 false 0 0)) = some (v2, S4) := e2
          have e3' : appK 9 1 16 v2 (some (0, [])) S4 = some (v3, S5) := e3
          simp +contextual only [go_sem, ↓reduceIte, go_drcU d11_0, g0, g3, g4, g5, hx, f0, f9, nil_lo, nil_hi, source_nils, e1', e2', e3', h9]
          refine next _ ?_ ?_ ?_ <;> simp +contextual only [go_sem, ↓reduceIte, g0, g4]
        · have sL := sl_lo (b := b) (n := out.length) (k := k) (esz := 1) (by omega) hple
          have sH := sl_hi (b := b) (n := out.length) (k := k) (esz := 1) (by omega) hple
          have hb1 : S1.get b = some (.cells (strs out) 9 false 0 0) := by rw [hS1 _ (by omega)]; exact h5
          have hb4 : S4.get b = some (.cells (strs out) 9 false 0 0) := by
            rw [hg4 _ (by omega)]
            show (S2.put _ _).get _ = _
            rw [get_put, if_neg (by omega), hg2 _ (by omega)]; exact hb1
          have gL : grab (k * 1) 0 (strs out) = some (strs (out.take k)) := by
            have := strs_mid out 0 k (by omega)
            rw [Nat.zero_mul, List.drop_zero] at this; exact this
          have gH : grab ((out.length - k) * 1) (k * 1) (strs out) = some (strs (out.drop k)) := by
            have := strs_mid out k (out.length - k) (by omega)
            rw [List.take_of_length_le (by rw [List.length_drop]; exact Nat.le_refl _)] at this; exact this
          rw [Nat.mul_one] at gL sH
          rw [Nat.mul_one, Nat.mul_one] at gH
          have nb : ¬ s'.next = b := by omega
          have e1' : appK 9 1 16 (.sl s'.next 0 0 (some 0) 1) (some (k, strs (out.take k))) ((s'.upto (s'.next + 17)).put s'.next (.cells [] 9 false 0 0)) = some (v1, S2) := e1
          have e2' : appK 9 1 16 v1 (some (1, [.str l[i].i])) (S2.put (s'.next + 10) (.cells [.str l[i].i] 9 false 0 0)) = some (v2, S4) := e2
          simp +contextual only [go_sem, ↓reduceIte, go_drcU d11_0, g0, g3, g4, g5, hx, h5, f0, f9, sL, sH, nb, Nat.mul_one, gL, gH, hb4, e1', e2', e3, h9]
          refine next _ ?_ ?_ ?_ <;> simp +contextual only [go_sem, ↓reduceIte, g0, g4]
      have after : ∀ (e : Env) (s' : St), Env.get e 0 = encS nl (shotsA l) → Env.get e 4 = .int .i64 i → Env.get e 5 = .int .i64 ((posN l[i].i out : Nat) : Int) → Env.get e 3 = v → 10 ≤ s'.next → Fr s' → RowI s' 10 9 1 out.length (strs out) v →
          go U (finP U [.tmp 2]) [K.bk 1, K.sq r11_i, K.lp L, K.bk 0, K.sq r11_b] r11_a e s' = r := by
        intro e s' g0 g4 g5 g3 hB hF row
        have hlen := row.len
        by_cases hk : posN l[i].i out < out.length
        · rcases row with ⟨h0, h1, h2⟩ | ⟨h0, h1, b, h2, h3, rfl, h5⟩
          · omega
          have hgr := strs_get hk
          have hnk : (((posN l[i].i out : Nat) : Int) == (out.length : Int)) = false := by simp; omega
          by_cases hsame : out[posN l[i].i out] = l[i].i
          · have hri : insN l[i].i out = out := by
              rw [insN_eq, if_pos (by rw [List.getElem?_eq_getElem hk, hsame])]
            rw [hri] at hout
            simp +contextual only [go_sem, ↓reduceIte, r11_a, r11_i, g0, g3, g4, g5, nat_lt_dec, hk, hx, hlen, h5, hgr, Nat.mul_one, hnk, hsame, beq_self_eq_true, Bool.not_true, hw]
            refine ih (i + 1) _ _ (by omega) ⟨by omega, ?_, ?_, ?_, hF.upto (by omega), out, _, hout, by omega, ?_, .inr ⟨h0, h1, b, h2, by show b < s'.next + 16; omega, rfl, by simp +contextual only [go_sem, ↓reduceIte, h5]⟩⟩
            · simp +contextual only [go_sem, ↓reduceIte, g0]
            · simp +contextual only [go_sem, ↓reduceIte]
            · show 10 ≤ s'.next + 16; omega
            · simp +contextual only [go_sem, ↓reduceIte, g3]
          · have hri : insN l[i].i out = out.take (posN l[i].i out) ++ [l[i].i] ++ out.drop (posN l[i].i out) := by
              rw [insN_eq, if_neg (by rw [List.getElem?_eq_getElem hk, Option.some.injEq]; exact hsame)]
            rw [hri] at hout
            have hne : (out[posN l[i].i out] == l[i].i) = false := by simpa using hsame
            simp +contextual only [go_sem, ↓reduceIte, r11_a, g0, g3, g4, g5, nat_lt_dec, hk, hx, hlen, h5, hgr, Nat.mul_one, hnk, hne, Bool.not_false, hw]
            refine ins _ _ hout ?_ ?_ ?_ ?_ ?_ (hF.upto (by omega)) (.inr ⟨h0, h1, b, h2, by show b < s'.next + 16; omega, rfl, by simp +contextual only [go_sem, ↓reduceIte, h5]⟩)
            · simp +contextual only [go_sem, ↓reduceIte, g0]
            · simp +contextual only [go_sem, ↓reduceIte, g4]
            · simp +contextual only [go_sem, ↓reduceIte, g5]
            · simp +contextual only [go_sem, ↓reduceIte, g3]
            · show 10 ≤ s'.next + 16; omega
        · have hri : insN l[i].i out = out.take (posN l[i].i out) ++ [l[i].i] ++ out.drop (posN l[i].i out) := by
            rw [insN_eq, if_neg (by rw [List.getElem?_eq_none (by omega)]; simp)]
          rw [hri] at hout
          have hnk : (((posN l[i].i out : Nat) : Int) == (out.length : Int)) = true := by simp; omega
          simp +contextual only [go_sem, ↓reduceIte, r11_a, g0, g3, g4, g5, nat_lt_dec, hk, hx, hlen, hnk, hw]
          refine ins _ _ hout ?_ ?_ ?_ ?_ ?_ (hF.upto (by omega)) (row.mono (by show s'.next ≤ s'.next + 16; omega) fun j _ _ => by simp +contextual only [go_sem, ↓reduceIte])
          · simp +contextual only [go_sem, ↓reduceIte, g0]
          · simp +contextual only [go_sem, ↓reduceIte, g4]
          · simp +contextual only [go_sem, ↓reduceIte, g5]
          · simp +contextual only [go_sem, ↓reduceIte, g3]
          · show 10 ≤ s'.next + 16; omega
      refine loop_to (σ := Nat) (fun k => out.length - k) (fun k => r) (fun k e s' => k ≤ posN l[i].i out ∧ Env.get e 0 = encS nl (shotsA l) ∧ Env.get e 4 = .int .i64 i ∧ Env.get e 5 = .int .i64 k ∧ Env.get e 3 = v ∧ 10 ≤ s'.next ∧ Fr s' ∧ RowI s' 10 9 1 out.length (strs out) v) 0 ?_ rfl ?_
      · rintro L2 k e s' ⟨hk, g0, g4, g5, g3, hB, hF, row⟩ ih2
        have hlen := row.len
        by_cases hdk : k < out.length
        · have hwk := wrap_succ hdk (by omega)
          rcases row with ⟨h0, h1, h2⟩ | ⟨h0, h1, b, h2, h3, rfl, h5⟩
          · omega
          have hgr := strs_get hdk
          have hlt := lt_dec out[k] l[i].i
          simp +contextual only [go_sem, ↓reduceIte, r11_l0, g0, g3, g4, g5, nat_lt_dec, hdk, hx, hlen, h5, hgr, Nat.mul_one, hlt]
          cases hbf : decide (cmpB out[k] l[i].i < 0) with
          | true =>
            simp +contextual only [go_sem, ↓reduceIte, hwk]
            have hk1 : k + 1 ≤ posN l[i].i out := by
              rcases Nat.lt_or_ge k (posN l[i].i out) with h | h
              · exact h
              · have : k = posN l[i].i out := by omega
                have h6 := posN_at l[i].i out out[k] (by rw [← this]; exact List.getElem?_eq_getElem hdk)
                rw [hbf] at h6; cases h6
            refine ih2 (k + 1) _ _ (by omega) ⟨hk1, ?_, ?_, ?_, ?_, ?_, ?_, ?_⟩
            · simp +contextual only [go_sem, ↓reduceIte, g0]
            · simp +contextual only [go_sem, ↓reduceIte, g4]
            · simp +contextual only [go_sem, ↓reduceIte]
            · simp +contextual only [go_sem, ↓reduceIte, g3]
            · show 10 ≤ s'.next + 16; omega
            · exact hF.upto (by omega)
            · exact .inr ⟨h0, h1, b, h2, by show b < s'.next + 16; omega, rfl, by simp +contextual only [go_sem, ↓reduceIte, h5]⟩
          | false =>
            have hke : k = posN l[i].i out := by
              rcases Nat.lt_or_ge k (posN l[i].i out) with h | h
              · obtain ⟨y, h6, h7⟩ := posN_lt l[i].i out k h
                rw [List.getElem?_eq_getElem hdk, Option.some.injEq] at h6
                rw [← h6, hbf] at h7; cases h7
              · omega
            simp +contextual only [go_sem, ↓reduceIte]
            refine after _ _ ?_ ?_ ?_ ?_ ?_ ?_ ?_
            · simp +contextual only [go_sem, ↓reduceIte, g0]
            · simp +contextual only [go_sem, ↓reduceIte, g4]
            · rw [← hke]; simp +contextual only [go_sem, ↓reduceIte, g5]
            · simp +contextual only [go_sem, ↓reduceIte, g3]
            · show 10 ≤ s'.next + 16; omega
            · exact hF.upto (by omega)
            · exact .inr ⟨h0, h1, b, h2, by show b < s'.next + 16; omega, rfl, by simp +contextual only [go_sem, ↓reduceIte, h5]⟩
        · have hke : k = posN l[i].i out := by omega
          have hkl : k = out.length := by omega
          simp +contextual only [go_sem, ↓reduceIte, r11_l0, g0, g3, g4, g5, nat_lt_dec, hdk, hx, hlen]
          refine after _ _ ?_ ?_ ?_ ?_ ?_ ?_ ?_
          · simp +contextual only [go_sem, ↓reduceIte, g0]
          · simp +contextual only [go_sem, ↓reduceIte, g4]
          · rw [← hke]; simp +contextual only [go_sem, ↓reduceIte, g5]
          · simp +contextual only [go_sem, ↓reduceIte, g3]
          · show 10 ≤ s'.next + 16; omega
          · exact hF.upto (by omega)
          · exact row.mono (by show s'.next ≤ s'.next + 16; omega) fun j _ _ => by simp +contextual only [go_sem, ↓reduceIte]
      · refine ⟨Nat.zero_le _, ?_, ?_, ?_, ?_, hB, hF, row⟩ <;> simp +contextual only [go_sem, ↓reduceIte, g0, g4, g3] <;> rfl
    · have : i = l.length := by omega
      subst this
      rw [List.drop_length, namesR] at hout
      simp +contextual only [go_sem, ↓reduceIte, r11_l1, g0, g3, g4, nat_lt_dec, Nat.lt_irrefl, lenL_encS, shotsA_len]
      rw [← hout] at partB
      refine partB _ s v ?_ ?_ hB hF row <;> simp +contextual only [go_sem, ↓reduceIte, g0, g3]
  · refine ⟨Nat.zero_le _, ?_, ?_, by rw [own_next, U_glob]; exact Nat.le_refl _, Fr.own, [], .nils, by rw [List.drop_zero], Nat.le_refl _, ?_, RowI.nil ..⟩ <;> simp +contextual only [go_sem, ↓reduceIte] <;> rfl
end Go.Am
