/- A part of the proof of a statement of this seat: the machine on which the program is read, and what it computes; for every input. -/
import Derived.Test.YtaoeblefgefgpaaGreatDoorC08
import Derived.Test.YtaoeblefgefgpaaGreatDoorC09
import Derived.Test.YtaoeblefgefgpaaGreatDoorC12
import Derived.Test.YtaoeblefgefgpaaGreatDoorC03
set_option linter.all false
set_option linter.all false
namespace Go.Am
open Go
set_option maxRecDepth 100000
set_option maxHeartbeats 8000000
/-! # BenchCollects: the small functions -/
def shotsA (l : List Shot) : List AV := l.map Shot.av
theorem shotsA_len (l : List Shot) : (shotsA l).length = l.length := by simp [shotsA]
theorem shotsA_get (l : List Shot) (i : Nat) : (shotsA l)[i]? = (l[i]?).map Shot.av := by simp [shotsA]
theorem ixa_shots {nl : Bool} {l : List Shot} {i : Nat} (h : i < l.length) : ixRA 5 (encS nl (shotsA l)) (.int .i64 (i : Int)) = some (.fp [.str l[i].i, .int .i64 l[i].n, .int .i64 l[i].t, .int .i64 l[i].f, .int .i64 l[i].o] 0) :=
  ixa_encS 5 nl (shotsA l) .i64 i l[i].av (by omega) (by rw [Int.toNat_natCast, shotsA_get, List.getElem?_eq_getElem h]; rfl) rfl (by decide)
theorem shot_cells (x : Shot) : x.av = .agg [.str x.i, .int .i64 x.n, .int .i64 x.t, .int .i64 x.f, .int .i64 x.o] := (fun h => h) rfl
theorem shot_agg (x : Shot) : ∃ c, x.av = .agg c ∧ c.length = 5 := ⟨_, rfl, rfl⟩
theorem frz_shot (s : St) (d : Nat) (x : Shot) : frz U s (d + 2) x.av = some x.av := by
  rw [shot_cells, frz_agg, mapO_self fun y hy => ?_]
  · rfl
  · simp only [List.mem_cons, List.not_mem_nil, or_false] at hy
    rcases hy with rfl | rfl | rfl | rfl | rfl <;> rfl
def misAV (x : Mis) : AV := .agg [.str x.1, .int .i64 x.2]
def missA (l : List Mis) : List AV := l.map misAV
theorem missA_len (l : List Mis) : (missA l).length = l.length := by simp [missA]
theorem missA_get (l : List Mis) (i : Nat) : (missA l)[i]? = (l[i]?).map misAV := by simp [missA]
theorem ixa_miss {nl : Bool} {l : List Mis} {i : Nat} (h : i < l.length) : ixRA 2 (encS nl (missA l)) (.int .i64 (i : Int)) = some (.fp [.str l[i].1, .int .i64 l[i].2] 0) :=
  ixa_encS 2 nl (missA l) .i64 i (misAV l[i]) (by omega) (by rw [Int.toNat_natCast, missA_get, List.getElem?_eq_getElem h]; rfl) rfl (by decide)
theorem mis_agg (x : Mis) : ∃ c, misAV x = .agg c ∧ c.length = 2 := ⟨_, rfl, rfl⟩
theorem frz_mis (s : St) (d : Nat) (x : Mis) : frz U s (d + 2) (misAV x) = some (misAV x) := by
  rw [misAV, frz_agg, mapO_self fun y hy => ?_]
  · rfl
  · simp only [List.mem_cons, List.not_mem_nil, or_false] at hy
    rcases hy with rfl | rfl <;> rfl
def missCells (l : List Mis) : List AV := l.flatMap fun x => (misAV x).cells
theorem c6 : calV U 6 [] = some (.bool true) := calV_of fun s => by
  unfold cal callF; rw [U_ext]; rfl
theorem c44 (n a b : Int) : calV U 44 [.int .i64 n, .int .i64 a, .int .i64 b] = some (.bool (!inB n a b)) := by
  refine pure_go k44 (by kernel_rfl) rfl ?_
  have e : (decide (n < a) || decide (n > b)) = !inB n a b := by
    unfold inB
    rw [Bool.eq_iff_iff]; simp
  simp +contextual only [go_sem, ↓reduceIte, r44]
  rw [e]
theorem lt_dec (x y : Str) : bytesLt x y = decide (cmpB x y < 0) := by
  rw [← O.lt_cmpB]
  cases bytesLt x y
  · cases (x == y) <;> rfl
  · rfl
theorem bef_eq (x y : Shot) : br (x.t != y.t) (decide (x.t < y.t)) (br (!x.i == y.i) (bytesLt x.i y.i) (decide (x.n < y.n))) = before x y := by
  unfold before
  have e1 : cmpT x y = orI (cmpI x.t y.t) (orI (cmpB x.i y.i) (cmpI x.n y.n)) := rfl
  have hI : ∀ a b : Int, decide (cmpI a b < 0) = decide (a < b) := fun a b => by
    unfold cmpI
    by_cases h : a < b
    · rw [decide_eq_true h]; rfl
    · rw [decide_eq_false h, cond_false]
      by_cases h' : b < a
      · rw [decide_eq_true h']; rfl
      · rw [decide_eq_false h']; rfl
  rw [e1, lt_dec]
  by_cases ht : x.t = y.t
  · rw [show (x.t != y.t) = false by simp [ht], show cmpI x.t y.t = 0 from cmpI_zero.2 ht]
    by_cases hi : x.i = y.i
    · rw [show (!x.i == y.i) = false by simp [hi], show cmpB x.i y.i = 0 from cmpB_zero.2 hi]
      exact (hI _ _).symm
    · have h0 : cmpB x.i y.i ≠ 0 := fun h => hi (cmpB_zero.1 h)
      rw [show (!x.i == y.i) = true by simp [hi]]
      show decide (cmpB x.i y.i < 0) = decide (orI 0 (orI (cmpB x.i y.i) (cmpI x.n y.n)) < 0)
      rw [show orI 0 (orI (cmpB x.i y.i) (cmpI x.n y.n)) = orI (cmpB x.i y.i) (cmpI x.n y.n) from rfl]
      unfold orI
      rw [show (cmpB x.i y.i == 0) = false by simpa using h0]; rfl
  · have h0 : cmpI x.t y.t ≠ 0 := fun h => ht (cmpI_zero.1 h)
    rw [show (x.t != y.t) = true by simp [ht]]
    unfold orI
    rw [show (cmpI x.t y.t == 0) = false by simpa using h0]
    exact (hI _ _).symm
theorem c45 (x y : Shot) : calV U 45 [.agg [.str x.i, .int .i64 x.n, .int .i64 x.t, .int .i64 x.f, .int .i64 x.o], .agg [.str y.i, .int .i64 y.n, .int .i64 y.t, .int .i64 y.f, .int .i64 y.o]] = some (.bool (before x y)) := by
  refine pure_go k45 (by kernel_rfl) rfl ?_
  simp +contextual only [go_sem, ↓reduceIte, r45]
  rw [bef_eq]
/-! ### Rows of shots handed over -/
theorem c4 (nl : Bool) (l : List Shot) (hl : l.length * 48 ≤ 2 ^ 47) : calV U 4 [encS nl (shotsA l)] = some (encS true (shotsA l)) := by
  refine pure_go k4 (by kernel_rfl) (by simp [stills, still_encS]) ?_
  simp +contextual only [go_sem, ↓reduceIte, r4, lenL_encS, shotsA_len]
  refine loop_to (σ := Nat) (fun i => l.length - i) (fun i => some (encS true (shotsA l))) (fun i e s => i ≤ l.length ∧ Env.get e 6 = encS nl (shotsA l) ∧ Env.get e 7 = .int .i64 l.length ∧ Env.get e 8 = .int .i64 i ∧ 10 ≤ s.next ∧ Fr s ∧ ∃ v, Env.get e 3 = v ∧ RowI s 10 43 5 i (shotsCells (l.take i)) v) 0 ?_ rfl ?_
  · rintro L i e s ⟨hi, g6, g7, g8, hB, hF, v, g3, row⟩ ih
    by_cases hd : i < l.length
    · have hx := ixa_shots (nl := nl) hd
      have hw := wrap_succ hd (by omega)
      let X : List AV := [.str l[i].i, .int .i64 l[i].n, .int .i64 l[i].t, .int .i64 l[i].f, .int .i64 l[i].o]
      let s1 : St := ((s.new (.cells [.str [], .int .i64 0, .int .i64 0, .int .i64 0, .int .i64 0] 42 false 0 0)).put s.next (.cells X 42 false 0 0)).new (.cells X 43 false 0 0)
      have hn1 : s1.next = s.next + 1 + 1 := rfl
      have hold : ∀ j, j < s.next → s1.get j = s.get j := fun j hj => by
        show (((s.new _).put s.next _).new _).get j = _
        rw [get_new, next_put, next_new, if_neg (by omega), get_put, if_neg (by omega), get_new, if_neg (by omega)]
      have hfr : Fr s1 := Fr.new (Fr.put (hF.new _) (by rw [next_new]; omega) _) _
      have row1 : RowI s1 10 43 5 i (shotsCells (l.take i)) v := row.mono (by rw [hn1]; omega) fun j _ hj => hold j hj
      obtain ⟨s2, ha, hn2, row2, hold2, hfr2⟩ := row1.app (by rw [hn1]; omega) (m := 1) (new := X) (by omega) rfl rfl
      have hla : lenA v = i := row.lenA
      have hk : appK 43 5 48 v (some (1, X)) s1 = some (.sl s1.next 0 (i + 1) none 5, s2) := by
        rw [appK_some rfl (by rw [hla]; omega) (by rw [hla]; omega) (by omega)]; exact ha
      simp +contextual only [go_sem, ↓reduceIte, r4_l0, g3, g6, g7, g8, nat_lt_dec, hd, hx]
      rw [hk]
      simp +contextual only [go_sem, ↓reduceIte, g8, hw]
      refine ih (i + 1) _ _ (by omega) ⟨by omega, ?_, ?_, ?_, by rw [hn2, hn1]; omega, hfr2 hfr, _, rfl, ?_⟩
      · simp +contextual only [go_sem, ↓reduceIte, g6]
      · simp +contextual only [go_sem, ↓reduceIte, g7]
      · simp +contextual only [go_sem, ↓reduceIte]
      · simp +contextual only [go_sem, ↓reduceIte]
        rw [List.take_succ_eq_append_getElem hd, shotsCells, List.flatMap_append]
        exact row2
    · have : i = l.length := by omega
      subst this
      rw [List.take_length] at row
      have hf := row.frz_agg U (A := Shot) (enc := Shot.av) ag_43 sz_43 (by decide) shot_agg (d := 3999) fun x => frz_shot s 3997 x
      simp +contextual only [go_sem, ↓reduceIte, r4_l0, g3, g6, g7, g8, nat_lt_dec, Nat.lt_irrefl]
      rw [hf]; rfl
  · refine ⟨Nat.zero_le _, ?_, ?_, ?_, by rw [own_next, U_glob]; exact Nat.le_refl _, Fr.own, .nils, ?_, RowI.nil ..⟩ <;> simp +contextual only [go_sem, ↓reduceIte] <;> rfl
def shI (x : Shot) : Bool := !decide ((x.i.length : Int) > 60)
def manyB (l : List Shot) : Bool := decide ((l.length : Int) > 24) && decide ((l.length : Int) ≤ 1000) || decide ((l.length : Int) > 1003)
def shortB (l : List Shot) : Bool := !manyB l && l.all shI
theorem c5 (nl : Bool) (l : List Shot) : calV U 5 [encS nl (shotsA l), .int .i64 24] = some (.bool (shortB l)) := by
  refine pure_go k5 (by kernel_rfl) (by simp [stills, still_encS, still]) ?_
  simp +contextual only [go_sem, ↓reduceIte, r5, lenL_encS, shotsA_len]
  unfold shortB
  cases hm : manyB l with
  | true =>
    unfold manyB at hm
    rw [hm]; rfl
  | false =>
    have hlen : l.length ≤ 1003 := by
      unfold manyB at hm
      simp at hm; omega
    unfold manyB at hm
    rw [hm]
    refine loop_to (σ := Nat) (fun i => l.length - i) (fun i => some (AV.bool ((l.drop i).all shI))) (fun i e s => i ≤ l.length ∧ Env.get e 0 = encS nl (shotsA l) ∧ Env.get e 5 = .int .i64 i) 0 ?_ (by rw [List.drop_zero]; rfl) ?_
    · rintro L i e s ⟨hi, g0, g5⟩ ih
      by_cases hd : i < l.length
      · have hx := ixa_shots (nl := nl) hd
        have hw := wrap_succ hd (by omega)
        simp +contextual only [go_sem, ↓reduceIte, r5_l0, g0, g5, nat_lt_dec, hd, hx, lenL_encS, shotsA_len]
        rw [List.drop_eq_getElem_cons hd, List.all_cons]
        cases hb : decide ((l[i].i.length : Int) > 60) with
        | true =>
          rw [show shI l[i] = false by unfold shI; rw [hb]; rfl]; rfl
        | false =>
          rw [show shI l[i] = true by unfold shI; rw [hb]; rfl, Bool.true_and]
          simp +contextual only [go_sem, ↓reduceIte, g5, hw]
          refine ih (i + 1) _ _ (by omega) ⟨by omega, ?_, ?_⟩ <;> simp +contextual only [go_sem, ↓reduceIte, g0, g5, hw]
      · have : i = l.length := by omega
        subst this
        simp +contextual only [go_sem, ↓reduceIte, r5_l0, g0, g5, nat_lt_dec, Nat.lt_irrefl, lenL_encS, shotsA_len]
        rw [List.drop_length]; rfl
    · refine ⟨Nat.zero_le _, ?_, ?_⟩ <;> simp +contextual only [go_sem, ↓reduceIte] <;> rfl
/-! ### Names, as the reference reads them -/
theorem ref_later (c : UInt8) (i : Nat) : (!(decide ((c.toNat : Int) ≥ 97) && decide ((c.toNat : Int) ≤ 122) || decide ((c.toNat : Int) ≥ 65) && decide ((c.toNat : Int) ≤ 90)) && ((i : Int) == 0 || !(decide ((c.toNat : Int) ≥ 48) && decide ((c.toNat : Int) ≤ 57) || (c.toNat : Int) == 95))) = !(letterB c || i != 0 && laterB c) := by
  have h1 := K.letterI_lo c
  unfold K.letterI at h1
  rw [h1]
  have h2 : (decide ((c.toNat : Int) ≥ 48) && decide ((c.toNat : Int) ≤ 57) || (c.toNat : Int) == 95) = (c == 95 || (Nat.ble 48 c.toNat && Nat.ble c.toNat 57)) := by
    have e1 : (c == 95) = decide (c.toNat = 95) := by
      rw [Bool.eq_iff_iff, beq_iff_eq, decide_eq_true_eq, ← UInt8.toNat_inj]; rfl
    have e2 : Nat.ble 48 c.toNat = decide (48 ≤ c.toNat) := by rw [Bool.eq_iff_iff, decide_eq_true_eq, Nat.ble_eq]
    have e3 : Nat.ble c.toNat 57 = decide (c.toNat ≤ 57) := by rw [Bool.eq_iff_iff, decide_eq_true_eq, Nat.ble_eq]
    rw [e1, e2, e3, Bool.eq_iff_iff]
    simp
    omega
  rw [h2]
  have h3 : ((i : Int) == 0) = !(i != 0) := by
    rw [bne, Bool.not_not, Bool.eq_iff_iff]; simp
  rw [h3]
  have h4 : laterB c = (letterB c || (c == 95 || (Nat.ble 48 c.toNat && Nat.ble c.toNat 57))) := by unfold laterB; rw [Bool.or_assoc]
  rw [h4]
  generalize (c == 95 || (Nat.ble 48 c.toNat && Nat.ble c.toNat 57)) = q
  generalize letterB c = p
  generalize (i != 0) = r
  cases p <;> cases q <;> cases r <;> rfl
theorem c43 (s : Str) (hs : s.length < 2 ^ 40) : calV U 43 [.str s] = some (.bool (nameB s)) := by
  refine pure_go k43 (by kernel_rfl) rfl ?_
  simp +contextual only [go_sem, ↓reduceIte, r43]
  rw [K.nameB_eq]
  by_cases h1 : s.length < 1
  · rw [show (decide ((s.length : Int) < 1) || decide ((s.length : Int) > 24)) = true by simp; omega]
    have : s = [] := List.eq_nil_of_length_eq_zero (by omega)
    subst this
    rfl
  by_cases h2 : 24 < s.length
  · rw [show (decide ((s.length : Int) < 1) || decide ((s.length : Int) > 24)) = true by simp; omega, show Nat.ble s.length 24 = false by rw [Bool.eq_false_iff, ne_eq, Nat.ble_eq]; omega, Bool.and_false, Bool.and_false]
    rfl
  rw [show (decide ((s.length : Int) < 1) || decide ((s.length : Int) > 24)) = false by simp; omega, show Nat.ble s.length 24 = true by rw [Nat.ble_eq]; omega, show s.isEmpty = false by cases s with | nil => simp at h1 | cons a b => rfl, Bool.not_false, Bool.and_true, Bool.and_true]
  refine loop_to (σ := Nat) (fun i => s.length - i) (fun i => some (AV.bool (K.nmR i (s.drop i)))) (fun i e st => i ≤ s.length ∧ Env.get e 0 = .str s ∧ Env.get e 3 = .int .i64 i) 0 ?_ (by rw [List.drop_zero]) ?_
  · rintro L i e st ⟨hi, g0, g3⟩ ih
    by_cases hd : i < s.length
    · have hw := wrap_succ hd (by omega)
      have hs22 : ixRS (.str s) (.int .i64 (i : Int)) = some (.int .u8 (s[i].toNat : Nat)) := by
        rw [ixs_str, if_pos (by omega), Int.toNat_natCast, List.getElem?_eq_getElem hd]; rfl
      simp +contextual only [go_sem, ↓reduceIte, r43_l0, g0, g3, nat_lt_dec, hd, List.getElem?_eq_getElem hd, Option.map_some]
      rw [List.drop_eq_getElem_cons hd, K.nmR, ref_later]
      cases hb : (letterB s[i] || i != 0 && laterB s[i]) with
      | false => rfl
      | true =>
        rw [Bool.true_and]
        simp +contextual only [go_sem, ↓reduceIte, hw]
        refine ih (i + 1) _ _ (by omega) ⟨by omega, ?_, ?_⟩ <;> simp +contextual only [go_sem, ↓reduceIte, g0, hw]
    · have : i = s.length := by omega
      subst this
      simp +contextual only [go_sem, ↓reduceIte, r43_l0, g0, g3, nat_lt_dec, Nat.lt_irrefl]
      rw [List.drop_length]; rfl
  · refine ⟨Nat.zero_le _, ?_, ?_⟩ <;> simp +contextual only [go_sem, ↓reduceIte] <;> rfl
end Go.Am
set_option linter.all false
namespace Go.Am.K
open Go Go.Am
set_option maxRecDepth 100000
set_option maxHeartbeats 8000000

/-! # collect: its code, in pieces -/
noncomputable def r37_l0 : RC := (.seq (.ops [⟨some 22, none, none, false, .bin .lss 3 false (.t 21) (.t 20)⟩]) (.seq (.cond (.t 22) .skip (.exit 0)) (.seq (.block 1 (.seq (.ops [⟨some 23, none, none, false, .ixa 5 (.t 19) (.t 21)⟩,
  ⟨some 24, none, none, false, .ldn 5 (.t 23)⟩,
  ⟨some 5, none, none, false, .al [(.str []), (.int .i64 0), (.int .i64 0), (.int .i64 0), (.int .i64 0)] 42⟩,
  ⟨none, none, none, false, .st 5 (.t 5) (.t 24)⟩]) (.seq (.ops [⟨some 25, none, none, false, .ldn 5 (.t 5)⟩,
  ⟨some 26, none, none, false, .call 92 [(.t 25)]⟩,
  ⟨some 6, none, none, false, .mov (.t 26)⟩]) (.seq (.ops [⟨some 27, none, none, false, .mov (.t 6)⟩,
  ⟨some 28, none, none, false, .bin .neq 27 true (.t 27) (.v (.int .i64 0))⟩]) (.cond (.t 28) (.seq (.ops [⟨some 29, none, none, false, .mov (.t 6)⟩,
  ⟨some 2, none, none, false, .mov (.v .nils)⟩,
  ⟨some 3, none, none, false, .mov (.t 29)⟩]) .ret) .skip))))) (.ops [⟨some 30, none, none, false, .bin .add 3 true (.t 21) (.v (.int .i64 1))⟩,
  ⟨some 21, none, none, false, .mov (.t 30)⟩]))))
noncomputable def r37_l1 : RC := (.seq (.ops [⟨some 35, none, none, false, .bin .lss 3 false (.t 34) (.t 33)⟩]) (.seq (.cond (.t 35) .skip (.exit 2)) (.seq (.block 3 (.seq (.ops [⟨some 36, none, none, false, .ixa 5 (.t 32) (.t 34)⟩,
  ⟨some 37, none, none, false, .ldn 5 (.t 36)⟩,
  ⟨some 9, none, none, false, .al [(.str []), (.int .i64 0), (.int .i64 0), (.int .i64 0), (.int .i64 0)] 42⟩,
  ⟨none, none, none, false, .st 5 (.t 9) (.t 37)⟩]) (.seq (.ops [⟨some 38, none, none, false, .fa 0 (.t 9)⟩,
  ⟨some 39, none, none, false, .ld1 (.t 38)⟩,
  ⟨some 40, none, none, false, .fa 1 (.t 9)⟩,
  ⟨some 41, none, none, false, .ld1 (.t 40)⟩,
  ⟨some 42, none, none, false, .bld [(.str []), (.int .i64 0)] [(0, 1, (.t 39)), (1, 1, (.t 41))]⟩,
  ⟨some 10, none, none, false, .al [(.str []), (.int .i64 0)] 193⟩,
  ⟨none, none, none, false, .st 2 (.t 10) (.t 42)⟩]) (.seq (.seq (.ops [⟨some 44, none, none, false, .mov (.t 7)⟩,
  ⟨some 45, none, none, false, .ldn 2 (.t 10)⟩,
  ⟨some 46, none, none, false, .raw (.lookup 191 (.tmp 44) (.tmp 45) true)⟩,
  ⟨some 43, none, none, false, .mov (.t 46)⟩,
  ⟨some 47, none, none, false, .ext (.t 43) 0⟩,
  ⟨some 48, none, none, false, .ext (.t 43) 1⟩,
  ⟨some 11, none, none, false, .al [(.str []), (.int .i64 0), (.int .i64 0), (.int .i64 0), (.int .i64 0)] 42⟩,
  ⟨none, none, none, false, .st 5 (.t 11) (.t 47)⟩,
  ⟨some 12, none, none, false, .mov (.t 48)⟩]) (.seq (.ops [⟨some 49, none, none, false, .mov (.t 12)⟩,
  ⟨some 50, none, none, false, .mov (.t 49)⟩,
  ⟨some 51, some (50, true), none, false, .ldn 5 (.t 11)⟩,
  ⟨some 52, some (50, true), none, false, .ldn 5 (.t 9)⟩,
  ⟨some 53, some (50, true), none, false, .bin .neq 42 false (.t 51) (.t 52)⟩,
  ⟨some 54, none, none, false, .pick (.t 50) (.t 53) (.v (.bool false))⟩]) (.cond (.t 54) (.seq (.ops [⟨some 2, none, none, false, .mov (.v .nils)⟩,
  ⟨some 3, none, none, false, .mov (.v (.int .i64 29))⟩]) .ret) .skip))) (.ops [⟨some 55, none, none, false, .mov (.t 7)⟩,
  ⟨some 56, none, none, false, .ldn 2 (.t 10)⟩,
  ⟨some 57, none, none, false, .ldn 5 (.t 9)⟩,
  ⟨none, none, none, false, .raw (.mapUpdate 191 (.tmp 55) (.tmp 56) (.tmp 57))⟩]))))) (.ops [⟨some 58, none, none, false, .bin .add 3 true (.t 34) (.v (.int .i64 1))⟩,
  ⟨some 34, none, none, false, .mov (.t 58)⟩]))))
noncomputable def r37p : RC := (.seq (.ops [⟨some 2, none, none, false, .mov (.v .nils)⟩, ⟨some 3, none, none, false, .mov (.v (.int .i64 0))⟩]) (.seq (.seq (.ops [⟨some 16, none, none, false, .mov (.t 0)⟩, ⟨some 17, none, none, false, .lenL (.t 16)⟩, ⟨some 18, none, none, false, .bin .gtr 3 true (.t 17) (.v (.int .i64 1000))⟩]) (.cond (.t 18) (.seq (.ops [⟨some 2, none, none, false, .mov (.v .nils)⟩, ⟨some 3, none, none, false, .mov (.v (.int .i64 5))⟩]) .ret) .skip)) (.seq (.seq (.ops [⟨some 19, none, none, false, .mov (.t 0)⟩, ⟨some 20, none, none, false, .lenL (.t 19)⟩, ⟨some 21, none, none, false, .mov (.v (.int .i64 0))⟩]) (.block 0 (.loop r37_l0))) (.seq (.ops [⟨some 31, none, none, false, .raw (.makeMap 191 none)⟩, ⟨some 7, none, none, false, .mov (.t 31)⟩]) (.seq (.seq (.ops [⟨some 32, none, none, false, .mov (.t 0)⟩, ⟨some 33, none, none, false, .lenL (.t 32)⟩, ⟨some 34, none, none, false, .mov (.v (.int .i64 0))⟩]) (.block 2 (.loop r37_l1))) (.seq (.ops [⟨some 13, none, none, false, .mov (.v .nils)⟩]) .skip))))))

noncomputable def c37 : Code := match U.fn 37 with
  | some fn => match fn.body with
    | some c => c
    | none => .skip
  | none => .skip
def takeC : Nat → Code → Code
  | 0, _ => .skip
  | k + 1, .seq a b => .seq a (takeC k b)
  | _, c => c
def restC : Nat → Code → Code
  | 0, c => c
  | k + 1, .seq _ b => restC k b
  | _, c => c
def seqL : Code → Code
  | .seq a _ => a
  | c => c
def seqR : Code → Code
  | .seq _ b => b
  | c => c
def inC : Code → Code
  | .block _ b => b
  | .loop b => b
  | c => c
noncomputable def cReg : Code := seqL (seqL (restC 6 c37))
noncomputable def cL : Code := inC (inC (seqR (seqL (restC 6 c37))))
noncomputable def cBody : Code := inC (seqR (seqR cL))
noncomputable def cNext : Code := seqL cL
noncomputable def cTail : Code := restC 7 c37
noncomputable def rReg : RC := .ops [⟨some 59, none, none, false, .mov (.t 7)⟩, ⟨some 60, none, none, false, .raw (.range 191 (.tmp 59))⟩]
noncomputable def rBody : RC := .seq (.ops [⟨some 63, none, none, false, .raw (.entry (.tmp 60))⟩,
  ⟨some 64, none, none, false, .ext (.t 63) 1⟩,
  ⟨some 15, none, none, false, .al [(.str []), (.int .i64 0), (.int .i64 0), (.int .i64 0), (.int .i64 0)] 42⟩,
  ⟨none, none, none, false, .st 5 (.t 15) (.t 64)⟩]) (.ops [⟨some 65, none, none, false, .mov (.t 13)⟩,
  ⟨some 66, none, none, false, .ldn 5 (.t 15)⟩,
  ⟨some 67, none, none, false, .bsl 42 5 1 [(.str []), (.int .i64 0), (.int .i64 0), (.int .i64 0), (.int .i64 0)] [(0, 5, (.t 66))]⟩,
  ⟨some 68, none, none, false, .app 42 5 48 (.t 65) (.t 67)⟩,
  ⟨some 13, none, none, false, .mov (.t 68)⟩])
noncomputable def rTail : RC := .seq (.ops [⟨some 69, none, none, false, .mov (.t 13)⟩,
  ⟨some 70, none, none, false, .call 38 [(.t 69), (.v (.fn (.func 93) [] []))]⟩]) (.seq (.ops [⟨some 71, none, none, false, .mov (.t 13)⟩,
  ⟨some 2, none, none, false, .mov (.t 71)⟩,
  ⟨some 3, none, none, false, .mov (.v (.int .i64 0))⟩]) .ret)
theorem k_pre : rc U (takeC 6 c37) = r37p := by kernel_rfl
theorem k_reg : rc U cReg = rReg := by kernel_rfl
theorem k_body : rc U cBody = rBody := by kernel_rfl
theorem k_tail : rc U cTail = rTail := by kernel_rfl
theorem k_rest : restC 6 c37 = .seq (.seq cReg (.block 4 (.loop cL))) cTail := by kernel_rfl
theorem k_L : cL = .seq cNext (.seq (.cond (.tmp 62) .skip (.exit 4)) (.block 5 cBody)) := by kernel_rfl
end Go.Am.K
