/- A part of the proof of a statement of this seat: the machine on which the program is read, and what it computes; for every input. -/
import Derived.Test.YtaoeblefgefgpaaGreatDoorC13
set_option linter.all false
set_option linter.all false
namespace Go.Am.K
open Go Go.Am
set_option maxRecDepth 100000
set_option maxHeartbeats 8000000

/-! # collect: the map of the shots that were found -/
def keyA (x : Shot) : AV := .agg [.str x.i, .int .i64 x.n]
def ent (x : Shot) : AV × AV := (keyA x, x.av)
def sameK (x y : Shot) : Bool := x.i == y.i && x.n == y.n
theorem keyEq_of (x y : Shot) : keyEq (keyA x) (keyA y) = some (sameK x y) := by
  show some (x.i == y.i && (x.n == y.n && true)) = _
  rw [Bool.and_true]; rfl
theorem findA_ent (x : Shot) : ∀ l : List Shot, findA (keyA x) (l.map ent) = some ((l.find? fun y => y.i == x.i && y.n == x.n).map Shot.av)
  | [] => rfl
  | y :: l => by
    rw [List.map_cons, ent, findA, keyEq_of]
    have e : sameK x y = (y.i == x.i && y.n == x.n) := by
      unfold sameK; rw [Bool.beq_comm (a := x.i), Bool.beq_comm (a := x.n)]
    rw [List.find?_cons, ← e]
    cases sameK x y
    · exact findA_ent x l
    · rfl
theorem putA_new (x : Shot) : ∀ l : List Shot, (l.find? fun y => y.i == x.i && y.n == x.n) = none → putA (keyA x) x.av (l.map ent) = some ((l ++ [x]).map ent)
  | [], _ => rfl
  | y :: l, h => by
    have e : sameK x y = (y.i == x.i && y.n == x.n) := by
      unfold sameK; rw [Bool.beq_comm (a := x.i), Bool.beq_comm (a := x.n)]
    rw [List.find?_cons] at h
    cases hk : (y.i == x.i && y.n == x.n) with
    | true => rw [hk] at h; cases h
    | false =>
      rw [hk] at h
      rw [List.map_cons, ent, putA, keyEq_of, e, hk]
      simp only [putA_new x l h]
      rfl
theorem putA_old (x : Shot) : ∀ l : List Shot, (l.find? fun y => y.i == x.i && y.n == x.n) = some x → putA (keyA x) x.av (l.map ent) = some (l.map ent)
  | [], h => by cases h
  | y :: l, h => by
    have e : sameK x y = (y.i == x.i && y.n == x.n) := by
      unfold sameK; rw [Bool.beq_comm (a := x.i), Bool.beq_comm (a := x.n)]
    rw [List.find?_cons] at h
    rw [List.map_cons, ent, putA, keyEq_of, e]
    cases hk : (y.i == x.i && y.n == x.n) with
    | true =>
      rw [hk] at h
      cases h
      rfl
    | false =>
      rw [hk] at h
      simp only [putA_old x l h]
def miF (n : Nat) : MI := ⟨false, List.range n, n⟩
theorem miF_grow (n : Nat) : (miF n).grow n (n + 1) = miF (n + 1) := by
  unfold MI.grow miF
  rw [if_pos (by omega), List.range_succ]
theorem miF_same (n : Nat) : (miF n).grow n n = miF n := by
  unfold MI.grow miF
  rw [if_neg (by omega)]
/-- the map of the shots -/
def mapB (l : List Shot) : Blk := .map (l.map ent) (miF l.length)
theorem und_191 : U.und 191 = some (.map 193 42) := by kernel_rfl
theorem key_ok (a : Str) (n : Int) : keyOk U 193 (.agg [.str a, .int .i64 n]) = true := by kernel_rfl
theorem zero_42 : zero U 42 = some (.agg [.str [], .int .i64 0, .int .i64 0, .int .i64 0, .int .i64 0]) := by kernel_rfl
def zShot : Shot := ⟨[], 0, 0, 0, 0⟩
theorem lookup_shots {M : Nat} {s : St} {l : List Shot} (x : Shot) (h : s.get M = some (mapB l)) :
    lookupA U 191 (.map M) (keyA x) true s = some (match l.find? fun y => y.i == x.i && y.n == x.n with | some y => .tup [y.av, .bool true] | none => .tup [zShot.av, .bool false]) := by
  unfold lookupA
  rw [und_191]
  simp only [keyA, key_ok, if_true, h, mapB]
  have := findA_ent x l
  rw [keyA] at this
  rw [this]
  cases l.find? fun y => y.i == x.i && y.n == x.n with
  | some y => rfl
  | none => simp only [Option.map_none, zero_42]; rfl
theorem update_shots {M : Nat} {s : St} {l l' : List Shot} (x : Shot) (h : s.get M = some (mapB l)) (hp : putA (keyA x) x.av (l.map ent) = some (l'.map ent)) (hm : (miF l.length).grow l.length l'.length = miF l'.length) :
    updateA U 191 (.map M) (keyA x) x.av s = some (s.put M (mapB l')) := by
  unfold updateA
  rw [und_191]
  simp only [keyA, key_ok, if_true, h, mapB]
  rw [keyA] at hp
  rw [hp]
  simp only [miF, Bool.false_eq_true, if_false]
  have hm' : MI.grow ⟨false, List.range l.length, l.length⟩ l.length l'.length = ⟨false, List.range l'.length, l'.length⟩ := hm
  simp only [List.length_map, hm']
def nestO (b : Bool) (r : Option Bool) : Option Bool := match some b with
  | some true => r
  | some false => some false
  | none => none
def negO (r : Option Bool) : Option AV := match r with
  | some b => some (.bool !b)
  | none => none
theorem nestO_some (b r : Bool) : nestO b (some r) = some (b && r) := by cases b <;> rfl
theorem neq42r (y x : Shot) : binA U .neq 42 false (.agg [.str y.i, .int .i64 y.n, .int .i64 y.t, .int .i64 y.f, .int .i64 y.o]) (.agg [.str x.i, .int .i64 x.n, .int .i64 x.t, .int .i64 x.f, .int .i64 x.o]) = negO (nestO (y.i == x.i) (nestO (y.n == x.n) (nestO (y.t == x.t) (nestO (y.f == x.f) (nestO (y.o == x.o) (some true)))))) := by kernel_rfl
theorem shot_eq (y x : Shot) : decide (y = x) = (y.i == x.i && (y.n == x.n && (y.t == x.t && (y.f == x.f && (y.o == x.o && true))))) := by
  obtain ⟨i, n, t, f, o⟩ := y
  obtain ⟨i', n', t', f', o'⟩ := x
  rw [Bool.eq_iff_iff, decide_eq_true_eq]
  simp
theorem neq42 (y x : Shot) : binA U .neq 42 false (.agg [.str y.i, .int .i64 y.n, .int .i64 y.t, .int .i64 y.f, .int .i64 y.o]) (.agg [.str x.i, .int .i64 x.n, .int .i64 x.t, .int .i64 x.f, .int .i64 x.o]) = some (.bool (!decide (y = x))) := by
  rw [neq42r, nestO_some, nestO_some, nestO_some, nestO_some, nestO_some, shot_eq]; rfl
/-! ### Each shot once -/
theorem foundL_app : ∀ (a b acc : List Shot), foundL acc (a ++ b) = (foundL acc a).bind fun r => foundL r b
  | [], b, acc => rfl
  | x :: a, b, acc => by
    rw [List.cons_append, foundL, foundL]
    cases acc.find? fun y => y.i == x.i && y.n == x.n with
    | some y =>
      simp only
      cases decide (y = x)
      · rfl
      · exact foundL_app a b acc
    | none => exact foundL_app a b _
theorem badL_app : ∀ a b : List Shot, badL (a ++ b) = bif badL a == 0 then badL b else badL a
  | [], b => rfl
  | x :: a, b => by
    rw [List.cons_append, badL, badL, badL_app a b]
    cases hx : badS x == 0
    · simp only [cond_false, hx]
    · simp only [cond_true]
end Go.Am.K
set_option linter.all false
namespace Go.Am
open Go
set_option maxRecDepth 100000
set_option maxHeartbeats 8000000
/-! # BenchCollects: rows held against each other -/
theorem neq43r (y x : Shot) : binA U .neq 43 false (.agg [.str y.i, .int .i64 y.n, .int .i64 y.t, .int .i64 y.f, .int .i64 y.o]) (.agg [.str x.i, .int .i64 x.n, .int .i64 x.t, .int .i64 x.f, .int .i64 x.o]) = K.negO (K.nestO (y.i == x.i) (K.nestO (y.n == x.n) (K.nestO (y.t == x.t) (K.nestO (y.f == x.f) (K.nestO (y.o == x.o) (some true)))))) := by kernel_rfl
theorem neq43 (y x : Shot) : binA U .neq 43 false (.agg [.str y.i, .int .i64 y.n, .int .i64 y.t, .int .i64 y.f, .int .i64 y.o]) (.agg [.str x.i, .int .i64 x.n, .int .i64 x.t, .int .i64 x.f, .int .i64 x.o]) = some (.bool (!decide (y = x))) := by
  rw [neq43r, K.nestO_some, K.nestO_some, K.nestO_some, K.nestO_some, K.nestO_some, K.shot_eq]; rfl
def posO (r : Option Bool) : Option AV := match r with
  | some b => some (.bool b)
  | none => none
theorem eql43r (y x : Shot) : binA U .eql 43 false (.agg [.str y.i, .int .i64 y.n, .int .i64 y.t, .int .i64 y.f, .int .i64 y.o]) (.agg [.str x.i, .int .i64 x.n, .int .i64 x.t, .int .i64 x.f, .int .i64 x.o]) = posO (K.nestO (y.i == x.i) (K.nestO (y.n == x.n) (K.nestO (y.t == x.t) (K.nestO (y.f == x.f) (K.nestO (y.o == x.o) (some true)))))) := by kernel_rfl
theorem eql43 (y x : Shot) : binA U .eql 43 false (.agg [.str y.i, .int .i64 y.n, .int .i64 y.t, .int .i64 y.f, .int .i64 y.o]) (.agg [.str x.i, .int .i64 x.n, .int .i64 x.t, .int .i64 x.f, .int .i64 x.o]) = some (.bool (decide (y = x))) := by
  rw [eql43r, K.nestO_some, K.nestO_some, K.nestO_some, K.nestO_some, K.nestO_some, K.shot_eq]; rfl
theorem neq99r (y x : Mis) : binA U .neq 99 false (.agg [.str y.1, .int .i64 y.2]) (.agg [.str x.1, .int .i64 x.2]) = K.negO (K.nestO (y.1 == x.1) (K.nestO (y.2 == x.2) (some true))) := by kernel_rfl
theorem neq99 (y x : Mis) : binA U .neq 99 false (.agg [.str y.1, .int .i64 y.2]) (.agg [.str x.1, .int .i64 x.2]) = some (.bool (!decide (y = x))) := by
  rw [neq99r, K.nestO_some, K.nestO_some]
  have : decide (y = x) = (y.1 == x.1 && (y.2 == x.2 && true)) := by
    obtain ⟨a, b⟩ := y
    obtain ⟨c, d⟩ := x
    rw [Bool.eq_iff_iff, decide_eq_true_eq]; simp
  rw [this]; rfl
theorem c12 (na nb : Bool) (l : List Shot) (hl : l.length < 2 ^ 40) : calV U 12 [encS na (shotsA l), encS nb (shotsA l)] = some (.bool true) := by
  refine pure_go k12 (by kernel_rfl) (by simp [stills, still_encS]) ?_
  simp +contextual only [go_sem, ↓reduceIte, r12, lenL_encS, shotsA_len, bne_self_eq_false]
  refine loop_to (σ := Nat) (fun i => l.length - i) (fun i => some (AV.bool true)) (fun i e s => i ≤ l.length ∧ Env.get e 0 = encS na (shotsA l) ∧ Env.get e 1 = encS nb (shotsA l) ∧ Env.get e 5 = .int .i64 i) 0 ?_ rfl ?_
  · rintro L i e s ⟨hi, g0, g1, g5⟩ ih
    by_cases hd : i < l.length
    · have hx := ixa_shots (nl := na) hd
      have hy := ixa_shots (nl := nb) hd
      have hw := wrap_succ hd (by omega)
      have hn := neq43 l[i] l[i]
      rw [decide_eq_true rfl] at hn
      simp +contextual only [go_sem, ↓reduceIte, r12_l0, g0, g1, g5, nat_lt_dec, hd, hx, hy, lenL_encS, shotsA_len, hn, Bool.not_true, hw]
      refine ih (i + 1) _ _ (by omega) ⟨by omega, ?_, ?_, ?_⟩ <;> simp +contextual only [go_sem, ↓reduceIte, g0, g1, g5, hw]
    · have : i = l.length := by omega
      subst this
      simp +contextual only [go_sem, ↓reduceIte, r12_l0, g0, g1, g5, nat_lt_dec, Nat.lt_irrefl, lenL_encS, shotsA_len]
  · refine ⟨Nat.zero_le _, ?_, ?_, ?_⟩ <;> simp +contextual only [go_sem, ↓reduceIte] <;> rfl
theorem c13 (na nb : Bool) (l : List Mis) (hl : l.length < 2 ^ 40) : calV U 13 [encS na (missA l), encS nb (missA l)] = some (.bool true) := by
  refine pure_go k13 (by kernel_rfl) (by simp [stills, still_encS]) ?_
  simp +contextual only [go_sem, ↓reduceIte, r13, lenL_encS, missA_len, bne_self_eq_false]
  refine loop_to (σ := Nat) (fun i => l.length - i) (fun i => some (AV.bool true)) (fun i e s => i ≤ l.length ∧ Env.get e 0 = encS na (missA l) ∧ Env.get e 1 = encS nb (missA l) ∧ Env.get e 5 = .int .i64 i) 0 ?_ rfl ?_
  · rintro L i e s ⟨hi, g0, g1, g5⟩ ih
    by_cases hd : i < l.length
    · have hx := ixa_miss (nl := na) hd
      have hy := ixa_miss (nl := nb) hd
      have hw := wrap_succ hd (by omega)
      have hn := neq99 l[i] l[i]
      rw [decide_eq_true rfl] at hn
      simp +contextual only [go_sem, ↓reduceIte, r13_l0, g0, g1, g5, nat_lt_dec, hd, hx, hy, lenL_encS, missA_len, hn, Bool.not_true, hw]
      refine ih (i + 1) _ _ (by omega) ⟨by omega, ?_, ?_, ?_⟩ <;> simp +contextual only [go_sem, ↓reduceIte, g0, g1, g5, hw]
    · have : i = l.length := by omega
      subst this
      simp +contextual only [go_sem, ↓reduceIte, r13_l0, g0, g1, g5, nat_lt_dec, Nat.lt_irrefl, lenL_encS, missA_len]
  · refine ⟨Nat.zero_le _, ?_, ?_, ?_⟩ <;> simp +contextual only [go_sem, ↓reduceIte] <;> rfl
theorem c14 (nl : Bool) (l : List Mis) (hl : l.length < 2 ^ 40) : calV U 14 [encS nl (missA l)] = some (encS true (missA l)) := by
  refine pure_go k14 (by kernel_rfl) (by simp [stills, still_encS]) ?_
  simp +contextual only [go_sem, ↓reduceIte, r14, lenL_encS, missA_len]
  refine loop_to (σ := Nat) (fun i => l.length - i) (fun i => some (encS true (missA l))) (fun i e s => i ≤ l.length ∧ Env.get e 6 = encS nl (missA l) ∧ Env.get e 7 = .int .i64 l.length ∧ Env.get e 8 = .int .i64 i ∧ 10 ≤ s.next ∧ Fr s ∧ ∃ v, Env.get e 3 = v ∧ RowI s 10 99 2 i (missCells (l.take i)) v) 0 ?_ rfl ?_
  · rintro L i e s ⟨hi, g6, g7, g8, hB, hF, v, g3, row⟩ ih
    by_cases hd : i < l.length
    · have hx := ixa_miss (nl := nl) hd
      have hw := wrap_succ hd (by omega)
      let X : List AV := [.str l[i].1, .int .i64 l[i].2]
      let s1 : St := ((s.new (.cells [.str [], .int .i64 0] 85 false 0 0)).put s.next (.cells X 85 false 0 0)).new (.cells X 99 false 0 0)
      have hn1 : s1.next = s.next + 1 + 1 := rfl
      have hold : ∀ j, j < s.next → s1.get j = s.get j := fun j hj => by
        show (((s.new _).put s.next _).new _).get j = _
        rw [get_new, next_put, next_new, if_neg (by omega), get_put, if_neg (by omega), get_new, if_neg (by omega)]
      have hfr : Fr s1 := Fr.new (Fr.put (hF.new _) (by rw [next_new]; omega) _) _
      have row1 : RowI s1 10 99 2 i (missCells (l.take i)) v := row.mono (by rw [hn1]; omega) fun j _ hj => hold j hj
      obtain ⟨s2, ha, hn2, row2, hold2, hfr2⟩ := row1.app (by rw [hn1]; omega) (m := 1) (new := X) (by omega) rfl rfl
      have hla : lenA v = i := row.lenA
      have hk : appK 99 2 24 v (some (1, X)) s1 = some (.sl s1.next 0 (i + 1) none 2, s2) := by
        rw [appK_some rfl (by rw [hla]; omega) (by rw [hla]; omega) (by omega)]; exact ha
      simp +contextual only [go_sem, ↓reduceIte, r14_l0, g3, g6, g7, g8, nat_lt_dec, hd, hx]
      rw [hk]
      simp +contextual only [go_sem, ↓reduceIte, g8, hw]
      refine ih (i + 1) _ _ (by omega) ⟨by omega, ?_, ?_, ?_, by rw [hn2, hn1]; omega, hfr2 hfr, _, rfl, ?_⟩
      · simp +contextual only [go_sem, ↓reduceIte, g6]
      · simp +contextual only [go_sem, ↓reduceIte, g7]
      · simp +contextual only [go_sem, ↓reduceIte]
      · simp +contextual only [go_sem, ↓reduceIte]
        rw [List.take_succ_eq_append_getElem hd, missCells, List.flatMap_append]
        exact row2
    · have : i = l.length := by omega
      subst this
      rw [List.take_length] at row
      have hf := row.frz_agg U (A := Mis) (enc := misAV) ag_99 sz_99 (by decide) mis_agg (d := 3999) fun x => frz_mis s 3997 x
      simp +contextual only [go_sem, ↓reduceIte, r14_l0, g3, g6, g7, g8, nat_lt_dec, Nat.lt_irrefl]
      rw [hf]; rfl
  · refine ⟨Nat.zero_le _, ?_, ?_, ?_, by rw [own_next, U_glob]; exact Nat.le_refl _, Fr.own, .nils, ?_, RowI.nil ..⟩ <;> simp +contextual only [go_sem, ↓reduceIte] <;> rfl
end Go.Am
set_option linter.all false
namespace Go.Am.K
open Go Go.Am
set_option maxRecDepth 100000
set_option maxHeartbeats 8000000

/-! # collect up to the range over its map -/
def shotsA (l : List Shot) : List AV := l.map Shot.av
theorem shotsA_len (l : List Shot) : (shotsA l).length = l.length := by simp [shotsA]
theorem shotsA_get (l : List Shot) (i : Nat) : (shotsA l)[i]? = (l[i]?).map Shot.av := by simp [shotsA]
theorem ixa_shots {nl : Bool} {l : List Shot} {i : Nat} (h : i < l.length) : ixRA 5 (encS nl (shotsA l)) (.int .i64 (i : Int)) = some (.fp l[i].cells 0) :=
  ixa_encS 5 nl (shotsA l) .i64 i l[i].av (by omega) (by rw [Int.toNat_natCast, shotsA_get, List.getElem?_eq_getElem h]; rfl) rfl (by decide)
/-- what the first part comes to -/
def Pre (l : List Shot) (d : Fl) : Prop := match collectC l with
  | .err er => ∃ e s, d = some (.ret, e, s) ∧ Env.get e 2 = .nils ∧ Env.get e 3 = .int .i64 er
  | .got r => ∃ e s f M, d = some (.norm, e, s) ∧ r = sortS cmpT f ∧ foundL [] l = some f ∧ Env.get e 7 = .map M ∧ Env.get e 13 = .nils ∧ 10 ≤ M ∧ M < s.next ∧ s.get M = some (mapB f) ∧ Fr s
theorem pre_many {l : List Shot} (h : 1000 < l.length) : collectC l = .err 5 := by
  unfold collectC
  rw [show Nat.blt 1000 l.length = true by rw [Nat.blt_eq]; exact h]; rfl
theorem pre_bad {l : List Shot} (h : l.length ≤ 1000) (hb : badL l ≠ 0) : collectC l = .err (badL l) := by
  unfold collectC
  rw [show Nat.blt 1000 l.length = false by rw [Bool.eq_false_iff, ne_eq, Nat.blt_eq]; omega, show (badL l == 0) = false by simpa using hb]; rfl
theorem pre_conf {l : List Shot} (h : l.length ≤ 1000) (hb : badL l = 0) (hf : foundL [] l = none) : collectC l = .err 29 := by
  unfold collectC
  rw [show Nat.blt 1000 l.length = false by rw [Bool.eq_false_iff, ne_eq, Nat.blt_eq]; omega, hb, hf]; rfl
theorem pre_got {l f : List Shot} (h : l.length ≤ 1000) (hb : badL l = 0) (hf : foundL [] l = some f) : collectC l = .got (sortS cmpT f) := by
  unfold collectC
  rw [show Nat.blt 1000 l.length = false by rw [Bool.eq_false_iff, ne_eq, Nat.blt_eq]; omega, hb, hf]; rfl
theorem mk191 {e : Env} {s : St} : opA U (execL U) e (.makeMap 191 none) s = some (.map s.next, s.new (.map [] .new)) := by
  simp only [opA]
def lookV (acc : List Shot) (x : Shot) : AV := match acc.find? fun y => y.i == x.i && y.n == x.n with
  | some y => .tup [y.av, .bool true]
  | none => .tup [zShot.av, .bool false]
theorem lookV_find (acc : List Shot) (x : Shot) : lookV acc x = match acc.find? fun y => y.i == x.i && y.n == x.n with
  | some y => .tup [y.av, .bool true]
  | none => .tup [zShot.av, .bool false] := rfl
theorem lk191 {e : Env} {s : St} {M : Nat} {acc : List Shot} (x : Shot) (ha : Env.get e 44 = .map M) (hb : Env.get e 45 = .agg [.str x.i, .int .i64 x.n]) (h : s.get M = some (mapB acc)) :
    opA U (execL U) e (.lookup 191 (.tmp 44) (.tmp 45) true) s = some (lookV acc x, s) := by
  have := lookup_shots x h
  rw [keyA] at this
  simp only [opA, eval, ha, hb, this, pureO]
  rfl
theorem up191 {e : Env} {s : St} {M : Nat} {acc acc' : List Shot} (x : Shot) (ha : Env.get e 55 = .map M) (hb : Env.get e 56 = .agg [.str x.i, .int .i64 x.n]) (hc : Env.get e 57 = .agg [.str x.i, .int .i64 x.n, .int .i64 x.t, .int .i64 x.f, .int .i64 x.o]) (h : s.get M = some (mapB acc))
    (hp : putA (keyA x) x.av (acc.map ent) = some (acc'.map ent)) (hm : (miF acc.length).grow acc.length acc'.length = miF acc'.length) :
    opA U (execL U) e (.mapUpdate 191 (.tmp 55) (.tmp 56) (.tmp 57)) s = some (undef, s.put M (mapB acc')) := by
  have := update_shots x h hp hm
  rw [keyA] at this
  have hc : Env.get e 57 = x.av := hc
  simp only [opA, eval, ha, hb, hc, this, unitO]
theorem c37_pre (nl : Bool) (l : List Shot) (hs : l.all shortS = true) : Pre l (go U (fun d => d) [] r37p (bindArgs 0 [encS nl (shotsA l)] .nil) (ownSt U)) := by
  simp +contextual only [go_sem, ↓reduceIte, r37p, lenL_encS, shotsA_len]
  cases hbig : decide ((l.length : Int) > 1000) with
  | true =>
    rw [decide_eq_true_eq] at hbig
    unfold Pre
    rw [pre_many (by omega)]
    refine ⟨_, _, rfl, ?_, ?_⟩ <;> simp +contextual only [go_sem, ↓reduceIte]
  | false =>
    rw [decide_eq_false_iff_not] at hbig
    have hlen : l.length ≤ 1000 := by omega
    refine loop_ex (σ := Nat) (Post := Pre l) (fun i => l.length - i) (fun i e s => i ≤ l.length ∧ badL (l.take i) = 0 ∧ Env.get e 0 = encS nl (shotsA l) ∧ Env.get e 19 = encS nl (shotsA l) ∧ Env.get e 20 = .int .i64 l.length ∧ Env.get e 21 = .int .i64 i ∧ 10 ≤ s.next ∧ Fr s) 0 ?_ ?_
    · rintro L i e s ⟨hi, hbad, g0, g19, g20, g21, hB, hF⟩ ih
      by_cases hd : i < l.length
      · have hx := ixa_shots (nl := nl) hd
        have hw := wrap_succ hd (by omega)
        have hsh : l[i].i.length < 2 ^ 40 := by
          have := List.all_eq_true.1 hs _ (List.getElem_mem hd)
          rw [shortS, Nat.ble_eq] at this; omega
        have hc := c92 l[i] hsh
        have hbt : badL (l.take (i + 1)) = badS l[i] := by
          rw [List.take_succ_eq_append_getElem hd, badL_app, hbad]
          simp only [beq_self_eq_true, cond_true, badL]
          cases hb : badS l[i] == 0
          · rfl
          · rw [beq_iff_eq] at hb; rw [hb]; rfl
        have hx : ixRA 5 (encS nl (shotsA l)) (.int .i64 (i : Int)) = some (.fp [.str l[i].i, .int .i64 l[i].n, .int .i64 l[i].t, .int .i64 l[i].f, .int .i64 l[i].o] 0) := hx
        have hc : calV U 92 [.agg [.str l[i].i, .int .i64 l[i].n, .int .i64 l[i].t, .int .i64 l[i].f, .int .i64 l[i].o]] = some (.int .i64 (badS l[i])) := hc
        simp +contextual only [go_sem, ↓reduceIte, r37_l0, g0, g19, g20, g21, nat_lt_dec, hd, hx, hc]
        cases hb : badS l[i] != 0 with
        | true =>
          have hne : badS l[i] ≠ 0 := by simpa using hb
          have hall : badL l = badS l[i] := by
            have e := badL_app (l.take (i + 1)) (l.drop (i + 1))
            rw [List.take_append_drop, hbt, show (badS l[i] == 0) = false by simpa using hne] at e
            exact e
          unfold Pre
          rw [pre_bad hlen (by rw [hall]; exact hne), hall]
          refine ⟨_, _, rfl, ?_, ?_⟩ <;> simp +contextual only [go_sem, ↓reduceIte]
        | false =>
          have he : badS l[i] = 0 := by simpa using hb
          simp +contextual only [go_sem, ↓reduceIte, g21, hw]
          refine ih (i + 1) _ _ (by omega) ⟨by omega, by rw [hbt, he], ?_, ?_, ?_, ?_, ?_, ?_⟩
          · simp +contextual only [go_sem, ↓reduceIte, g0]
          · simp +contextual only [go_sem, ↓reduceIte, g19]
          · simp +contextual only [go_sem, ↓reduceIte, g20]
          · simp +contextual only [go_sem, ↓reduceIte]
          · simp +contextual only [go_sem, ↓reduceIte]; omega
          · exact Fr.put (hF.new _) (by rw [next_new]; omega) _
      · have : i = l.length := by omega
        subst this
        rw [List.take_length] at hbad
        have hmk := fun (e : Env) (s : St) => @mk191 e s
        simp +contextual only [go_sem, ↓reduceIte, r37_l0, g0, g19, g20, g21, nat_lt_dec, Nat.lt_irrefl, hmk, lenL_encS, shotsA_len]
        refine loop_ex (σ := Nat) (Post := Pre l) (fun i => l.length - i) (fun i e st => i ≤ l.length ∧ Env.get e 7 = .map s.next ∧ Env.get e 32 = encS nl (shotsA l) ∧ Env.get e 33 = .int .i64 l.length ∧ Env.get e 34 = .int .i64 i ∧ s.next < st.next ∧ Fr st ∧ ∃ acc, foundL [] (l.take i) = some acc ∧ st.get s.next = some (mapB acc)) 0 ?_ ?_
        · rintro L i e st ⟨hi, g7, g32, g33, g34, hB', hF', acc, hacc, hM⟩ ih
          by_cases hd : i < l.length
          · have hx := ixa_shots (nl := nl) hd
            have hw := wrap_succ hd (by omega)
            have hx : ixRA 5 (encS nl (shotsA l)) (.int .i64 (i : Int)) = some (.fp [.str l[i].i, .int .i64 l[i].n, .int .i64 l[i].t, .int .i64 l[i].f, .int .i64 l[i].o] 0) := hx
            have hstep : foundL [] (l.take (i + 1)) = foundL acc [l[i]] := by
              rw [List.take_succ_eq_append_getElem hd, foundL_app, hacc]; rfl
            have n0 : ¬ st.next = s.next := by omega
            have n1 : ¬ st.next + 1 = s.next := by omega
            have n2 : ¬ st.next + 1 + 1 = s.next := by omega
            have m1 : ¬ st.next + 1 = st.next := by omega
            have m2 : ¬ st.next + 1 + 1 = st.next := by omega
            have m3 : ¬ st.next + 1 + 1 = st.next + 1 := by omega
            have m4 : ¬ st.next = st.next + 1 := by omega
            have m5 : ¬ st.next = st.next + 1 + 1 := by omega
            have m6 : ¬ st.next + 1 = st.next + 1 + 1 := by omega
            have hlk := fun (e : Env) (s' : St) => @lk191 e s' s.next acc l[i]
            have hlu := lookV_find acc l[i]
            cases hf : acc.find? fun y => y.i == l[i].i && y.n == l[i].n with
            | none =>
              rw [hf] at hlu
              have hlu : lookV acc l[i] = .tup [.agg [.str [], .int .i64 0, .int .i64 0, .int .i64 0, .int .i64 0], .bool false] := hlu
              have hup := fun (e : Env) (s' : St) => @up191 e s' s.next acc (acc ++ [l[i]]) l[i]
              have hpn := putA_new l[i] acc hf
              have hmi : (miF acc.length).grow acc.length (acc ++ [l[i]]).length = miF (acc ++ [l[i]]).length := by rw [List.length_append]; exact miF_grow _
              simp +contextual only [go_sem, ↓reduceIte, r37_l1, g7, g32, g33, g34, nat_lt_dec, hd, hx, hlk, hM, n0, n1, n2, hlu, hup, hpn, hmi, m1, m2, m3, m4, m5, m6, hw]
              refine ih (i + 1) _ _ (by omega) ⟨by omega, ?_, ?_, ?_, ?_, ?_, ?_, acc ++ [l[i]], by rw [hstep, foundL, hf]; rfl, ?_⟩
              · simp +contextual only [go_sem, ↓reduceIte, g7]
              · simp +contextual only [go_sem, ↓reduceIte, g32]
              · simp +contextual only [go_sem, ↓reduceIte, g33]
              · simp +contextual only [go_sem, ↓reduceIte]
              · simp +contextual only [go_sem, ↓reduceIte]; omega
              · refine Fr.put (Fr.put (Fr.new (Fr.put (Fr.new (Fr.put (hF'.new _) ?_ _) _) ?_ _) _) ?_ _) ?_ _ <;> simp +contextual only [go_sem, ↓reduceIte] <;> omega
              · rw [get_put, if_pos rfl]
            | some y =>
              rw [hf] at hlu
              have hlu : lookV acc l[i] = .tup [.agg [.str y.i, .int .i64 y.n, .int .i64 y.t, .int .i64 y.f, .int .i64 y.o], .bool true] := hlu
              by_cases hyx : y = l[i]
              · subst hyx
                have hne := neq42 l[i] l[i]
                rw [decide_eq_true rfl] at hne
                have hup := fun (e : Env) (s' : St) => @up191 e s' s.next acc acc l[i]
                have hpn := putA_old l[i] acc hf
                have hmi : (miF acc.length).grow acc.length acc.length = miF acc.length := miF_same _
                simp +contextual only [go_sem, ↓reduceIte, r37_l1, g7, g32, g33, g34, nat_lt_dec, hd, hx, hlk, hM, n0, n1, n2, hlu, hup, hpn, hmi, hne, Bool.not_true, m1, m2, m3, m4, m5, m6, hw]
                refine ih (i + 1) _ _ (by omega) ⟨by omega, ?_, ?_, ?_, ?_, ?_, ?_, acc, by rw [hstep, foundL, hf]; simp only [decide_true, cond_true, foundL], ?_⟩
                · simp +contextual only [go_sem, ↓reduceIte, g7]
                · simp +contextual only [go_sem, ↓reduceIte, g32]
                · simp +contextual only [go_sem, ↓reduceIte, g33]
                · simp +contextual only [go_sem, ↓reduceIte]
                · simp +contextual only [go_sem, ↓reduceIte]; omega
                · refine Fr.put (Fr.put (Fr.new (Fr.put (Fr.new (Fr.put (hF'.new _) ?_ _) _) ?_ _) _) ?_ _) ?_ _ <;> simp +contextual only [go_sem, ↓reduceIte] <;> omega
                · rw [get_put, if_pos rfl]
              · have hne := neq42 y l[i]
                rw [decide_eq_false hyx] at hne
                have hnone : foundL [] l = none := by
                  rw [← List.take_append_drop (i + 1) l, foundL_app, hstep, foundL, hf]
                  simp only [decide_eq_false hyx, cond_false, Option.bind_none]
                simp +contextual only [go_sem, ↓reduceIte, r37_l1, g7, g32, g33, g34, nat_lt_dec, hd, hx, hlk, hM, n0, n1, n2, hlu, hne, Bool.not_false, m1, m2, m3, m4, m5, m6, hw]
                unfold Pre
                rw [pre_conf hlen hbad hnone]
                refine ⟨_, _, rfl, ?_, ?_⟩ <;> simp +contextual only [go_sem, ↓reduceIte]
          · have : i = l.length := by omega
            subst this
            rw [List.take_length] at hacc
            simp +contextual only [go_sem, ↓reduceIte, r37_l1, g7, g32, g33, g34, nat_lt_dec, Nat.lt_irrefl]
            unfold Pre
            rw [pre_got hlen hbad hacc]
            refine ⟨_, _, acc, s.next, rfl, rfl, hacc, ?_, ?_, hB, hB', hM, hF'⟩ <;> simp +contextual only [go_sem, ↓reduceIte, g7]
        · refine ⟨Nat.zero_le _, ?_, ?_, ?_, ?_, by rw [next_new]; omega, hF.new _, [], rfl, ?_⟩ <;> simp +contextual only [go_sem, ↓reduceIte] <;> rfl
    · refine ⟨Nat.zero_le _, rfl, ?_, ?_, ?_, ?_, by rw [own_next, U_glob]; exact Nat.le_refl _, Fr.own⟩ <;> simp +contextual only [go_sem, ↓reduceIte] <;> rfl
end Go.Am.K
set_option linter.all false
namespace Go.Am.K
open Go Go.Am
set_option maxRecDepth 100000
set_option maxHeartbeats 8000000

/-! # The range over the map, in whatever order -/
theorem go_exec {c : Code} {r : RC} {e : Env} {s : St} {x : Out × Env × St} (h : rc U c = r) (hg : go U (fun d => d) [] r e s = some x) : execL U c e s = some x := by
  have h1 : den U r e s = some x := hg
  rw [← h] at h1
  exact den_sound c _ _ _ h1
theorem det_L {P : Program} (hX : Full U P) (hD : DrawOk U P) {c : Code} {e e' : Env} {s s' : St} {out : Out} {Q : Out → Env → St → Prop} (h : execL U c e s = some (out, e', s')) (hq : Q out e' s') : GoR U P c e s Q := by
  obtain ⟨n, hn⟩ := execL_iff.1 h
  exact GoR.det hX hD (hn n (Nat.le_refl n)) hq
def seqsB : Nat → Code → Bool
  | 0, _ => true
  | k + 1, .seq _ b => seqsB k b
  | _, _ => false
theorem exec_seq (a b : Code) (e : Env) (s : St) : execL U (.seq a b) e s = match execL U a e s with
    | some (.norm, e, s) => execL U b e s
    | r => r := by
  rw [execL_eq]
  simp only [stepA]
  rfl
theorem take_gor {P : Program} (hX : Full U P) (hD : DrawOk U P) : ∀ (k : Nat) (c : Code) (e e' : Env) (s s' : St) (Q : Out → Env → St → Prop), seqsB k c = true → execL U (takeC k c) e s = some (.norm, e', s') → GoR U P (restC k c) e' s' Q → GoR U P c e s Q
  | 0, c, e, e', s, s', Q, _, h, hq => by
    rw [takeC, execL_eq] at h
    simp only [stepA] at h
    cases h
    exact hq
  | k + 1, .seq a b, e, e', s, s', Q, hs, h, hq => by
    rw [takeC, exec_seq] at h
    split at h
    · rename_i e1 s1 h1
      refine GoR.seq (Q1 := fun out e2 s2 => out = .norm ∧ e2 = e1 ∧ s2 = s1) (det_L hX hD h1 ⟨rfl, rfl, rfl⟩) ?_ ?_
      · rintro e2 s2 ⟨_, rfl, rfl⟩
        exact take_gor hX hD k b _ _ _ _ Q hs h hq
      · rintro out e2 s2 hne ⟨rfl, _⟩
        exact absurd rfl hne
    · rename_i hne
      exact absurd h (hne e' s')
theorem take_ret : ∀ (k : Nat) (c : Code) (e e' : Env) (s s' : St), seqsB k c = true → execL U (takeC k c) e s = some (.ret, e', s') → execL U c e s = some (.ret, e', s')
  | 0, c, e, e', s, s', _, h => by
    rw [takeC, execL_eq] at h
    simp only [stepA] at h
    cases h
  | k + 1, .seq a b, e, e', s, s', hs, h => by
    rw [takeC, exec_seq] at h
    rw [exec_seq]
    split at h
    · rename_i e1 s1 h1
      exact take_ret k b _ _ _ _ hs h
    · exact h
/-! ### What is left, and what was handed out -/
def pk (f : List Shot) (seen : List Nat) : List Shot := seen.map fun b => f.getD b zShot
theorem pk_app (f : List Shot) (a b : List Nat) : pk f (a ++ b) = pk f a ++ pk f b := by simp [pk]
theorem pk_len (f : List Shot) (a : List Nat) : (pk f a).length = a.length := by simp [pk]
theorem pk_range (f : List Shot) : pk f (List.range f.length) = f := by
  apply List.ext_getElem
  · simp [pk]
  · intro i h1 h2
    simp [pk, List.getD_eq_getElem?_getD, h2]
theorem left_iff {f : List Shot} {seen : List Nat} {x : (AV × AV) × Nat} : x ∈ leftA (f.map ent) (List.range f.length) seen ↔ ∃ b, b < f.length ∧ b ∉ seen ∧ x = (ent (f.getD b zShot), b) := by
  unfold leftA
  rw [List.mem_filter]
  constructor
  · rintro ⟨h1, h2⟩
    obtain ⟨i, hi, rfl⟩ := List.mem_iff_getElem.1 h1
    have hi' : i < f.length := by simpa using hi
    have e : ((f.map ent).zip (List.range f.length))[i] = (ent (f.getD i zShot), i) := by
      simp [List.getD_eq_getElem?_getD, hi']
    rw [e] at h2 ⊢
    exact ⟨i, hi', by simpa using h2, rfl⟩
  · rintro ⟨b, hb, hn, rfl⟩
    refine ⟨?_, by simpa using hn⟩
    have e : ((f.map ent).zip (List.range f.length))[b]'(by simpa using hb) = (ent (f.getD b zShot), b) := by
      simp [List.getD_eq_getElem?_getD, hb]
    rw [← e]
    exact List.getElem_mem _
theorem perm_range {n : Nat} {seen : List Nat} (hn : seen.Nodup) (hl : ∀ b ∈ seen, b < n) (ha : ∀ b, b < n → b ∈ seen) : seen.Perm (List.range n) :=
  (List.perm_ext_iff_of_nodup hn List.nodup_range).2 fun b => by rw [List.mem_range]; exact ⟨hl b, ha b⟩
theorem lastL_app (l : List Nat) (b : Nat) : lastL (l ++ [b]) = some b := by
  induction l with
  | nil => rfl
  | cons x l ih =>
    cases l with
    | nil => rfl
    | cons y l => exact ih
theorem entryL_range : ∀ (l : List Shot) (k b : Nat), k ≤ b → b < k + l.length → entryL b (l.map ent) (List.range' k l.length) = some (ent (l.getD (b - k) zShot))
  | [], k, b, h1, h2 => by simp at h2; omega
  | x :: l, k, b, h1, h2 => by
    rw [List.map_cons, List.length_cons, List.range'_succ, entryL]
    by_cases h : k = b
    · subst h; rw [if_pos rfl, Nat.sub_self]; rfl
    · rw [if_neg h, entryL_range l (k + 1) b (by omega) (by rw [List.length_cons] at h2; omega), show b - k = (b - (k + 1)) + 1 by omega]
      rfl
theorem entry_of {f : List Shot} {b : Nat} (h : b < f.length) : entryL b (f.map ent) (List.range f.length) = some (ent (f.getD b zShot)) := by
  rw [List.range_eq_range']
  exact entryL_range f 0 b (Nat.zero_le _) (by omega)
theorem len_le {n : Nat} {seen : List Nat} (hn : seen.Nodup) (hl : ∀ b ∈ seen, b < n) : seen.length ≤ n := by
  have := List.Nodup.length_le_of_subset hn (l₂ := List.range n) fun b hb => List.mem_range.2 (hl b hb)
  simpa using this
end Go.Am.K
set_option linter.all false
namespace Go.Am.K
open Go Go.Am
set_option maxRecDepth 100000
set_option maxHeartbeats 8000000

/-! # The rounds of the range -/
noncomputable def idN : Nat := match cNext with
  | .region i _ _ => i
  | _ => 0
noncomputable def opsN : Array Oper := match cNext with
  | .region _ o _ => o
  | _ => #[]
noncomputable def oN : Oper := opsN.toList[0]!
noncomputable def oE : Oper := opsN.toList[1]!
theorem n_reg : cNext = .region idN opsN false := by kernel_rfl
theorem n_ops : opsN.toList = [oN, oE] := by kernel_rfl
theorem n_op : oN.op = .next (.tmp 60) false := by kernel_rfl
theorem n_guard : oN.guard = none := by kernel_rfl
theorem n_dst : oN.dst = some 61 := by kernel_rfl
theorem e_op : oE.op = .extract (.tmp 61) 0 := by kernel_rfl
theorem e_guard : oE.guard = none := by kernel_rfl
theorem e_dst : oE.dst = some 62 := by kernel_rfl
noncomputable def rNB : RC := .seq (.cond (.t 62) .skip (.exit 4)) (.block 5 rBody)
theorem k_nb : rc U (.seq (.cond (.tmp 62) .skip (.exit 4)) (.block 5 cBody)) = rNB := by
  show RC.seq (.cond (.t 62) .skip (.exit 4)) (.block 5 (rc U cBody)) = _
  rw [k_body]; rfl
/-- the second operation of the step -/
theorem ext_step {e : Env} {s : St} {b : Bool} {r : List AV} : opsS U opsN [oE] (setDst e oN.dst (.tup (.bool b :: r))) s = some (Tr.set (Tr.set e 61 (.tup (.bool b :: r))) 62 (.bool b), s) := by
  rw [n_dst]
  unfold opsS
  have hw : wantedA opsN (setDst e (some 61) (.tup (.bool b :: r))) oE = true := by
    unfold wantedA; rw [e_guard]
  rw [hw, e_op]
  have ho : opS U (setDst e (some 61) (.tup (.bool b :: r))) (.extract (.tmp 61) 0) s = some (.bool b, s) := by
    have hg : Env.get (Tr.set e 61 (.tup (.bool b :: r))) 61 = .tup (.bool b :: r) := by simp +contextual only [go_sem, ↓reduceIte]
    unfold opS
    simp only [isSel, isCallV, Bool.false_eq_true, if_false, opA, setDst, eval, hg]
    rfl
  rw [ho, e_dst]
  simp only [if_true, opsS, setDst]

/-- the state between two rounds: what was handed out is in the row -/
structure Rng (f : List Shot) (M r : Nat) (seen : List Nat) (e : Env) (s : St) : Prop where
  nd : seen.Nodup
  lt : ∀ b ∈ seen, b < f.length
  g60 : Env.get e 60 = .ptr r 0
  it : s.get r = some (.miter (some M) f.length seen f.length)
  mp : s.get M = some (mapB f)
  hM : 10 ≤ M
  hMr : M < r
  hr : r < s.next
  fr : Fr s
  row : ∃ v, Env.get e 13 = v ∧ RowI s (r + 1) 42 5 seen.length (shotsCells (pk f seen)) v
/-- in the midst of a round -/
structure Mid (f : List Shot) (M r : Nat) (seen : List Nat) (b : Nat) (e : Env) (s : St) : Prop where
  nd : (seen ++ [b]).Nodup
  lt : ∀ c ∈ seen ++ [b], c < f.length
  g60 : Env.get e 60 = .ptr r 0
  it : s.get r = some (.miter (some M) f.length (seen ++ [b]) f.length)
  mp : s.get M = some (mapB f)
  hM : 10 ≤ M
  hMr : M < r
  hr : r < s.next
  fr : Fr s
  row : ∃ v, Env.get e 13 = v ∧ RowI s (r + 1) 42 5 seen.length (shotsCells (pk f seen)) v
/-- at the end -/
def EndP (f : List Shot) (e : Env) (s : St) : Prop := ∃ p B v, p.Perm f ∧ Env.get e 13 = v ∧ RowI s B 42 5 p.length (shotsCells p) v ∧ 10 ≤ B ∧ Fr s
theorem next_all {f : List Shot} {M r : Nat} {seen : List Nat} {e : Env} {s : St} (h : Rng f M r seen e s) : nextA r s = match leftA (f.map ent) (List.range f.length) seen with
    | [] => [(.tup [.bool false], s)]
    | l => l.map fun x => (.tup [.bool true, x.1.1, x.1.2], s.put r (.miter (some M) f.length (seen ++ [x.2]) f.length)) := by
  unfold nextA
  simp only [h.it, h.mp, mapB, miF]
  have h1 : ((List.range f.length).all fun b => decide (b < f.length)) = true := by
    rw [List.all_eq_true]; intro b hb; rw [List.mem_range] at hb; simpa using hb
  rw [h1, show decide (f.length ≤ f.length) = true by simp]
  rfl
theorem done_of {f : List Shot} {M r : Nat} {seen : List Nat} {e : Env} {s : St} (h : Rng f M r seen e s) (hl : leftA (f.map ent) (List.range f.length) seen = []) : (pk f seen).Perm f := by
  have hall : ∀ b, b < f.length → b ∈ seen := by
    intro b hb
    rcases Decidable.em (b ∈ seen) with h1 | h1
    · exact h1
    · have : (ent (f.getD b zShot), b) ∈ leftA (f.map ent) (List.range f.length) seen := left_iff.2 ⟨b, hb, h1, rfl⟩
      rw [hl] at this; cases this
  have := (perm_range h.nd h.lt hall).map fun b => f.getD b zShot
  have e := pk_range f
  unfold pk at e
  rw [e] at this
  exact this
theorem rd60 {e : Env} {s : St} {f : List Shot} {M r : Nat} {seen : List Nat} {b : Nat} (h60 : Env.get e 60 = .ptr r 0) (it : s.get r = some (.miter (some M) f.length (seen ++ [b]) f.length)) (mp : s.get M = some (mapB f)) (hb : b < f.length) :
    opA U (execL U) e (.entry (.tmp 60)) s = some (.tup [keyA (f.getD b zShot), .agg [.str (f.getD b zShot).i, .int .i64 (f.getD b zShot).n, .int .i64 (f.getD b zShot).t, .int .i64 (f.getD b zShot).f, .int .i64 (f.getD b zShot).o]], s) := by
  have hr : roundA r s = some (.tup [keyA (f.getD b zShot), (f.getD b zShot).av]) := by
    unfold roundA
    simp only [it, mp, mapB, miF, lastL_app, if_true, entry_of hb]
    rfl
  simp only [opA, eval, h60, hr, pureO]
  rfl
/-- a round's body -/
theorem body_go {f : List Shot} {M r : Nat} {seen : List Nat} {b : Nat} {e : Env} {s : St} (h : Mid f M r seen b e s) (g62 : Env.get e 62 = .bool true) (hlen : f.length ≤ 1000) :
    ∃ e' s', go U (fun d => d) [] rNB e s = some (.norm, e', s') ∧ Rng f M r (seen ++ [b]) e' s' := by
  obtain ⟨nd, lt, g60, it, mp, hM, hMr, hr, fr, v, g13, row⟩ := h
  have hb : b < f.length := lt b (by simp)
  have hrd := fun (e' : Env) (h' : Env.get e' 60 = .ptr r 0) => rd60 h' it mp hb
  have hxb : pk f [b] = [f.getD b zShot] := rfl
  generalize f.getD b zShot = x at *
  let X : List AV := [.str x.i, .int .i64 x.n, .int .i64 x.t, .int .i64 x.f, .int .i64 x.o]
  let s1 : St := ((s.new (.cells [.str [], .int .i64 0, .int .i64 0, .int .i64 0, .int .i64 0] 42 false 0 0)).put s.next (.cells X 42 false 0 0)).new (.cells X 42 false 0 0)
  have hn1 : s1.next = s.next + 1 + 1 := rfl
  have hold : ∀ j, j < s.next → s1.get j = s.get j := fun j hj => by
    show (((s.new _).put s.next _).new _).get j = _
    rw [get_new, next_put, next_new, if_neg (by omega), get_put, if_neg (by omega), get_new, if_neg (by omega)]
  have hfr : Fr s1 := Fr.new (Fr.put (fr.new _) (by rw [next_new]; omega) _) _
  have row1 : RowI s1 (r + 1) 42 5 seen.length (shotsCells (pk f seen)) v := row.mono (by rw [hn1]; omega) fun j _ hj => hold j hj
  obtain ⟨s2, ha, hn2, row2, hold2, hfr2⟩ := row1.app (by rw [hn1]; omega) (m := 1) (new := X) (by omega) rfl rfl
  have hslen : seen.length ≤ 1000 := by
    have := len_le nd lt
    rw [List.length_append] at this
    simp at this; omega
  have hla : lenA v = seen.length := row.lenA
  have hk : appK 42 5 48 v (some (1, X)) s1 = some (.sl s1.next 0 (seen.length + 1) none 5, s2) := by
    rw [appK_some rfl (by rw [hla]; omega) (by rw [hla]; omega) (by omega)]; exact ha
  simp +contextual only [go_sem, ↓reduceIte, rNB, rBody, g60, g62, hrd, g13]
  rw [hk]
  simp +contextual only [go_sem, ↓reduceIte]
  refine ⟨_, _, rfl, nd, lt, ?_, ?_, ?_, hM, hMr, by rw [hn2, hn1]; omega, hfr2 hfr, _, rfl, ?_⟩
  · simp +contextual only [go_sem, ↓reduceIte, g60]
  · rw [hold2 r (by omega), hold r hr]; exact it
  · rw [hold2 M (by omega), hold M (by omega)]; exact mp
  · have e1 : Env.get (Tr.set (Tr.set e 68 (.sl s1.next 0 (seen.length + 1) none 5)) 13 (.sl s1.next 0 (seen.length + 1) none 5)) 13 = .sl s1.next 0 (seen.length + 1) none 5 := by simp +contextual only [go_sem, ↓reduceIte]
    simp +contextual only [go_sem, ↓reduceIte]
    rw [pk_app, List.length_append, shotsCells, List.flatMap_append]
    have hx : (pk f [b]).flatMap Shot.cells = X := by
      rw [hxb]; rfl
    rw [hx]
    exact row2
end Go.Am.K
