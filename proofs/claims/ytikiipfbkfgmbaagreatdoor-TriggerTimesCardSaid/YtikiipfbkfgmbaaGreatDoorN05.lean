/- A part of the proof of a statement of this seat: the machine on which the program is read, and what it computes; for every input. -/
import Derived.Test.YtikiipfbkfgmbaaGreatDoorN04
set_option linter.all false
namespace Go.Am
open Go
variable [MaxLen]
set_option maxRecDepth 100000
set_option maxHeartbeats 8000000

/-! # The program's table of kinds, and its check of a condition -/

def kSize : Kd → AV
  | .high => .fn (.func 194) [] []
  | .low => .fn (.func 194) [] []
  | .rise => .fn (.func 194) [] []
  | .fall => .fn (.func 194) [] []
  | .pattern => .fn (.func 194) [] []
  | .enter => .fn (.func 194) [] []
  | .pulse => .fn (.func 192) [] []
  | .gap => .fn (.func 192) [] []
  | .idle => .fn (.func 193) [] []
  | .setup => .fn (.func 193) [] []
  | .runt => .fn (.func 210) [] []
  | _ => .nilfn
def kStart : Kd → AV
  | .high => .fn (.func 195) [] []
  | .low => .fn (.func 195) [] []
  | .rise => .fn (.func 195) [] []
  | .fall => .fn (.func 195) [] []
  | .pattern => .fn (.func 195) [] []
  | .enter => .fn (.func 195) [] []
  | .pulse => .fn (.func 195) [] []
  | .gap => .fn (.func 195) [] []
  | .idle => .fn (.func 195) [] []
  | .setup => .fn (.func 208) [] []
  | .runt => .fn (.func 195) [] []
  | _ => .nilfn
def kStep : Kd → AV
  | .high => .fn (.func 235) [] [.fp [.fn (.func 197) [] []] 0]
  | .low => .fn (.func 235) [] [.fp [.fn (.func 199) [] []] 0]
  | .rise => .fn (.func 235) [] [.fp [.fn (.func 200) [] []] 0]
  | .fall => .fn (.func 235) [] [.fp [.fn (.func 202) [] []] 0]
  | .pattern => .fn (.func 235) [] [.fp [.fn (.func 203) [] []] 0]
  | .enter => .fn (.func 235) [] [.fp [.fn (.func 205) [] []] 0]
  | .pulse => .fn (.func 236) [] [.fp [.bool true] 0]
  | .gap => .fn (.func 236) [] [.fp [.bool false] 0]
  | .idle => .fn (.func 207) [] []
  | .setup => .fn (.func 209) [] []
  | .runt => .fn (.func 211) [] []
  | _ => .nilfn
def kindV (d : Kd) : AV := .agg [.bool (usesOf d).a, .bool (usesOf d).b, .bool (usesOf d).mi, .bool (usesOf d).ma, .bool (usesOf d).pat, .bool (usesOf d).kids, kSize d, kStart d, kStep d]
def kindKs : List AV := [.str [104, 105, 103, 104], .str [108, 111, 119], .str [114, 105, 115, 101], .str [102, 97, 108, 108], .str [112, 97, 116, 116, 101, 114, 110], .str [101, 110, 116, 101, 114], .str [112, 117, 108, 115, 101], .str [103, 97, 112], .str [105, 100, 108, 101], .str [115, 101, 116, 117, 112], .str [114, 117, 110, 116], .str [110, 111, 116], .str [97, 108, 108], .str [97, 110, 121]]
def kindVs : List AV := [kindV .high, kindV .low, kindV .rise, kindV .fall, kindV .pattern, kindV .enter, kindV .pulse, kindV .gap, kindV .idle, kindV .setup, kindV .runt, kindV .not_, kindV .all_, kindV .any_]
theorem c156 : calV U 156 [] = some (.fm kindKs kindVs) := v_of_q (by kernel_rfl) rfl (callQ_run U (n := 100000) (by kernel_rfl))
theorem lookup_kinds (k : Str) (ok : Bool) (s : St) : lookupA U 238 (.fm kindKs kindVs) (.str k) ok s = some (if ok then .tup [kindV (kdOf k), .bool (kdOf k).known] else kindV (kdOf k)) := by
  have hu : U.und 238 = some (.map 9 236) := by kernel_rfl
  have h9 : U.und 9 = some .string := by kernel_rfl
  have hz : zero U 236 = some (kindV .other) := by kernel_rfl
  obtain ⟨h0, h1, h2, h3, h4, h5, h6, h7, h8, h9', h10, h11, h12, h13, h14⟩ := kd_facts k
  unfold lookupA
  rw [hu]
  simp only [keyOk, h9, if_true, kindKs, kindVs, List.zip_cons_cons, List.zip_nil_left]
  generalize kdOf k = d at *
  cases d <;> simp only [reduceCtorEq, decide_true, decide_false] at h1 h2 h3 h4 h5 h6 h7 h8 h9' h10 h11 h12 h13 h14 <;>
    simp only [findA, keyEq, h1, h2, h3, h4, h5, h6, h7, h8, h9', h10, h11, h12, h13, h14, hz] <;> rfl
def lookK (X : Cx) (t : TypeId) (ok : Bool) (m k : Option AV) (s : St) : Option (AV × St) := match m, k with
  | some m, some k => pureO (lookupA X t m k ok s) s
  | _, _ => none
theorem opA_lookup (X : Cx) (ex : Ex) (e : Env) (s : St) (t : TypeId) (m k : Operand) (ok : Bool) : opA X ex e (.lookup t m k ok) s = lookK X t ok (eval X e m) (eval X e k) s := by
  unfold lookK
  simp only [opA]
  rfl
theorem lookK_some (X : Cx) (t : TypeId) (ok : Bool) (m k : AV) (s : St) : lookK X t ok (some m) (some k) s = pureO (lookupA X t m k ok s) s := (fun h => h) rfl
theorem lookup_kinds1 (k : Str) (s : St) : lookupA U 238 (.fm kindKs kindVs) (.str k) true s = some (.tup [kindV (kdOf k), .bool (kdOf k).known]) := lookup_kinds k true s
theorem lookup_kinds0 (k : Str) (s : St) : lookupA U 238 (.fm kindKs kindVs) (.str k) false s = some (kindV (kdOf k)) := lookup_kinds k false s
attribute [go_sem] opA_lookup lookK_some

/-! The set of the three bytes of a pattern -/
def setA : List AV := (List.range 256).map fun n => .bool (Nat.beq n 48 || Nat.beq n 49 || Nat.beq n 120)
theorem setA_len : setA.length = 256 := by simp [setA]
theorem setA_noAgg : setA.all noAgg = true := by simp [setA, noAgg]
theorem setA_get (c : UInt8) : setA[c.toNat]? = some (.bool (c == 48 || c == 49 || c == 120)) := by
  have hc : c.toNat < 256 := c.toNat_lt
  have e : ∀ d : UInt8, Nat.beq c.toNat d.toNat = (c == d) := fun d => by
    rw [Bool.eq_iff_iff, Nat.beq_eq, beq_iff_eq]
    exact UInt8.toNat_inj
  have e1 := e 48
  have e2 := e 49
  have e3 := e 120
  simp only [setA, List.getElem?_map, List.getElem?_range hc, Option.map_some]
  rw [← e1, ← e2, ← e3]
  rfl
theorem c239 : calV U 239 [.str [48, 49, 120]] = some (.tup [.agg setA, .bool true]) := v_of_q (by kernel_rfl) rfl (callQ_run U (n := 100000) (by kernel_rfl))
end Go.Am

set_option linter.all false
namespace Go.Am
open Go
variable [MaxLen]
set_option maxRecDepth 100000
set_option maxHeartbeats 8000000

theorem sls_hi (b : Str) (k : IntKind) (n : Int) : slRS (.str b) none (some (.int k n)) = if 0 ≤ n ∧ n ≤ b.length then some (.str (b.take n.toNat)) else none := by
  simp only [slRS, boundA]
  by_cases h : 0 ≤ n ∧ n ≤ b.length
  · simp [h]
  · simp [h]
theorem sls_lo (b : Str) (k : IntKind) (n : Int) : slRS (.str b) (some (.int k n)) none = if 0 ≤ n ∧ n ≤ b.length then some (.str (b.drop n.toNat)) else none := by
  simp only [slRS, boundA]
  by_cases h : 0 ≤ n ∧ n ≤ b.length
  · simp [h]
  · simp [h]
attribute [go_sem] sls_hi sls_lo

theorem c263 (c : UInt8) : calV U 263 [.fp setA 0, .int .u8 c.toNat] = some (.bool (c == 48 || c == 49 || c == 120)) := by
  have hc : c.toNat < 256 := c.toNat_lt
  have hx := setA_get c
  have h0 : (0 : Int) ≤ (c.toNat : Int) := by omega
  refine pure_go k263 (by kernel_rfl) rfl ?_
  simp +contextual only [go_sem, ↓reduceIte, r263, hx, hc, Nat.mul_one, i_toNat]
def inSet (c : UInt8) : Bool := c == 48 || c == 49 || c == 120
def trimRt (s : Str) : Str := (s.reverse.dropWhile inSet).reverse
theorem trimRt_last (l : Str) (c : UInt8) : trimRt (l ++ [c]) = bif inSet c then trimRt l else l ++ [c] := by
  unfold trimRt
  rw [List.reverse_append, List.reverse_singleton, List.singleton_append, List.dropWhile_cons]
  cases inSet c <;> simp
theorem trim_all (s : Str) : ((trimRt s).dropWhile inSet == []) = s.all inSet := by
  have h1 : ∀ l : Str, (l.dropWhile inSet = []) ↔ l.all inSet = true := fun l => by
    induction l with
    | nil => simp
    | cons c l ih =>
      rw [List.dropWhile_cons, List.all_cons]
      cases h : inSet c <;> simp [ih]
  rw [Bool.eq_iff_iff, beq_iff_eq, h1]
  unfold trimRt
  rw [List.all_reverse]
  constructor
  · intro h
    have h2 : s.reverse.dropWhile inSet = [] := by
      cases hd : s.reverse.dropWhile inSet with
      | nil => rfl
      | cons c l =>
        exfalso
        rw [hd] at h
        have := List.head?_dropWhile_not (p := inSet) (l := s.reverse)
        rw [hd] at this
        simp only [List.head?_cons] at this
        simp only [List.all_cons, Bool.and_eq_true] at h
        simp [h.1] at this
    rw [h1, List.all_reverse] at h2
    exact h2
  · intro h
    have : s.reverse.dropWhile inSet = [] := by rw [h1, List.all_reverse]; exact h
    rw [this]; rfl
theorem c240 (s : Str) (hl : s.length < 2 ^ 30) : calV U 240 [.str s, .fp setA 0] = some (.str (s.dropWhile inSet)) := by
  refine pure_go k240 (by kernel_rfl) rfl ?_
  simp +contextual only [go_sem, ↓reduceIte, r240]
  refine loop_to (σ := Str) (fun x => x.length) (fun x => some (AV.str (x.dropWhile inSet))) (fun x e s => Env.get e 0 = .str x ∧ Env.get e 1 = .fp setA 0) s ?_ rfl ?_
  · rintro L x e s ⟨h0, h1⟩ ih
    cases x with
    | nil =>
      simp +contextual only [go_sem, ↓reduceIte, r240_l0, h0, h1, gt_iff_lt, Int.natCast_zero, Int.lt_irrefl]
      rfl
    | cons c l =>
      have hp : (0 : Int) < ((l.length + 1 : Nat) : Int) := by omega
      have hle : ((0 : Int) ≤ 1 ∧ (1 : Int) ≤ ((l.length + 1 : Nat) : Int)) := by omega
      simp +contextual only [go_sem, ↓reduceIte, r240_l0, h0, h1, gt_iff_lt, hp, c263, hle]
      rw [List.dropWhile_cons]
      cases hc : inSet c
      · have hc' : (c == 48 || c == 49 || c == 120) = false := hc
        simp +contextual only [go_sem, ↓reduceIte, hc', Bool.not_false]
        rfl
      · have hc' : (c == 48 || c == 49 || c == 120) = true := hc
        simp +contextual only [go_sem, ↓reduceIte, hc', Bool.not_true]
        refine ih l _ _ (by simp) ⟨?_, ?_⟩ <;> simp +contextual only [go_sem, ↓reduceIte, h0, h1] <;> rfl
  · refine ⟨?_, ?_⟩ <;> simp +contextual only [go_sem, ↓reduceIte]
end Go.Am

set_option linter.all false
namespace Go.Am
open Go
variable [MaxLen]
set_option maxRecDepth 100000
set_option maxHeartbeats 8000000

theorem cz_of {f : FuncId} {us : List AV} {v : AV} (h : calV U f us = some v) (hp : isPure f = true) (hst : stills us = true) (hf : flat v = true) (s : St) : calZ U f (some us) s = some (v, s) := by
  have h := calV_eq h (ownSt U)
  obtain ⟨p1, p2⟩ := isPure_of hp
  unfold cal callF at h
  rw [p2] at h
  simp only [p1, if_true, callP, frzArgs, hst] at h
  split at h
  · rename_i w hq
    cases h
    refine calZ_some U s ?_
    unfold callQ at hq ⊢
    split at hq
    · rename_i v0 s' hB
      simp only [if_true] at hq
      have := flat_frz s' _ _ _ hq hf
      subst this

      simp [hf]
    · cases hq
  · cases h
theorem c241 (s : Str) (hl : s.length < 2 ^ 30) : calV U 241 [.str s, .fp setA 0] = some (.str (trimRt s)) := by
  refine pure_go k241 (by kernel_rfl) rfl ?_
  simp +contextual only [go_sem, ↓reduceIte, r241]
  refine loop_to (σ := Str) (fun x => x.length) (fun x => some (AV.str (trimRt x))) (fun x e s => x.length < 2 ^ 30 ∧ Env.get e 0 = .str x ∧ Env.get e 1 = .fp setA 0) s ?_ rfl ?_
  · rintro L x e s ⟨hx, h0, h1⟩ ih
    rcases List.eq_nil_or_concat x with rfl | ⟨l, c, rfl⟩
    · simp +contextual only [go_sem, ↓reduceIte, r241_l0, h0, h1, gt_iff_lt, Int.natCast_zero, Int.lt_irrefl]
      rfl
    · rw [List.concat_eq_append] at *
      have hlen : (l ++ [c]).length = l.length + 1 := by simp
      have hp : (0 : Int) < ((l.length + 1 : Nat) : Int) := by omega
      have hw : IntKind.i64.wrap (((l.length + 1 : Nat) : Int) - 1) = (l.length : Int) := by rw [wrap_i64] <;> omega
      have hi : (l ++ [c])[l.length]? = some c := by simp
      have hle : ((0 : Int) ≤ (l.length : Int) ∧ (l.length : Int) ≤ ((l.length + 1 : Nat) : Int)) := by omega
      have htk : (l ++ [c]).take l.length = l := by simp
      simp +contextual only [go_sem, ↓reduceIte, r241_l0, h0, h1, gt_iff_lt, hlen, hp, hw, hi, c263, hle, htk]
      rw [trimRt_last]
      cases hc : inSet c
      · have hc' : (c == 48 || c == 49 || c == 120) = false := hc
        simp +contextual only [go_sem, ↓reduceIte, hc', Bool.not_false]
      · have hc' : (c == 48 || c == 49 || c == 120) = true := hc
        simp +contextual only [go_sem, ↓reduceIte, hc', Bool.not_true]
        refine ih l _ _ (by simp) ⟨by omega, ?_, ?_⟩ <;> simp +contextual only [go_sem, ↓reduceIte, h0, h1]
  · refine ⟨hl, ?_, ?_⟩ <;> simp +contextual only [go_sem, ↓reduceIte]
theorem lay_full : ∀ (vs c : List AV), vs.length = c.length → lay 0 vs c = some vs
  | [], [], _ => rfl
  | v :: vs, x :: c, h => by
    simp only [lay]
    rw [lay_full vs c (by simpa using h)]
theorem trimRt_len (s : Str) : (trimRt s).length ≤ s.length := by
  unfold trimRt
  rw [List.length_reverse]
  refine Nat.le_trans (List.Sublist.length_le (List.dropWhile_sublist _)) ?_
  rw [List.length_reverse]; exact Nat.le_refl _
theorem frz_setA (s : St) (d : Nat) : mapO (frz U s (d + 1)) setA = some setA := by
  have : ∀ l : List AV, (∀ x ∈ l, ∃ b, x = .bool b) → mapO (frz U s (d + 1)) l = some l := by
    intro l
    induction l with
    | nil => intro _; rfl
    | cons x l ih =>
      intro h
      obtain ⟨b, rfl⟩ := h x (List.mem_cons_self ..)
      rw [mapO, ih fun y hy => h y (List.mem_cons_of_mem _ hy)]
      rfl
  refine this _ fun x hx => ?_
  simp only [setA, List.mem_map] at hx
  obtain ⟨n, _, rfl⟩ := hx
  exact ⟨_, rfl⟩
theorem z241 {args : List AV} {s : St} (h : stills args = false) : callK U (calV U 241 args) 241 args s = calZ U 241 (mapO (frz U s 40) args) s := z_of (by kernel_rfl) s h
theorem z240 {args : List AV} {s : St} (h : stills args = false) : callK U (calV U 240 args) 240 args s = calZ U 240 (mapO (frz U s 40) args) s := z_of (by kernel_rfl) s h
theorem cz241 (x : Str) (hl : x.length < 2 ^ 30) (s : St) : calZ U 241 (some [.str x, .fp setA 0]) s = some (.str (trimRt x), s) := cz_of (c241 x hl) (by kernel_rfl) rfl rfl s
theorem cz240 (x : Str) (hl : x.length < 2 ^ 30) (s : St) : calZ U 240 (some [.str x, .fp setA 0]) s = some (.str (x.dropWhile inSet), s) := cz_of (c240 x hl) (by kernel_rfl) rfl rfl s
theorem c212 (s : Str) (hl : s.length < 2 ^ 30) : calV U 212 [.str s, .str [48, 49, 120]] = some (.str ((trimRt s).dropWhile inSet)) := by
  refine pure_go k212 (by kernel_rfl) rfl ?_
  have e0 : (([48, 49, 120] : Str) == []) = false := rfl
  have e4 : (((3 : Nat) : Int) == 1) = false := rfl
  have hl2 : (trimRt s).length < 2 ^ 30 := by have := trimRt_len s; omega
  have hly : ∀ z : List AV, z.length = 256 → lay 0 setA z = some setA := fun z hz => lay_full _ _ (by rw [setA_len, hz])
  simp (config := { maxSteps := 1000000 }) +contextual only [go_sem, ↓reduceIte, r212, e0, e4, br_ff, Bool.or_false, Bool.false_and, br_false, c239, setA_len, setA_noAgg, hly, z241, z240, frz_setA, cz241 s hl, cz240 _ hl2]
  cases s with
  | nil => rfl
  | cons c s => rfl
end Go.Am

set_option linter.all false
namespace Go.Am
open Go
variable [MaxLen]
set_option maxRecDepth 100000
set_option maxHeartbeats 8000000

theorem any_not_all (s : Str) : (s.any fun c => c != 48 && c != 49 && c != 120) = !s.all inSet := by
  induction s with
  | nil => rfl
  | cons c s ih =>
    rw [List.any_cons, List.all_cons, ih, inSet]
    have e : (c != 48 && c != 49 && c != 120) = !(c == 48 || c == 49 || c == 120) := by
      simp [bne, Bool.and_assoc]
    rw [e]
    cases (c == 48 || c == 49 || c == 120) <;> rfl
theorem c158 (lines : Int) (pat : Str) (hl : pat.length < 2 ^ 30) : calV U 158 [.int .i64 lines, .str pat] = some (.int .i64 (checkPat lines pat)) := by
  refine pure_go k158 (by kernel_rfl) rfl ?_
  simp +contextual only [go_sem, ↓reduceIte, r158, c212 pat hl, c116, trim_all, br_tt]
  rw [checkPat, badPat, any_not_all]
theorem c157 (d : Kd) (k : Str) (a b mi ma : Int) (pat : Str) (nl : Bool) (kids : List Cond) :
    calV U 157 [kindV d, encC (.mk k a b mi ma pat nl kids)] = some (.bool (!(usesOf d).a && a != 0 || !(usesOf d).b && b != 0 || !(usesOf d).mi && mi != 0 || !(usesOf d).ma && ma != 0 || !(usesOf d).pat && !pat == [] || !(usesOf d).kids && decide ((kids.length : Int) > 0))) := by
  have hs : stills [kSize d, kStart d, kStep d] = true := by cases d <;> rfl
  have hn : noAgg (kSize d) = true ∧ noAgg (kStart d) = true ∧ noAgg (kStep d) = true := by cases d <;> exact ⟨rfl, rfl, rfl⟩
  obtain ⟨n1, n2, n3⟩ := hn
  simp only [stills, Bool.and_true, Bool.and_eq_true] at hs
  obtain ⟨s1, s2, s3⟩ := hs
  refine pure_go k157 (by kernel_rfl) (by simp [stills, still, kindV, encC, still_encS, s1, s2, s3]) ?_
  rw [kindV, encC]
  generalize kSize d = A1 at *
  generalize kStart d = A2 at *
  generalize kStep d = A3 at *
  simp (config := { maxSteps := 1000000 }) +contextual only [go_sem, ↓reduceIte, r157, lenL_encS, encL_len, n1, n2, n3, noAgg_encS, br_tt]
theorem cz89 (l : List Int) (hl : l.length < 2 ^ 62) (s : St) : calZ U 89 (some [.fz (ints l)]) s = some (.int .i64 (firstOf l), s) :=
  cz_of (pure_go k89 (by kernel_rfl) (by simp [stills, still]) (g89 l hl)) (by kernel_rfl) (by simp [stills, still]) rfl s
theorem cz89_2 (a b : Int) (s : St) : calZ U 89 (some [.fz [.int .i64 a, .int .i64 b]]) s = some (.int .i64 (firstOf [a, b]), s) := cz89 [a, b] (by simp) s
theorem cz89_3 (a b c : Int) (s : St) : calZ U 89 (some [.fz [.int .i64 a, .int .i64 b, .int .i64 c]]) s = some (.int .i64 (firstOf [a, b, c]), s) := cz89 [a, b, c] (by simp) s
theorem cz89_4 (a b c d : Int) (s : St) : calZ U 89 (some [.fz [.int .i64 a, .int .i64 b, .int .i64 c, .int .i64 d]]) s = some (.int .i64 (firstOf [a, b, c, d]), s) := cz89 [a, b, c, d] (by simp) s
theorem cz89_7 (a b c d e f g : Int) (s : St) : calZ U 89 (some [.fz [.int .i64 a, .int .i64 b, .int .i64 c, .int .i64 d, .int .i64 e, .int .i64 f, .int .i64 g]]) s = some (.int .i64 (firstOf [a, b, c, d, e, f, g]), s) := cz89 [a, b, c, d, e, f, g] (by simp) s
theorem z89 {args : List AV} {s : St} (h : stills args = false) : callK U (calV U 89 args) 89 args s = calZ U 89 (mapO (frz U s 40) args) s := z_of (by kernel_rfl) s h
end Go.Am

set_option linter.all false
namespace Go.Am
open Go
variable [MaxLen]
set_option maxRecDepth 100000
set_option maxHeartbeats 8000000

theorem l90 (lines depth : Int) (nl : Bool) (kids : List Cond) (f2 : kids.length < 2 ^ 30) (hc : ∀ x ∈ kids, calV U 90 [.int .i64 lines, encC x, .int .i64 (IntKind.i64.wrap (depth + 1))] = some (.int .i64 (ckP lines x (IntKind.i64.wrap (depth + 1)))))
    (err : Int) {e : Env} {s : St} (h0 : Env.get e 0 = .int .i64 lines) (h2 : Env.get e 2 = .int .i64 depth) (h10 : Env.get e 10 = .int .i64 err) (h141 : Env.get e 141 = encS nl (encL kids)) (h142 : Env.get e 142 = .int .i64 kids.length) (h143 : Env.get e 143 = .int .i64 0) {ks : List K}
    (hk : ∀ e' s' x, Env.get e' 10 = .int .i64 x → goX U (finP U [.tmp 6]) ks 0 e' s' = some (.int .i64 x)) :
    goL U (finP U [.tmp 6]) ks r90_l0 e s = some (.int .i64 (ckPL lines kids (IntKind.i64.wrap (depth + 1)) err)) := by
  refine loop_to (σ := Nat × Int) (fun x => kids.length - x.1) (fun x => some (AV.int .i64 (ckPL lines (kids.drop x.1) (IntKind.i64.wrap (depth + 1)) x.2))) (fun x e s => x.1 ≤ kids.length ∧ Env.get e 0 = .int .i64 lines ∧ Env.get e 2 = .int .i64 depth ∧ Env.get e 10 = .int .i64 x.2 ∧ Env.get e 141 = encS nl (encL kids) ∧ Env.get e 142 = .int .i64 kids.length ∧ Env.get e 143 = .int .i64 x.1) (0, err) ?_ rfl ⟨Nat.zero_le _, h0, h2, h10, h141, h142, h143⟩
  clear h0 h2 h10 h141 h142 h143 err e s
  rintro L ⟨i, err⟩ e s ⟨hi, h0, h2, h10, h141, h142, h143⟩ IH
  simp only at hi h0 h2 h10 h141 h142 h143 IH ⊢
  by_cases hd : i < kids.length
  · have hx : (encL kids)[i]? = some (encC kids[i]) := by rw [encL_get, List.getElem?_eq_getElem hd]; rfl
    have hw := wrap_succ hd (by omega)
    have hci := hc kids[i] (List.getElem_mem hd)
    rw [encC_cells] at hx hci
    simp only [Cond.cells] at hx hci
    rw [encS_ne (encL_ne hd)] at h141
    simp +contextual only [go_sem, ↓reduceIte, r90_l0, h0, h2, h10, h141, h142, h143, nat_lt_dec, hd, hx, hci, noAgg_encS]
    rw [List.drop_eq_getElem_cons hd, ckPL]
    cases hb : err == 0
    · simp only [go_sem, ↓reduceIte, hw]
      refine IH (i + 1, _) _ _ (by simp only; omega) ⟨by simp only; omega, ?_, ?_, ?_, ?_, ?_, ?_⟩ <;> simp +contextual only [go_sem, ↓reduceIte, h0, h2, h10, h141, h142, h143, hw, encS_ne (encL_ne hd)]
    · simp only [go_sem, ↓reduceIte, hw]
      refine IH (i + 1, _) _ _ (by simp only; omega) ⟨by simp only; omega, ?_, ?_, ?_, ?_, ?_, ?_⟩ <;> simp +contextual only [go_sem, ↓reduceIte, h0, h2, h10, h141, h142, h143, hw, encS_ne (encL_ne hd)]
  · have : i = kids.length := by omega
    subst this
    simp +contextual only [go_sem, ↓reduceIte, r90_l0, h142, h143, nat_lt_dec, Nat.lt_irrefl]
    rw [List.drop_length, ckPL]
    exact hk _ _ _ (by simp +contextual only [go_sem, ↓reduceIte, h10])
theorem c90 (lines : Int) : ∀ c : Cond, c.fits → ∀ depth : Int, calV U 90 [.int .i64 lines, encC c, .int .i64 depth] = some (.int .i64 (ckP lines c depth)) := by
  intro c
  induction c using Cond.ind with
  | h kind a b mi ma pat nl kids ih =>
  intro hf depth
  rw [Cond.fits] at hf
  obtain ⟨f1, f2, f3⟩ := hf
  refine pure_go k90 (by kernel_rfl) (stills1 _ _ _) ?_
  have h157 := c157 (kdOf kind) kind a b mi ma pat nl kids
  have hs : stills [kSize (kdOf kind), kStart (kdOf kind), kStep (kdOf kind)] = true := by cases kdOf kind <;> rfl
  have hn : noAgg (kSize (kdOf kind)) = true ∧ noAgg (kStart (kdOf kind)) = true ∧ noAgg (kStep (kdOf kind)) = true := by cases kdOf kind <;> exact ⟨rfl, rfl, rfl⟩
  obtain ⟨n1, n2, n3⟩ := hn
  have hk1 := lookup_kinds1 kind
  rw [kindV] at h157 hk1
  rw [encC] at h157 ⊢
  rw [ckP]
  generalize kSize (kdOf kind) = A1 at *
  generalize kStart (kdOf kind) = A2 at *
  generalize kStep (kdOf kind) = A3 at *
  generalize hu : usesOf (kdOf kind) = u at *
  generalize hk : (kdOf kind).known = kn at *
  simp (config := { maxSteps := 4000000 }) +contextual only [go_sem, ↓reduceIte, r90, c156, hk1, h157, c116, c124, c158 _ _ f1, z89, cz89_2, cz89_7, lenL_encS, encL_len, n1, n2, n3, noAgg_encS, cells_encS, br_tt]
  obtain ⟨ua, ub, umi, uma, up, uk⟩ := u
  simp only
  cases up
  · simp only [br_true, br_false, brI_some]
    refine br_r fun _ => br_r fun _ => ?_
    cases hnot : kind == [110, 111, 116]
    all_goals
      simp only [go_sem, ↓reduceIte, br_true, br_false]
      refine l90 lines depth nl kids f2 (fun x hx => ih x hx (f3 x hx) _) _ ?_ ?_ ?_ ?_ ?_ ?_ ?_
      rotate_right 1
      · intro e' s' x h
        simp +contextual only [go_sem, ↓reduceIte, h]
      all_goals simp +contextual only [go_sem, ↓reduceIte, lenL_encS, encL_len]
      all_goals try rfl
  · simp only [br_true, br_false, brI_some]
    refine br_r fun _ => br_r fun _ => ?_
    cases hnot : kind == [110, 111, 116]
    all_goals
      simp only [go_sem, ↓reduceIte, br_true, br_false]
      refine l90 lines depth nl kids f2 (fun x hx => ih x hx (f3 x hx) _) _ ?_ ?_ ?_ ?_ ?_ ?_ ?_
      rotate_right 1
      · intro e' s' x h
        simp +contextual only [go_sem, ↓reduceIte, h]
      all_goals simp +contextual only [go_sem, ↓reduceIte, lenL_encS, encL_len]
      all_goals try rfl
end Go.Am

set_option linter.all false
namespace Go.Am
open Go
variable [MaxLen]
set_option maxRecDepth 100000
set_option maxHeartbeats 8000000

def cpPL (lines : Int) : Nat → List Step → Int
  | _, [] => 0
  | i, s :: l => br (firstOf [ckP lines s.cond 1, within s.times 1 64, within s.within 0 255, br ((i : Int) == 0 && s.within != 0) 3 0] != 0) (firstOf [ckP lines s.cond 1, within s.times 1 64, within s.within 0 255, br ((i : Int) == 0 && s.within != 0) 3 0]) <| cpPL lines (i + 1) l
def cpP (p : Prog) : Int :=
  br (firstOf [within p.lines 1 16, br ((p.steps.length : Int) == 0) 12 0, br (decide ((p.steps.length : Int) > 8)) 5 0] != 0) (firstOf [within p.lines 1 16, br ((p.steps.length : Int) == 0) 12 0, br (decide ((p.steps.length : Int) > 8)) 5 0]) <| cpPL p.lines 0 p.steps
theorem get8 {s : St} (h : 8 < s.next) : (∀ k, (s.next + k = 8) = False) ∧ (s.next = 8) = False := ⟨fun k => by simp; omega, by simp; omega⟩

theorem c64 (p : Prog) (hf : p.fits) : calV U 64 [encP p] = some (.int .i64 (cpP p)) := by
  obtain ⟨lines, nl, steps⟩ := p
  obtain ⟨f1, f2⟩ := hf
  simp only at f1 f2
  refine pure_go k64 (by kernel_rfl) (by simp [stills, still_encP]) ?_
  rw [encP_eq, cpP]
  simp (config := { maxSteps := 2000000 }) +contextual only [go_sem, ↓reduceIte, r64, c88, c116, z89, cz89_3, lenL_encS, encSteps_len, cells_encS, noAgg_encS]
  simp only [brI_some]
  refine br_r fun _ => ?_
  refine loop_to (σ := Nat) (fun i => steps.length - i) (fun i => some (AV.int .i64 (cpPL lines i (steps.drop i)))) (fun i e s => i ≤ steps.length ∧ Env.get e 28 = .int .i64 i ∧ Env.get e 1 = .ptr 8 0 ∧ Env.get e 26 = encS nl (encSteps steps) ∧ Env.get e 27 = .int .i64 steps.length ∧ 8 < s.next ∧ Fr s ∧
    s.get 8 = some (.cells [.int .i64 lines, encS nl (encSteps steps)] 25 false 0 0)) 0 ?_ rfl ?_
  · rintro L i e s ⟨hi, h28, h1, h26, h27, hn, hfr, hs⟩ IH
    by_cases hd : i < steps.length
    · have hx : (encSteps steps)[i]? = some (encStep steps[i]) := by rw [encSteps_get, List.getElem?_eq_getElem hd]; rfl
      have hw := wrap_succ hd (by omega)
      obtain ⟨g8, g8'⟩ := get8 hn
      have hc := c90 lines steps[i].cond (f2 _ (List.getElem_mem hd)) 1
      rw [encS_ne (encSteps_ne hd)] at hs h26
      rw [encC_cells] at hc
      simp only [Cond.cells, encStep] at hx hc
      have hfk := hfr.at
      simp +contextual only [go_sem, ↓reduceIte, r64_l0, h28, h1, h26, h27, hs, nat_lt_dec, hd, encSteps_len, hx, hc, g8, g8', noAgg_encS, c124, c116, z89, cz89_4, hfk, Nat.add_assoc, Nat.left_eq_add]
      rw [List.drop_eq_getElem_cons hd, cpPL]
      simp only [brI_some]
      refine br_r fun _ => ?_
      simp only [hw]
      refine IH (i + 1) _ _ (by omega) ⟨by omega, ?_, ?_, ?_, ?_, ?_, ?_, ?_⟩
      case refine_6 =>
        repeat first | exact hfr | apply Fr.new | apply Fr.put | apply Fr.upto
        all_goals simp +contextual only [go_sem, ↓reduceIte]
        all_goals omega
      all_goals simp +contextual only [go_sem, ↓reduceIte, h28, h1, h26, h27, hs, hw, g8, g8', encS_ne (encSteps_ne hd)]
      all_goals omega
    · have : i = steps.length := by omega
      subst this
      simp +contextual only [go_sem, ↓reduceIte, r64_l0, h28, h27, nat_lt_dec, Nat.lt_irrefl]
      rw [List.drop_length, cpPL]
  · refine ⟨Nat.zero_le _, ?_, ?_, ?_, ?_, ?_, ?_, ?_⟩
    case refine_6 =>
      repeat first | exact Fr.own | apply Fr.new | apply Fr.put | apply Fr.upto
      all_goals simp +contextual only [go_sem, ↓reduceIte]
    all_goals simp +contextual only [go_sem, ↓reduceIte]
    all_goals rfl
end Go.Am

set_option linter.all false
namespace Go.Am
open Go
variable [MaxLen]
set_option maxRecDepth 100000

/-! # Rows that grow by append -/
section
variable (X : Cx)
def srcG (len : Nat) (x : Option (List AV)) : Option (Nat × List AV) := match x with
  | some r => some (len, r)
  | none => none
def srcK (len k o : Nat) (x : Option (List AV)) : Option (Nat × List AV) := match x with
  | some c => srcG len (grab k o c)
  | none => none
theorem srcG_some (len : Nat) (r : List AV) : srcG len (some r) = some (len, r) := (fun h => h) rfl
theorem srcK_some (len k o : Nat) (c : List AV) : srcK len k o (some c) = srcG len (grab k o c) := (fun h => h) rfl
theorem source_sl (n b o len : Nat) (cap : Option Nat) (z : Nat) (s : St) : sourceA n (.sl b o len cap z) s = srcK len (len * n) o (cellsOf (s.get b)) := by
  simp only [sourceA, ← cells_get, srcK, srcG]
  rfl
theorem source_nils (n : Nat) (s : St) : sourceA n .nils s = some (0, []) := (fun h => h) rfl
theorem source_str (n : Nat) (l : List UInt8) (s : St) : sourceA n (.str l) s = some (l.length, l.map fun c => .int .u8 c.toNat) := (fun h => h) rfl

def appS (t : TypeId) (n m : Nat) (new : List AV) (b o len : Nat) (esz : Nat) (s : St) (x : Option Blk) : Option (AV × St) := match x with
  | some (.cells c e0 false flo fhi) => match grab (len * n) o c with
    | some old => if esz = n ∧ fhi ≤ o + len * n ∧ e0 = t ∧ new.all noAgg = true then
        some (.sl s.next 0 (len + m) none n, (s.put b .gone).new (.cells (old ++ new) t false (flo - o) (fhi - o)))
      else none
    | none => none
  | _ => none
def appD (t : TypeId) (n m : Nat) (new : List AV) (d : AV) (s : St) : Option (AV × St) := match d with
  | .nils => some (.sl s.next 0 m none n, s.new (.cells new t false 0 0))
  | .sl b o len cap esz => match s.cells b with
    | some c => match grab (len * n) o c with
      | some old =>
        match cap with
        | some k => if len + m ≤ k then
            if esz = n then match writeCells s b (o + len * n) new with
              | some s' => some (.sl b o (len + m) (some k) n, s')
              | none => none
            else none
          else some (.sl s.next 0 (len + m) none n, s.new (.cells (old ++ new) t false 0 0))
        | none => match s.get b with
          | some (.cells _ e0 false flo fhi) =>
            if esz = n ∧ fhi ≤ o + len * n ∧ e0 = t ∧ new.all noAgg = true then
              some (.sl s.next 0 (len + m) none n, (s.put b .gone).new (.cells (old ++ new) t false (flo - o) (fhi - o)))
            else none
          | _ => none
      | none => none
    | none => none
  | _ => none
def app0 (d : AV) (s : St) : Option (AV × St) := match d with
  | .nils => some (d, s)
  | .sl .. => some (d, s)
  | .fz _ => some (d, s)
  | _ => none
def appK (t : TypeId) (n bytes : Nat) (d : AV) (x : Option (Nat × List AV)) (s : St) : Option (AV × St) := match x with
  | some (m, new) =>
    if new.length ≠ m * n ∨ (lenA d + m) * bytes > 2 ^ 40 ∨ lenA d + m > 2 ^ 40 then none
    else if m = 0 then app0 d s else appD t n m new d s
  | none => none
theorem app_eq (t : TypeId) (n bytes : Nat) (d x : AV) (s : St) : appR t n bytes d x s = appK t n bytes d (sourceA n x s) s := by
  unfold appR appK appD app0
  rfl
theorem appK_some {t : TypeId} {n bytes : Nat} {d : AV} {m : Nat} {new : List AV} {s : St} (h1 : new.length = m * n) (h2 : (lenA d + m) * bytes ≤ 2 ^ 40) (h3 : lenA d + m ≤ 2 ^ 40) (h4 : m ≠ 0) :
    appK t n bytes d (some (m, new)) s = appD t n m new d s := by
  simp only [appK]
  rw [if_neg (by omega), if_neg h4]
theorem appK_zero {t : TypeId} {n bytes : Nat} {d : AV} {s : St} (h2 : lenA d * bytes ≤ 2 ^ 40) (h3 : lenA d ≤ 2 ^ 40) : appK t n bytes d (some (0, [])) s = app0 d s := by
  simp only [appK]
  rw [if_neg (by simp; omega)]
  simp
theorem appD_nils (t : TypeId) (n m : Nat) (new : List AV) (s : St) : appD t n m new .nils s = some (.sl s.next 0 m none n, s.new (.cells new t false 0 0)) := (fun h => h) rfl
theorem appD_sl (t : TypeId) (n m : Nat) (new : List AV) (b o len esz : Nat) (s : St) : appD t n m new (.sl b o len none esz) s = appS t n m new b o len esz s (s.get b) := by
  simp only [appD, appS, St.cells]
  cases s.get b with
  | none => rfl
  | some x =>
    cases x <;> simp only
    rename_i c e0 ro lo hi
    cases ro <;> simp only
    cases grab (len * n) o c <;> rfl
theorem appS_cells {t : TypeId} {n m : Nat} {new : List AV} {b len : Nat} {s : St} {cs : List AV} {lo hi : Nat} (hl : cs.length = len * n) (hh : hi ≤ len * n) (hna : new.all noAgg = true) :
    appS t n m new b 0 len n s (some (.cells cs t false lo hi)) = some (.sl s.next 0 (len + m) none n, (s.put b .gone).new (.cells (cs ++ new) t false lo hi)) := by
  simp only [appS]
  rw [← hl, grab_all]
  simp only [true_and]
  rw [if_pos ⟨by omega, hna⟩]
  simp
theorem lenA_nils : lenA .nils = 0 := (fun h => h) rfl
theorem lenA_sl (b o n : Nat) (c : Option Nat) (z : Nat) : lenA (.sl b o n c z) = n := (fun h => h) rfl
theorem lenA_fz (l : List AV) : lenA (.fz l) = l.length := (fun h => h) rfl

/-- a row made by appends: its cells cs, i elements of n cells; its block lies from B on -/
def RowI (s : St) (B : Nat) (t : TypeId) (n i : Nat) (cs : List AV) (v : AV) : Prop :=
  (i = 0 ∧ v = .nils ∧ cs = []) ∨ (0 < i ∧ cs.length = i * n ∧ ∃ b, B ≤ b ∧ b < s.next ∧ v = .sl b 0 i none n ∧ s.get b = some (.cells cs t false 0 0))
theorem RowI.nil (s : St) (B : Nat) (t : TypeId) (n : Nat) : RowI s B t n 0 [] .nils := .inl ⟨rfl, rfl, rfl⟩
theorem RowI.noAgg {s : St} {B : Nat} {t : TypeId} {n i : Nat} {cs : List AV} {v : AV} (h : RowI s B t n i cs v) : noAgg v = true := by
  rcases h with ⟨_, rfl, _⟩ | ⟨_, _, b, _, _, rfl, _⟩ <;> rfl
theorem RowI.cells {s : St} {B : Nat} {t : TypeId} {n i : Nat} {cs : List AV} {v : AV} (h : RowI s B t n i cs v) : v.cells = [v] := by
  rcases h with ⟨_, rfl, _⟩ | ⟨_, _, b, _, _, rfl, _⟩ <;> rfl
theorem RowI.len {s : St} {B : Nat} {t : TypeId} {n i : Nat} {cs : List AV} {v : AV} (h : RowI s B t n i cs v) : lenRL v = some (.int .i64 i) := by
  rcases h with ⟨rfl, rfl, _⟩ | ⟨_, _, b, _, _, rfl, _⟩ <;> rfl

theorem RowI.lenA {s : St} {B : Nat} {t : TypeId} {n i : Nat} {cs : List AV} {v : AV} (h : RowI s B t n i cs v) : Go.Am.lenA v = i := by
  rcases h with ⟨rfl, rfl, _⟩ | ⟨_, _, b, _, _, rfl, _⟩ <;> rfl
theorem RowI.mono {s s' : St} {B : Nat} {t : TypeId} {n i : Nat} {cs : List AV} {v : AV} (h : RowI s B t n i cs v) (hn : s.next ≤ s'.next) (hg : ∀ j, B ≤ j → j < s.next → s'.get j = s.get j) : RowI s' B t n i cs v := by
  rcases h with ⟨h0, h1, h2⟩ | ⟨h0, h1, b, h2, h3, h4, h5⟩
  · exact .inl ⟨h0, h1, h2⟩
  · exact .inr ⟨h0, h1, b, h2, by omega, h4, by rw [hg b h2 h3]; exact h5⟩
/-- one append more -/
theorem RowI.app {s : St} {B : Nat} {t : TypeId} {n i : Nat} {cs : List AV} {v : AV} (h : RowI s B t n i cs v) (hB : B ≤ s.next) {m : Nat} {new : List AV} (hm : m ≠ 0) (hl : new.length = m * n) (hna : new.all Go.Am.noAgg = true) :
    ∃ s1, appD t n m new v s = some (.sl s.next 0 (i + m) none n, s1) ∧ s1.next = s.next + 1 ∧ RowI s1 B t n (i + m) (cs ++ new) (.sl s.next 0 (i + m) none n) ∧ (∀ j, j < B → s1.get j = s.get j) ∧ (Fr s → Fr s1) := by
  rcases h with ⟨rfl, rfl, rfl⟩ | ⟨h0, h1, b, h2, h3, rfl, h5⟩
  · refine ⟨s.new (.cells new t false 0 0), by rw [appD_nils, Nat.zero_add], rfl, .inr ⟨by omega, by rw [Nat.zero_add, List.nil_append]; exact hl, s.next, hB, by rw [next_new]; omega, rfl, by rw [get_new, if_pos rfl]; rfl⟩, fun j hj => by rw [get_new, if_neg (by omega)], fun hf => hf.new _⟩
  · refine ⟨(s.put b .gone).new (.cells (cs ++ new) t false 0 0), by rw [appD_sl, h5, appS_cells h1 (by omega) hna], rfl, .inr ⟨by omega, by rw [List.length_append, h1, hl, Nat.add_mul], s.next, hB, by rw [next_new, next_put]; omega, rfl, ?_⟩, fun j hj => ?_, fun hf => (hf.put h3 _).new _⟩
    · rw [get_new, next_put, if_pos rfl]
    · rw [get_new, next_put, if_neg (by omega), get_put, if_neg (by omega)]
/-- elements of n cells each, written out -/
theorem chunks_enc {A : Type} (enc : A → AV) (n : Nat) (hc : ∀ a, ∃ c, enc a = .agg c ∧ c.length = n) : ∀ l : List A, chunksA true n l.length (l.flatMap fun a => (enc a).cells) = l.map enc
  | [] => rfl
  | a :: l => by
    obtain ⟨c, h1, h2⟩ := hc a
    have ih := chunks_enc enc n hc l
    rw [List.length_cons, chunks_agg, List.flatMap_cons, h1, cells_agg, List.map_cons, h1]
    rw [show (c ++ l.flatMap fun a => (enc a).cells).take n = c from by rw [← h2, List.take_left], show (c ++ l.flatMap fun a => (enc a).cells).drop n = l.flatMap fun a => (enc a).cells from by rw [← h2, List.drop_left], ih]
theorem mapO_self {f : AV → Option AV} : ∀ {l : List AV}, (∀ x ∈ l, f x = some x) → mapO f l = some l
  | [], _ => rfl
  | x :: l, h => by
    rw [mapO, h x (List.mem_cons_self ..), mapO_self fun y hy => h y (List.mem_cons_of_mem _ hy)]
theorem mapO_map {A : Type} {f : AV → Option AV} {g h : A → AV} (H : ∀ a, f (g a) = some (h a)) : ∀ l : List A, mapO f (l.map g) = some (l.map h)
  | [] => rfl
  | a :: l => by rw [List.map_cons, mapO, H a, mapO_map H l, List.map_cons]
theorem flatEnc_len {A : Type} (enc : A → AV) (n : Nat) (hc : ∀ a, ∃ c, enc a = .agg c ∧ c.length = n) : ∀ l : List A, (l.flatMap fun a => (enc a).cells).length = l.length * n
  | [] => by simp
  | a :: l => by
    obtain ⟨c, h1, h2⟩ := hc a
    rw [List.flatMap_cons, List.length_append, flatEnc_len enc n hc l, h1, cells_agg, h2, List.length_cons, Nat.add_mul]; omega
theorem RowI.frz_agg {s : St} {B : Nat} {t : TypeId} {n : Nat} {A : Type} {enc : A → AV} {l : List A} {v : AV} (h : RowI s B t n l.length (l.flatMap fun a => (enc a).cells) v) (hag : isAggT X t = some true) (hsz : size X t = some n) (hn : n ≠ 0)
    (hc : ∀ a, ∃ c, enc a = .agg c ∧ c.length = n) {d : Nat} (hf : ∀ a, frz X s d (enc a) = some (enc a)) : frz X s (d + 1) v = some (encS true (l.map enc)) := by
  rcases h with ⟨h0, rfl, _⟩ | ⟨h0, h1, b, _, _, rfl, hg⟩
  · have : l = [] := List.length_eq_zero_iff.1 h0
    subst this; rfl
  · rw [frz_sl, hg, frzS_cells, ← h1, grab_all, hag, hsz]
    cases n with
    | zero => exact absurd rfl hn
    | succ n =>
      rw [frzT_agg, chunks_enc enc (n + 1) hc, mapO_self (fun x hx => ?_), fzK_some]
      · cases l with
        | nil => simp at h0
        | cons a l => rfl
      · obtain ⟨a, _, rfl⟩ := List.mem_map.1 hx
        exact hf a
theorem RowI.frz_one {s : St} {B : Nat} {t : TypeId} {l : List AV} {v : AV} (h : RowI s B t 1 l.length l v) (hag : isAggT X t = some false) (hsz : size X t = some 1) (hna : l.all Go.Am.noAgg = true)
    {d : Nat} {r : List AV} (hf : mapO (frz X s d) l = some r) : frz X s (d + 1) v = some (encS true r) := by
  rcases h with ⟨h0, rfl, _⟩ | ⟨h0, h1, b, _, _, rfl, hg⟩
  · have : l = [] := List.length_eq_zero_iff.1 h0
    subst this
    simp only [mapO] at hf; cases hf; rfl
  · rw [frz_sl, hg, frzS_cells, Nat.mul_one, grab_all, hag, hsz, frzT_one, if_pos hna, chunks_all, hf, fzK_some]
    cases r with
    | nil =>
      exfalso
      cases l with
      | nil => simp at h0
      | cons a l =>
        simp only [mapO] at hf
        split at hf <;> cases hf
    | cons a r => rfl
end
attribute [go_sem] srcG_some srcK_some source_sl source_nils source_str app_eq appD_nils appD_sl lenA_nils lenA_sl lenA_fz
end Go.Am

set_option linter.all false
namespace Go.Am
open Go
variable [MaxLen]
set_option maxRecDepth 100000
set_option maxHeartbeats 8000000

mutual
def Cond.norm : Cond → Cond
  | .mk k a b mi ma p _ kids => .mk k a b mi ma p true (normL kids)
def normL : List Cond → List Cond
  | [] => []
  | c :: l => c.norm :: normL l
end
theorem normL_map : ∀ l, normL l = l.map Cond.norm
  | [] => by simp [normL]
  | c :: l => by simp [normL, normL_map l]
theorem encC_agg (c : Cond) : ∃ l, encC c = .agg l ∧ l.length = 7 := ⟨_, encC_cells c, rfl⟩
theorem frz_encC (s : St) (d : Nat) (c : Cond) : frz U s (d + 2) (encC c) = some (encC c) := by
  rw [encC_cells]
  simp only [Cond.cells, frz_agg, mapO_cons, mapO_nil, frz_str, frz_int, frz_encS, resK_some, aggK_some]
theorem encL_enc (l : List Cond) : encL l = l.map encC := encL_map l

theorem c24 : ∀ c : Cond, c.fits → calV U 24 [encC c] = some (encC c.norm) := by
  intro c
  induction c using Cond.ind with
  | h kind a b mi ma pat nl kids ih =>
  intro hf
  rw [Cond.fits] at hf
  obtain ⟨f1, f2, f3⟩ := hf
  refine pure_go k24 (by kernel_rfl) (by simp [stills, still_encC]) ?_
  rw [encC, Cond.norm]
  simp (config := { maxSteps := 2000000 }) +contextual only [go_sem, ↓reduceIte, r24, lenL_encS, encL_len, cells_encS, noAgg_encS]
  refine loop_to (σ := Nat) (fun i => kids.length - i) (fun i => some (encC (.mk kind a b mi ma pat true (normL kids)))) (fun i e s => i ≤ kids.length ∧ Env.get e 1 = .ptr 8 0 ∧ Env.get e 2 = .ptr 9 0 ∧ Env.get e 3 = .ptr 10 0 ∧ Env.get e 4 = .int .i64 i ∧ 10 < s.next ∧ Fr s ∧
    s.get 8 = some (.cells [.str kind, .int .i64 a, .int .i64 b, .int .i64 mi, .int .i64 ma, .str pat, encS nl (encL kids)] 39 false 0 0) ∧ s.get 9 = some (.cells [.str [], .int .i64 0, .int .i64 0, .int .i64 0, .int .i64 0, .str [], .nils] 48 false 0 0) ∧
    ∃ v, s.get 10 = some (.cells [.str kind, .int .i64 a, .int .i64 b, .int .i64 mi, .int .i64 ma, .str pat, v] 48 false 0 0) ∧ RowI s 11 48 7 i ((kids.take i).flatMap fun c => (encC c.norm).cells) v) 0 ?_ rfl ?_
  · rintro L i e s ⟨hi, h1, h2, h3, h4, hn, hfr, hs8, hs9, v, hs10, hv⟩ IH
    have ne : ∀ a k, a ≤ 10 → (s.next + k = a) = False := fun a k ha => by simp; omega
    have ne' : ∀ a, a ≤ 10 → (s.next = a) = False := fun a ha => by simp; omega
    have hfk := hfr.at
    by_cases hd : i < kids.length
    · have hx : (encL kids)[i]? = some (encC kids[i]) := by rw [encL_get, List.getElem?_eq_getElem hd]; rfl
      have hw := wrap_succ hd (by omega)
      have hc := ih kids[i] (List.getElem_mem hd) (f3 _ (List.getElem_mem hd))
      rw [encC_cells] at hc
      rw [encC_cells] at hx hc
      simp only [Cond.cells] at hx hc
      rw [encS_ne (encL_ne hd)] at hs8
      have hb1 : (i + 1) * 88 ≤ 1099511627776 := by omega
      have hb2 : i + 1 ≤ 1099511627776 := by omega
      have htk : (kids.take (i + 1)).flatMap (fun c => (encC c.norm).cells) = (kids.take i).flatMap (fun c => (encC c.norm).cells) ++ kids[i].norm.cells := by
        rw [List.take_succ_eq_append_getElem hd, List.flatMap_append, List.flatMap_singleton, encC_cells]; rfl
      simp only [Cond.cells] at htk
      have hla := hv.lenA
      have hna := hv.noAgg
      simp +contextual only [go_sem, ↓reduceIte, r24_l0, h1, h2, h3, h4, hs8, hs9, hs10, nat_lt_dec, hd, encL_len, hx, hc, ne, ne', noAgg_encS, hfk, appK_some, Nat.reducePow, Nat.one_mul, hla, hna, hb1, hb2]
      have hv0 : RowI ((s.upto (s.next + 12)).put (s.next + 8) (.cells kids[i].norm.cells 48 false 0 0)) 11 48 7 i ((kids.take i).flatMap fun c => (encC c.norm).cells) v := hv.mono (by rw [next_put, upto_next]; omega) fun j _ hj => by rw [get_put, upto_get, if_neg (by omega)]
      obtain ⟨s1, e1, e2, e3, e4, e5⟩ := hv0.app (by rw [next_put, upto_next]; omega) (m := 1) (new := kids[i].norm.cells) (by omega) (by rfl) (by simp only [Cond.cells, go_sem, noAgg_encS])
      simp only [Cond.cells] at e1 e3 e4 e5
      have k8 := e4 8 (by omega)
      have k9 := e4 9 (by omega)
      have k10 := e4 10 (by omega)
      simp only [get_put, upto_get, ne, ↓reduceIte, hs8, hs9, hs10, Nat.reduceLeDiff, next_put, upto_next] at k8 k9 k10 e2
      rw [e1]
      simp +contextual only [go_sem, ↓reduceIte, h3, k10, noAgg_encS, hw, h4]
      refine IH (i + 1) _ _ (by omega) ⟨by omega, ?_, ?_, ?_, ?_, ?_, ?_, ?_, ?_, .sl (s.next + 12) 0 (i + 1) none 7, ?_, ?_⟩
      case refine_10 =>
        rw [htk]
        exact e3.mono (by rw [next_put]; omega) fun j hj _ => by rw [get_put, if_neg (by omega)]
      case refine_9 => rw [get_put, if_pos rfl]
      case refine_6 =>
        refine (e5 ?_).put (by omega) _
        exact (hfr.upto (by omega)).put (by rw [upto_next]; omega) _
      all_goals simp +contextual only [go_sem, ↓reduceIte, h1, h2, h3, k8, k9, e2, encS_ne (encL_ne hd), Nat.reduceEqDiff]
      all_goals omega
    · have : i = kids.length := by omega
      subst this
      rw [List.take_length] at hv
      have hv1 : ∀ x, RowI (s.put 9 x) 11 48 7 (kids.map Cond.norm).length ((kids.map Cond.norm).flatMap fun c => (encC c).cells) v := fun x => by
        rw [List.length_map, List.flatMap_map]
        exact hv.mono (by rw [next_put]; omega) fun j hj _ => by rw [get_put, if_neg (by omega)]
      have hfz : ∀ x d, frz U (s.put 9 x) (d + 3) v = some (encS true (encL (normL kids))) := fun x d => by
        rw [(hv1 x).frz_agg U ag_48 sz_48 (by omega) encC_agg (d := d + 2) (fun a => frz_encC _ _ _), encL_map, normL_map]
      have hna := hv.noAgg
      simp +contextual only [go_sem, ↓reduceIte, r24_l0, h1, h2, h3, h4, hs8, hs9, hs10, nat_lt_dec, Nat.lt_irrefl, lenL_encS, encL_len, hna, hfz]
      rw [encC]
  · refine ⟨Nat.zero_le _, ?_, ?_, ?_, ?_, ?_, ?_, ?_, ?_, .nils, ?_, RowI.nil _ _ _ _⟩
    case refine_6 =>
      repeat first | exact Fr.own | apply Fr.new | apply Fr.put | apply Fr.upto
      all_goals simp +contextual only [go_sem, ↓reduceIte]
    all_goals simp +contextual only [go_sem, ↓reduceIte]
    all_goals rfl
end Go.Am

set_option linter.all false
namespace Go.Am
open Go
variable [MaxLen]
set_option maxRecDepth 100000
set_option maxHeartbeats 8000000

theorem noAgg_bools (l : List Bool) : (bools l).all noAgg = true := by
  rw [List.all_eq_true]; intro x hx
  obtain ⟨b, _, rfl⟩ := List.mem_map.1 hx; rfl
theorem noAgg_ints (l : List Int) : (ints l).all noAgg = true := by
  rw [List.all_eq_true]; intro x hx
  obtain ⟨b, _, rfl⟩ := List.mem_map.1 hx; rfl
theorem frz_bools (s : St) (d : Nat) (l : List Bool) : mapO (frz U s (d + 1)) (bools l) = some (bools l) := mapO_self fun x hx => by
  obtain ⟨b, _, rfl⟩ := List.mem_map.1 hx; rfl
theorem frz_ints (s : St) (d : Nat) (l : List Int) : mapO (frz U s (d + 1)) (ints l) = some (ints l) := mapO_self fun x hx => by
  obtain ⟨b, _, rfl⟩ := List.mem_map.1 hx; rfl
theorem bools_len (l : List Bool) : (bools l).length = l.length := by simp [bools]
theorem RowI.frz_bools {s : St} {B : Nat} {l : List Bool} {v : AV} (h : RowI s B 4 1 l.length (bools l) v) (d : Nat) : frz U s (d + 2) v = some (encS true (bools l)) := by
  have h' : RowI s B 4 1 (bools l).length (bools l) v := by rw [bools_len]; exact h
  exact h'.frz_one U ag_4 sz_4 (noAgg_bools l) (Go.Am.frz_bools s d l)
theorem RowI.frz_ints {s : St} {B : Nat} {l : List Int} {v : AV} (h : RowI s B 3 1 l.length (ints l) v) (d : Nat) : frz U s (d + 2) v = some (encS true (ints l)) := by
  have h' : RowI s B 3 1 (ints l).length (ints l) v := by rw [ints_len]; exact h
  exact h'.frz_one U ag_3 sz_3 (noAgg_ints l) (Go.Am.frz_ints s d l)

def holdsR (l : List Int) (c : Cond) : List Bool := (List.range l.length).map fun t => atR l t c

theorem c30 (nl : Bool) (l : List Int) (hl : okSig l) (c : Cond) (hc : c.wf) : calV U 30 [encC c, encS nl (ints l)] = some (encS true (bools (holdsR l c))) := by
  have hlen := hl.1
  refine pure_go k30 (by kernel_rfl) (by simp [stills, still_encC, still_encS, still]) ?_
  rw [encC_cells]
  have hcc := fun t (ht : t < l.length) => c97 nl l hl t ht c hc
  rw [encC_cells] at hcc
  simp only [Cond.cells] at hcc ⊢
  simp (config := { maxSteps := 2000000 }) +contextual only [go_sem, ↓reduceIte, r30, lenL_encS, cells_encS, noAgg_encS]
  refine loop_to (σ := Nat) (fun i => l.length - i) (fun i => some (encS true (bools (holdsR l c)))) (fun i e s => i ≤ l.length ∧ Env.get e 1 = encS nl (ints l) ∧ Env.get e 2 = .ptr 8 0 ∧ Env.get e 6 = .int .i64 i ∧ 8 < s.next ∧ Fr s ∧
    s.get 8 = some (.cells [.str c.kind, .int .i64 c.a, .int .i64 c.b, .int .i64 c.mi, .int .i64 c.ma, .str c.pat, encS c.nl (encL c.kids)] 39 false 0 0) ∧
    ∃ v, Env.get e 5 = v ∧ RowI s 9 4 1 i (bools ((List.range i).map fun t => atR l t c)) v) 0 ?_ rfl ?_
  · rintro L i e s ⟨hi, g1, g2, g6, hn, hfr, hs8, v, g5, hv⟩ IH
    have ne : ∀ a k, a ≤ 8 → (s.next + k = a) = False := fun a k ha => by simp; omega
    have ne' : ∀ a, a ≤ 8 → (s.next = a) = False := fun a ha => by simp; omega
    have hla := hv.lenA
    have hna := hv.noAgg
    by_cases hd : i < l.length
    · have hw := wrap_succ hd (by omega)
      have hb1 : (i + 1) * 1 ≤ 1099511627776 := by omega
      have hb2 : i + 1 ≤ 1099511627776 := by omega
      simp +contextual only [go_sem, ↓reduceIte, r30_l0, g1, g2, g5, g6, hs8, nat_lt_dec, hd, lenL_encS, ints_len, hcc i hd, appK_some, Nat.reducePow, Nat.one_mul, hla, hna, hb1, hb2]
      have hv0 : RowI (s.new (.cells [.bool (atR l i c)] 4 false 0 0)) 9 4 1 i (bools ((List.range i).map fun t => atR l t c)) v := hv.mono (by rw [next_new]; omega) fun j _ hj => by rw [get_new, if_neg (by omega)]
      obtain ⟨s1, e1, e2, e3, e4, e5⟩ := hv0.app (by rw [next_new]; omega) (m := 1) (new := [.bool (atR l i c)]) (by omega) (by rfl) (by rfl)
      have k8 := e4 8 (by omega)
      rw [get_new, if_neg (by omega), hs8] at k8
      rw [next_new] at e1 e2 e3

      rw [e1]
      simp +contextual only [go_sem, ↓reduceIte, g6, hw]
      refine IH (i + 1) _ _ (by omega) ⟨by omega, ?_, ?_, ?_, ?_, e5 (hfr.new _), k8, .sl (s.next + 1) 0 (i + 1) none 1, ?_, ?_⟩
      case refine_6 =>
        rw [List.range_succ, List.map_append, bools, List.map_append]
        exact e3
      all_goals simp +contextual only [go_sem, ↓reduceIte, g1, g2, hw, e2]
      all_goals omega
    · have : i = l.length := by omega
      subst this
      simp +contextual only [go_sem, ↓reduceIte, r30_l0, g1, g2, g5, g6, hs8, nat_lt_dec, Nat.lt_irrefl, lenL_encS, ints_len, hna]
      have hv1 : RowI s 9 4 1 (holdsR l c).length (bools (holdsR l c)) v := by
        have : (holdsR l c).length = l.length := by simp [holdsR]
        rw [this]; exact hv
      exact hv1.frz_bools 38
  · refine ⟨Nat.zero_le _, ?_, ?_, ?_, ?_, ?_, ?_, .nils, ?_, RowI.nil _ _ _ _⟩
    case refine_5 =>
      repeat first | exact Fr.own | apply Fr.new | apply Fr.put | apply Fr.upto
      all_goals simp +contextual only [go_sem, ↓reduceIte]
    all_goals simp +contextual only [go_sem, ↓reduceIte]
    all_goals rfl
end Go.Am

set_option linter.all false
namespace Go.Am
open Go
variable [MaxLen]
set_option maxRecDepth 100000
set_option maxHeartbeats 8000000

def Step.norm (s : Step) : Step := { s with cond := s.cond.norm }
def Prog.norm (p : Prog) : Prog := { p with nl := true, steps := p.steps.map Step.norm }
def Step.cells9 (s : Step) : List AV := [.str s.cond.kind, .int .i64 s.cond.a, .int .i64 s.cond.b, .int .i64 s.cond.mi, .int .i64 s.cond.ma, .str s.cond.pat, encS s.cond.nl (encL s.cond.kids), .int .i64 s.times, .int .i64 s.within]
theorem encStep_agg (s : Step) : ∃ l, encStep s = .agg l ∧ l.length = 9 := ⟨_, rfl, rfl⟩
theorem frz_encStep (s : St) (d : Nat) (c : Step) : frz U s (d + 2) (encStep c) = some (encStep c) := by
  unfold encStep
  simp only [frz_agg, mapO_cons, mapO_nil, frz_str, frz_int, frz_encS, resK_some, aggK_some]

theorem c33 (p : Prog) (hf : p.fits) : calV U 33 [encP p] = some (encP p.norm) := by
  obtain ⟨lines, nl, steps⟩ := p
  obtain ⟨f1, f2⟩ := hf
  simp only at f1 f2
  refine pure_go k33 (by kernel_rfl) (by simp [stills, still_encP]) ?_
  rw [encP_eq, Prog.norm, encP_eq]
  simp (config := { maxSteps := 2000000 }) +contextual only [go_sem, ↓reduceIte, r33, lenL_encS, encSteps_len, cells_encS, noAgg_encS]
  refine loop_to (σ := Nat) (fun i => steps.length - i) (fun i => some (.agg [.int .i64 lines, encS true (encSteps (steps.map Step.norm))])) (fun i e s => i ≤ steps.length ∧ Env.get e 1 = .ptr 8 0 ∧ Env.get e 2 = .ptr 9 0 ∧ Env.get e 3 = .ptr 10 0 ∧ Env.get e 4 = .int .i64 i ∧ 10 < s.next ∧ Fr s ∧
    s.get 8 = some (.cells [.int .i64 lines, encS nl (encSteps steps)] 31 false 0 0) ∧ s.get 9 = some (.cells [.int .i64 0, .nils] 25 false 0 0) ∧
    ∃ v, s.get 10 = some (.cells [.int .i64 lines, v] 25 false 0 0) ∧ RowI s 11 144 9 i ((steps.take i).flatMap fun c => (encStep c.norm).cells) v) 0 ?_ rfl ?_
  · rintro L i e s ⟨hi, h1, h2, h3, h4, hn, hfr, hs8, hs9, v, hs10, hv⟩ IH
    have ne : ∀ a k, a ≤ 10 → (s.next + k = a) = False := fun a k ha => by simp; omega
    have ne' : ∀ a, a ≤ 10 → (s.next = a) = False := fun a ha => by simp; omega
    have hfk := hfr.at
    by_cases hd : i < steps.length
    · have hx : (encSteps steps)[i]? = some (encStep steps[i]) := by rw [encSteps_get, List.getElem?_eq_getElem hd]; rfl
      have hw := wrap_succ hd (by omega)
      have hc := c24 steps[i].cond (f2 _ (List.getElem_mem hd))
      rw [encC_cells, encC_cells] at hc
      simp only [Cond.cells, encStep] at hx hc
      rw [encS_ne (encSteps_ne hd)] at hs8
      have hb1 : (i + 1) * 104 ≤ 1099511627776 := by omega
      have hb2 : i + 1 ≤ 1099511627776 := by omega
      have htk : (steps.take (i + 1)).flatMap (fun c => (encStep c.norm).cells) = (steps.take i).flatMap (fun c => (encStep c.norm).cells) ++ steps[i].norm.cells9 := by
        rw [List.take_succ_eq_append_getElem hd, List.flatMap_append, List.flatMap_singleton]; rfl
      have hla := hv.lenA
      have hna := hv.noAgg
      simp +contextual only [go_sem, ↓reduceIte, r33_l0, h1, h2, h3, h4, hs8, hs9, hs10, nat_lt_dec, hd, encSteps_len, hx, hc, ne, ne', noAgg_encS, hfk, appK_some, Nat.reducePow, Nat.one_mul, hla, hna, hb1, hb2]
      have hv0 : RowI ((s.upto (s.next + 26)).put (s.next + 22) (.cells steps[i].norm.cells9 144 false 0 0)) 11 144 9 i ((steps.take i).flatMap fun c => (encStep c.norm).cells) v := hv.mono (by rw [next_put, upto_next]; omega) fun j _ hj => by rw [get_put, upto_get, if_neg (by omega)]
      obtain ⟨s1, e1, e2, e3, e4, e5⟩ := hv0.app (by rw [next_put, upto_next]; omega) (m := 1) (new := steps[i].norm.cells9) (by omega) (by rfl) (by simp only [Step.cells9, go_sem, noAgg_encS])
      simp only [Step.cells9, Step.norm] at e1 e3 e4 e5
      have k8 := e4 8 (by omega)
      have k9 := e4 9 (by omega)
      have k10 := e4 10 (by omega)
      simp only [get_put, upto_get, ne, ↓reduceIte, hs8, hs9, hs10, Nat.reduceLeDiff, next_put, upto_next] at k8 k9 k10 e2
      rw [e1]
      simp +contextual only [go_sem, ↓reduceIte, h3, k10, noAgg_encS, hw, h4]
      refine IH (i + 1) _ _ (by omega) ⟨by omega, ?_, ?_, ?_, ?_, ?_, ?_, ?_, ?_, .sl (s.next + 26) 0 (i + 1) none 9, ?_, ?_⟩
      case refine_10 =>
        rw [htk]
        exact e3.mono (by rw [next_put]; omega) fun j hj _ => by rw [get_put, if_neg (by omega)]
      case refine_9 => rw [get_put, if_pos rfl]
      case refine_6 =>
        refine (e5 ?_).put (by omega) _
        exact (hfr.upto (by omega)).put (by rw [upto_next]; omega) _
      all_goals simp +contextual only [go_sem, ↓reduceIte, h1, h2, h3, k8, k9, e2, encS_ne (encSteps_ne hd), Nat.reduceEqDiff]
      all_goals omega
    · have : i = steps.length := by omega
      subst this
      rw [List.take_length] at hv
      have hv1 : ∀ x, RowI (s.put 9 x) 11 144 9 (steps.map Step.norm).length ((steps.map Step.norm).flatMap fun c => (encStep c).cells) v := fun x => by
        rw [List.length_map, List.flatMap_map]
        exact hv.mono (by rw [next_put]; omega) fun j hj _ => by rw [get_put, if_neg (by omega)]
      have hfz : ∀ x d, frz U (s.put 9 x) (d + 3) v = some (encS true (encSteps (steps.map Step.norm))) := fun x d => by
        rw [(hv1 x).frz_agg U ag_144 sz_144 (by omega) encStep_agg (d := d + 2) (fun a => frz_encStep _ _ _)]; rfl
      have hna := hv.noAgg
      simp +contextual only [go_sem, ↓reduceIte, r33_l0, h1, h2, h3, h4, hs8, hs9, hs10, nat_lt_dec, Nat.lt_irrefl, lenL_encS, encSteps_len, hna, hfz]
  · refine ⟨Nat.zero_le _, ?_, ?_, ?_, ?_, ?_, ?_, ?_, ?_, .nils, ?_, RowI.nil _ _ _ _⟩
    case refine_6 =>
      repeat first | exact Fr.own | apply Fr.new | apply Fr.put | apply Fr.upto
      all_goals simp +contextual only [go_sem, ↓reduceIte]
    all_goals simp +contextual only [go_sem, ↓reduceIte]
    all_goals rfl
end Go.Am

set_option linter.all false
namespace Go.Am
open Go
variable [MaxLen]
set_option maxRecDepth 100000
set_option maxHeartbeats 8000000

mutual
def sc : Cond → Int → Bool
  | .mk k _ _ _ _ p _ kids, d => br (decide (d > 6) || decide ((k.length : Int) > 20) || decide ((p.length : Int) > 40) || decide ((kids.length : Int) > 10)) false (scL kids (IntKind.i64.wrap (d + 1)))
def scL : List Cond → Int → Bool
  | [], _ => true
  | c :: l, d => br (!(sc c d)) false (scL l d)
end
mutual
def leaves : Cond → Nat
  | .mk _ _ _ _ _ _ _ kids => leavesL kids + 1
def leavesL : List Cond → Nat
  | [] => 0
  | c :: l => leaves c + leavesL l
end
theorem brB_some' (p x y : Bool) : some (AV.bool (br p x y)) = br p (some (.bool x)) (some (.bool y)) := by cases p <;> rfl

theorem c86 : ∀ c : Cond, ∀ depth : Int, calV U 86 [encC c, .int .i64 depth] = some (.bool (sc c depth)) := by
  intro c
  induction c using Cond.ind with
  | h kind a b mi ma pat nl kids ih =>
  intro depth
  refine pure_go k86 (by kernel_rfl) (by simp [stills, still_encC, still]) ?_
  rw [encC, sc]
  simp (config := { maxSteps := 2000000 }) +contextual only [go_sem, ↓reduceIte, r86, lenL_encS, encL_len, cells_encS, noAgg_encS, br_tt]
  simp only [brB_some']
  refine br_r fun hsh => ?_
  have hlen : kids.length ≤ 10 := by
    simp only [Bool.or_eq_false_iff, decide_eq_false_iff_not] at hsh
    omega
  refine loop_to (σ := Nat) (fun i => kids.length - i) (fun i => some (AV.bool (scL (kids.drop i) (IntKind.i64.wrap (depth + 1))))) (fun i e s => i ≤ kids.length ∧ Env.get e 5 = .int .i64 i ∧ Env.get e 1 = .int .i64 depth ∧ Env.get e 2 = .ptr 8 0 ∧
    s.get 8 = some (.cells [.str kind, .int .i64 a, .int .i64 b, .int .i64 mi, .int .i64 ma, .str pat, encS nl (encL kids)] 39 false 0 0)) 0 ?_ rfl ?_
  · rintro L i e s ⟨hi, h5, h1, h2, hs⟩ IH
    by_cases hd : i < kids.length
    · have hx : (encL kids)[i]? = some (encC kids[i]) := by rw [encL_get, List.getElem?_eq_getElem hd]; rfl
      have hw := wrap_succ hd (by omega)
      have hc := ih kids[i] (List.getElem_mem hd) (IntKind.i64.wrap (depth + 1))
      rw [encS_ne (encL_ne hd)] at hs
      rw [encC_cells] at hx hc
      simp only [Cond.cells] at hx hc
      simp +contextual only [go_sem, ↓reduceIte, r86_l0, h5, h1, h2, hs, nat_lt_dec, hd, encL_len, hx, hc]
      rw [List.drop_eq_getElem_cons hd, scL]
      cases hb : sc kids[i] (IntKind.i64.wrap (depth + 1))
      · simp only [go_sem, ↓reduceIte]
      · simp only [go_sem, ↓reduceIte, hw]
        refine IH (i + 1) _ _ (by omega) ⟨by omega, ?_, ?_, ?_, ?_⟩ <;> simp +contextual only [go_sem, ↓reduceIte, h5, h1, h2, hs, hw, encS_ne (encL_ne hd)]
    · have : i = kids.length := by omega
      subst this
      simp +contextual only [go_sem, ↓reduceIte, r86_l0, h5, h1, h2, hs, lenL_encS, encL_len, nat_lt_dec, Nat.lt_irrefl]
      rw [List.drop_length, scL]
  · refine ⟨Nat.zero_le _, ?_, ?_, ?_, ?_⟩ <;> simp +contextual only [go_sem, ↓reduceIte] <;> rfl

theorem leaves_pos (c : Cond) : 1 ≤ leaves c := by cases c; simp [leaves]
theorem leavesL_len : ∀ l, l.length ≤ leavesL l
  | [] => Nat.zero_le _
  | c :: l => by have := leavesL_len l; have := leaves_pos c; simp only [leavesL, List.length_cons]; omega
theorem leavesL_mem : ∀ {l : List Cond} {c : Cond}, c ∈ l → leaves c ≤ leavesL l
  | c' :: l, c, h => by
    rw [leavesL]
    rcases List.mem_cons.1 h with rfl | h
    · omega
    · have := leavesL_mem h; omega
theorem leavesL_app (l m : List Cond) : leavesL (l ++ m) = leavesL l + leavesL m := by
  induction l with
  | nil => simp [leavesL]
  | cons c l ih => simp only [List.cons_append, leavesL, ih]; omega
theorem c87 : ∀ c : Cond, leaves c < 2 ^ 62 → calV U 87 [encC c] = some (.int .i64 (leaves c)) := by
  intro c
  induction c using Cond.ind with
  | h kind a b mi ma pat nl kids ih =>
  intro hb
  rw [leaves] at hb ⊢
  have hlen := leavesL_len kids
  refine pure_go k87 (by kernel_rfl) (by simp [stills, still_encC, still]) ?_
  rw [encC]
  simp (config := { maxSteps := 2000000 }) +contextual only [go_sem, ↓reduceIte, r87, lenL_encS, encL_len, cells_encS, noAgg_encS, br_tt]
  refine loop_to (σ := Nat) (fun i => kids.length - i) (fun i => some (AV.int .i64 ((leavesL kids + 1 : Nat) : Int))) (fun i e s => i ≤ kids.length ∧ Env.get e 4 = .int .i64 i ∧ Env.get e 3 = .int .i64 ((leavesL (kids.take i) + 1 : Nat) : Int) ∧ Env.get e 1 = .ptr 8 0 ∧
    s.get 8 = some (.cells [.str kind, .int .i64 a, .int .i64 b, .int .i64 mi, .int .i64 ma, .str pat, encS nl (encL kids)] 39 false 0 0)) 0 ?_ rfl ?_
  · rintro L i e s ⟨hi, h4, h3, h1, hs⟩ IH
    by_cases hd : i < kids.length
    · have hx : (encL kids)[i]? = some (encC kids[i]) := by rw [encL_get, List.getElem?_eq_getElem hd]; rfl
      have hw := wrap_succ hd (by omega)
      have hc := ih kids[i] (List.getElem_mem hd) (by have := leavesL_mem (List.getElem_mem hd); omega)
      have htk : leavesL (kids.take (i + 1)) = leavesL (kids.take i) + leaves kids[i] := by
        rw [List.take_succ_eq_append_getElem hd, leavesL_app]; simp [leavesL]
      have hle : leavesL (kids.take (i + 1)) ≤ leavesL kids := by
        have := leavesL_app (kids.take (i + 1)) (kids.drop (i + 1))
        rw [List.take_append_drop] at this; omega
      have hw2 : IntKind.i64.wrap (((leavesL (kids.take i) + 1 : Nat) : Int) + (leaves kids[i] : Int)) = ((leavesL (kids.take (i + 1)) + 1 : Nat) : Int) := by rw [wrap_i64] <;> omega
      rw [encS_ne (encL_ne hd)] at hs
      rw [encC_cells] at hx hc
      simp only [Cond.cells] at hx hc
      simp +contextual only [go_sem, ↓reduceIte, r87_l0, h4, h3, h1, hs, nat_lt_dec, hd, encL_len, hx, hc, hw, hw2]
      refine IH (i + 1) _ _ (by omega) ⟨by omega, ?_, ?_, ?_, ?_⟩ <;> simp +contextual only [go_sem, ↓reduceIte, h4, h3, h1, hs, hw, hw2, encS_ne (encL_ne hd)]
    · have : i = kids.length := by omega
      subst this
      rw [List.take_length] at h3
      simp +contextual only [go_sem, ↓reduceIte, r87_l0, h4, h3, h1, hs, lenL_encS, encL_len, nat_lt_dec, Nat.lt_irrefl]
  · refine ⟨Nat.zero_le _, ?_, ?_, ?_, ?_⟩ <;> simp +contextual only [go_sem, ↓reduceIte] <;> rfl
end Go.Am

set_option linter.all false
namespace Go.Am
open Go
variable [MaxLen]
set_option maxRecDepth 100000
set_option maxHeartbeats 8000000

theorem scL_mem {d : Int} : ∀ {l : List Cond}, scL l d = true → ∀ c ∈ l, sc c d = true
  | c :: l, h, x, hx => by
    rw [scL] at h
    cases hc : sc c d
    · rw [hc] at h; cases h
    · rw [hc] at h
      rcases List.mem_cons.1 hx with rfl | hx
      · exact hc
      · exact scL_mem h x hx
theorem sc_spec {k : Str} {a b mi ma : Int} {p : Str} {nl : Bool} {kids : List Cond} {d : Int} (h : sc (.mk k a b mi ma p nl kids) d = true) (hd : 1 ≤ d) : d ≤ 6 ∧ k.length ≤ 20 ∧ p.length ≤ 40 ∧ kids.length ≤ 10 ∧ ∀ c ∈ kids, sc c (d + 1) = true := by
  rw [sc] at h
  cases hb : (decide (d > 6) || decide ((k.length : Int) > 20) || decide ((p.length : Int) > 40) || decide ((kids.length : Int) > 10))
  · rw [hb, br_false] at h
    simp only [Bool.or_eq_false_iff, decide_eq_false_iff_not] at hb
    obtain ⟨⟨⟨h1, h2⟩, h3⟩, h4⟩ := hb
    have hw : IntKind.i64.wrap (d + 1) = d + 1 := wrap_i64 (by omega) (by omega)
    rw [hw] at h
    exact ⟨by omega, by omega, by omega, by omega, scL_mem h⟩
  · rw [hb] at h; cases h
theorem sc_fits : ∀ (c : Cond) (d : Int), 1 ≤ d → sc c d = true → c.fits ∧ leaves c ≤ 11 ^ (7 - d.toNat) := by
  intro c
  induction c using Cond.ind with
  | h kind a b mi ma pat nl kids ih =>
  intro d hd h
  obtain ⟨h1, h2, h3, h4, h5⟩ := sc_spec h hd
  have hk : ∀ x ∈ kids, x.fits ∧ leaves x ≤ 11 ^ (6 - d.toNat) := fun x hx => by
    have := ih x hx (d + 1) (by omega) (h5 x hx)
    rwa [show 7 - (d + 1).toNat = 6 - d.toNat from by omega] at this
  refine ⟨?_, ?_⟩
  · rw [Cond.fits]
    exact ⟨by omega, by omega, fun x hx => (hk x hx).1⟩
  · rw [leaves]
    have : ∀ l : List Cond, (∀ x ∈ l, x ∈ kids) → leavesL l ≤ l.length * 11 ^ (6 - d.toNat) := by
      intro l
      induction l with
      | nil => intro _; simp [leavesL]
      | cons c l ihl =>
        intro hl
        have := ihl fun x hx => hl x (List.mem_cons_of_mem _ hx)
        have := (hk c (hl c (List.mem_cons_self ..))).2
        rw [leavesL, List.length_cons, Nat.add_mul]; omega
    have h6 := this kids fun _ h => h
    have h7 : kids.length * 11 ^ (6 - d.toNat) ≤ 10 * 11 ^ (6 - d.toNat) := Nat.mul_le_mul_right _ h4
    have h8 : 11 ^ (7 - d.toNat) = 11 * 11 ^ (6 - d.toNat) := by
      rw [show 7 - d.toNat = (6 - d.toNat) + 1 from by omega, Nat.pow_succ, Nat.mul_comm]
    have h9 : 1 ≤ 11 ^ (6 - d.toNat) := Nat.one_le_pow _ _ (by omega)
    omega
theorem sc_leaves {c : Cond} (h : sc c 1 = true) : leaves c < 2 ^ 62 := by
  have := (sc_fits c 1 (by omega) h).2
  have e : 11 ^ (7 - (1 : Int).toNat) = 1771561 := rfl
  rw [e] at this
  omega

def shortC (c : Cond) (n : Int) : Bool := sc c 1 && decide ((leaves c : Int) ≤ n)
theorem c21 (c : Cond) (n : Int) : calV U 21 [encC c, .int .i64 n] = some (.bool (shortC c n)) := by
  refine pure_go k21 (by kernel_rfl) (by simp [stills, still_encC, still]) ?_
  have h86 := c86 c 1
  have h87 : sc c 1 = true → calV U 87 [encC c] = some (.int .i64 (leaves c)) := fun h => c87 c (sc_leaves h)
  rw [encC_cells] at h86 h87 ⊢
  simp only [Cond.cells] at h86 h87 ⊢
  simp (config := { maxSteps := 2000000 }) +contextual only [go_sem, ↓reduceIte, r21, h86, h87, noAgg_encS]
  rfl
def shortL (n : Int) : List Step → Bool
  | [] => true
  | s :: l => br (!(shortC s.cond n)) false (shortL n l)
def short (p : Prog) (n : Int) : Bool := br (decide ((p.steps.length : Int) > 10)) false (shortL n p.steps)
theorem c31 (p : Prog) (n : Int) : calV U 31 [encP p, .int .i64 n] = some (.bool (short p n)) := by
  obtain ⟨lines, nl, steps⟩ := p
  refine pure_go k31 (by kernel_rfl) (by simp [stills, still_encP, still]) ?_
  rw [encP_eq, short]
  simp (config := { maxSteps := 2000000 }) +contextual only [go_sem, ↓reduceIte, r31, lenL_encS, encSteps_len, cells_encS, noAgg_encS]
  simp only [brB_some']
  refine br_r fun hsh => ?_
  have hlen : steps.length ≤ 10 := by
    simp only [decide_eq_false_iff_not] at hsh
    omega
  refine loop_to (σ := Nat) (fun i => steps.length - i) (fun i => some (AV.bool (shortL n (steps.drop i)))) (fun i e s => i ≤ steps.length ∧ Env.get e 5 = .int .i64 i ∧ Env.get e 1 = .int .i64 n ∧ Env.get e 2 = .ptr 8 0 ∧
    s.get 8 = some (.cells [.int .i64 lines, encS nl (encSteps steps)] 31 false 0 0)) 0 ?_ rfl ?_
  · rintro L i e s ⟨hi, h5, h1, h2, hs⟩ IH
    by_cases hd : i < steps.length
    · have hx : (encSteps steps)[i]? = some (encStep steps[i]) := by rw [encSteps_get, List.getElem?_eq_getElem hd]; rfl
      have hw := wrap_succ hd (by omega)
      have hc := c21 steps[i].cond n
      rw [encS_ne (encSteps_ne hd)] at hs
      rw [encC_cells] at hc
      simp only [Cond.cells, encStep] at hx hc
      simp +contextual only [go_sem, ↓reduceIte, r31_l0, h5, h1, h2, hs, nat_lt_dec, hd, encSteps_len, hx, hc]
      rw [List.drop_eq_getElem_cons hd, shortL]
      cases hb : shortC steps[i].cond n
      · simp only [go_sem, ↓reduceIte]
      · simp only [go_sem, ↓reduceIte, hw]
        refine IH (i + 1) _ _ (by omega) ⟨by omega, ?_, ?_, ?_, ?_⟩ <;> simp +contextual only [go_sem, ↓reduceIte, h5, h1, h2, hs, hw, encS_ne (encSteps_ne hd)]
    · have : i = steps.length := by omega
      subst this
      simp +contextual only [go_sem, ↓reduceIte, r31_l0, h5, h1, h2, hs, lenL_encS, encSteps_len, nat_lt_dec, Nat.lt_irrefl]
      rw [List.drop_length, shortL]
  · refine ⟨Nat.zero_le _, ?_, ?_, ?_, ?_⟩ <;> simp +contextual only [go_sem, ↓reduceIte] <;> rfl
theorem short_spec {p : Prog} {n : Int} (h : short p n = true) : p.steps.length ≤ 10 ∧ ∀ s ∈ p.steps, sc s.cond 1 = true ∧ (leaves s.cond : Int) ≤ n := by
  unfold short at h
  cases hb : decide ((p.steps.length : Int) > 10)
  · rw [hb, br_false] at h
    refine ⟨by simp only [decide_eq_false_iff_not] at hb; omega, ?_⟩
    have : ∀ l : List Step, shortL n l = true → ∀ s ∈ l, sc s.cond 1 = true ∧ (leaves s.cond : Int) ≤ n := by
      intro l
      induction l with
      | nil => intro _ s hs; cases hs
      | cons x l ih =>
        intro h s hs
        rw [shortL] at h
        cases hx : shortC x.cond n
        · rw [hx] at h; cases h
        · rw [hx] at h
          rcases List.mem_cons.1 hs with rfl | hs
          · simpa [shortC] using hx
          · exact ih h s hs
    exact this _ h
  · rw [hb] at h; cases h
theorem short_fits {p : Prog} {n : Int} (h : short p n = true) : p.fits := by
  obtain ⟨h1, h2⟩ := short_spec h
  exact ⟨by omega, fun s hs => (sc_fits _ 1 (by omega) (h2 s hs).1).1⟩
end Go.Am

set_option linter.all false
namespace Go.Am
open Go
variable [MaxLen]
set_option maxRecDepth 100000
/-- (strobe/trigger.Cond).compound; results .tmp 2 -/
def r213 : RC := (.seq (.ops [⟨some 1, none, none, false, .box 48 (.t 0)⟩,
  ⟨some 2, none, none, false, .mov (.v (.bool false))⟩]) (.seq (.ops [⟨some 3, none, none, false, .fa 0 (.t 1)⟩,
  ⟨some 4, none, none, false, .ld1 (.t 3)⟩,
  ⟨some 5, none, none, false, .bin .eql 9 true (.t 4) (.v (.str [110, 111, 116]))⟩,
  ⟨some 6, none, none, false, .mov (.t 5)⟩,
  ⟨some 7, some (6, false), none, false, .fa 0 (.t 1)⟩,
  ⟨some 8, some (6, false), none, false, .ld1 (.t 7)⟩,
  ⟨some 9, some (6, false), none, false, .bin .eql 9 true (.t 8) (.v (.str [97, 108, 108]))⟩,
  ⟨some 10, none, none, false, .pick (.t 6) (.v (.bool true)) (.t 9)⟩,
  ⟨some 11, none, none, false, .mov (.t 10)⟩,
  ⟨some 12, some (11, false), none, false, .fa 0 (.t 1)⟩,
  ⟨some 13, some (11, false), none, false, .ld1 (.t 12)⟩,
  ⟨some 14, some (11, false), none, false, .bin .eql 9 true (.t 13) (.v (.str [97, 110, 121]))⟩,
  ⟨some 15, none, none, false, .pick (.t 11) (.v (.bool true)) (.t 14)⟩,
  ⟨some 2, none, none, false, .mov (.t 15)⟩]) .ret))
theorem k213 : fnRC 213 = some ([.tmp 2], r213) := by kernel_rfl

/-- strobe/trigger.limited; results .tmp 4 -/
def r170 : RC := (.seq (.ops [⟨some 4, none, none, false, .mov (.v (.int .i64 0))⟩]) (.seq (.ops [⟨some 5, none, none, false, .mov (.t 0)⟩,
  ⟨some 6, none, none, false, .mov (.t 1)⟩,
  ⟨some 7, none, none, false, .bin .mul 3 false (.t 5) (.t 6)⟩,
  ⟨some 8, none, none, false, .raw (.call { callee := .builtin .min, args := #[(.tmp 7), (.const (.int .i64 65537))], argTypes := #[3, 3] })⟩,
  ⟨some 4, none, none, false, .mov (.t 8)⟩]) .ret))
theorem k170 : fnRC 170 = some ([.tmp 4], r170) := by kernel_rfl

def r171_l0 : RC := (.seq (.ops [⟨some 20, none, none, false, .bin .lss 3 false (.t 19) (.t 18)⟩]) (.seq (.cond (.t 20) .skip (.exit 0)) (.seq (.block 1 (.seq (.ops [⟨some 21, none, none, false, .ixa 7 (.t 17) (.t 19)⟩,
  ⟨some 22, none, none, false, .ldn 7 (.t 21)⟩,
  ⟨some 5, none, none, false, .al [(.str []), (.int .i64 0), (.int .i64 0), (.int .i64 0), (.int .i64 0), (.str []), .nils] 48⟩,
  ⟨none, none, none, false, .st 7 (.t 5) (.t 22)⟩]) (.ops [⟨some 23, none, none, false, .mov (.t 3)⟩,
  ⟨some 24, none, none, false, .ldn 7 (.t 5)⟩,
  ⟨some 25, none, none, false, .call 171 [(.t 24)]⟩,
  ⟨some 26, none, none, false, .call 170 [(.t 23), (.t 25)]⟩,
  ⟨some 3, none, none, false, .mov (.t 26)⟩]))) (.ops [⟨some 27, none, none, false, .bin .add 3 true (.t 19) (.v (.int .i64 1))⟩,
  ⟨some 19, none, none, false, .mov (.t 27)⟩]))))
/-- (strobe/trigger.Cond).size; results .tmp 2 -/
def r171 : RC := (.seq (.ops [⟨some 1, none, none, false, .box 48 (.t 0)⟩,
  ⟨some 2, none, none, false, .mov (.v (.int .i64 0))⟩]) (.seq (.seq (.ops [⟨some 6, none, none, false, .ldn 7 (.t 1)⟩,
  ⟨some 7, none, none, false, .call 213 [(.t 6)]⟩,
  ⟨some 8, none, none, false, .un .not (.t 7)⟩]) (.cond (.t 8) (.seq (.drw 8 [⟨some 9, none, none, false, .call 156 []⟩,
  ⟨some 10, none, none, false, .fa 0 (.t 1)⟩,
  ⟨some 11, none, none, false, .ld1 (.t 10)⟩,
  ⟨some 12, none, none, false, .raw (.lookup 238 (.tmp 9) (.tmp 11) false)⟩,
  ⟨some 13, none, none, false, .fd1 6 (.t 12)⟩,
  ⟨some 14, none, none, false, .ldn 7 (.t 1)⟩,
  ⟨some 15, none, none, true, .callv (.t 13) [(.t 14)]⟩,
  ⟨some 2, none, none, false, .mov (.t 15)⟩]) .ret) .skip)) (.seq (.ops [⟨some 3, none, none, false, .mov (.v (.int .i64 1))⟩]) (.seq (.seq (.ops [⟨some 16, none, none, false, .fa 6 (.t 1)⟩,
  ⟨some 17, none, none, false, .ld1 (.t 16)⟩,
  ⟨some 18, none, none, false, .lenL (.t 17)⟩,
  ⟨some 19, none, none, false, .mov (.v (.int .i64 0))⟩]) (.block 0 (.loop r171_l0))) (.seq (.ops [⟨some 28, none, none, false, .mov (.t 3)⟩,
  ⟨some 2, none, none, false, .mov (.t 28)⟩]) .ret)))))
theorem k171 : fnRC 171 = some ([.tmp 2], r171) := by kernel_rfl

/-- strobe/trigger.kinds$1; results .tmp 2 -/
def r192 : RC := (.seq (.ops [⟨some 1, none, none, false, .box 48 (.t 0)⟩,
  ⟨some 2, none, none, false, .mov (.v (.int .i64 0))⟩]) (.seq (.ops [⟨some 3, none, none, false, .fa 4 (.t 1)⟩,
  ⟨some 4, none, none, false, .ld1 (.t 3)⟩,
  ⟨some 5, none, none, false, .bin .add 3 true (.t 4) (.v (.int .i64 3))⟩,
  ⟨some 2, none, none, false, .mov (.t 5)⟩]) .ret))
theorem k192 : fnRC 192 = some ([.tmp 2], r192) := by kernel_rfl

/-- strobe/trigger.kinds$2; results .tmp 2 -/
def r193 : RC := (.seq (.ops [⟨some 1, none, none, false, .box 48 (.t 0)⟩,
  ⟨some 2, none, none, false, .mov (.v (.int .i64 0))⟩]) (.seq (.ops [⟨some 3, none, none, false, .fa 3 (.t 1)⟩,
  ⟨some 4, none, none, false, .ld1 (.t 3)⟩,
  ⟨some 5, none, none, false, .bin .add 3 true (.t 4) (.v (.int .i64 2))⟩,
  ⟨some 2, none, none, false, .mov (.t 5)⟩]) .ret))
theorem k193 : fnRC 193 = some ([.tmp 2], r193) := by kernel_rfl

/-- strobe/trigger.one; results .tmp 2 -/
def r194 : RC := (.seq (.ops [⟨some 1, none, none, false, .box 48 (.t 0)⟩,
  ⟨some 2, none, none, false, .mov (.v (.int .i64 0))⟩]) (.seq (.ops [⟨some 2, none, none, false, .mov (.v (.int .i64 1))⟩]) .ret))
theorem k194 : fnRC 194 = some ([.tmp 2], r194) := by kernel_rfl

/-- strobe/trigger.zero; results .tmp 2 -/
def r195 : RC := (.seq (.ops [⟨some 1, none, none, false, .box 48 (.t 0)⟩,
  ⟨some 2, none, none, false, .mov (.v (.int .i64 0))⟩]) (.seq (.ops [⟨some 2, none, none, false, .mov (.v (.int .i64 0))⟩]) .ret))
theorem k195 : fnRC 195 = some ([.tmp 2], r195) := by kernel_rfl

/-- strobe/trigger.kinds$9; results .tmp 2 -/
def r208 : RC := (.seq (.ops [⟨some 1, none, none, false, .box 48 (.t 0)⟩,
  ⟨some 2, none, none, false, .mov (.v (.int .i64 0))⟩]) (.seq (.ops [⟨some 3, none, none, false, .fa 3 (.t 1)⟩,
  ⟨some 4, none, none, false, .ld1 (.t 3)⟩,
  ⟨some 2, none, none, false, .mov (.t 4)⟩]) .ret))
theorem k208 : fnRC 208 = some ([.tmp 2], r208) := by kernel_rfl

/-- strobe/trigger.kinds$10; results .tmp 2 -/
def r210 : RC := (.seq (.ops [⟨some 1, none, none, false, .box 48 (.t 0)⟩,
  ⟨some 2, none, none, false, .mov (.v (.int .i64 0))⟩]) (.seq (.ops [⟨some 2, none, none, false, .mov (.v (.int .i64 4))⟩]) .ret))
theorem k210 : fnRC 210 = some ([.tmp 2], r210) := by kernel_rfl

def r102_l0 : RC := (.seq (.ops [⟨some 15, none, none, false, .bin .lss 3 false (.t 14) (.t 13)⟩]) (.seq (.cond (.t 15) .skip (.exit 0)) (.seq (.block 1 (.seq (.ops [⟨some 16, none, none, false, .ixa 9 (.t 12) (.t 14)⟩,
  ⟨some 17, none, none, false, .ldn 9 (.t 16)⟩,
  ⟨some 6, none, none, false, .al [(.str []), (.int .i64 0), (.int .i64 0), (.int .i64 0), (.int .i64 0), (.str []), .nils, (.int .i64 0), (.int .i64 0)] 144⟩,
  ⟨none, none, none, false, .st 9 (.t 6) (.t 17)⟩]) (.seq (.ops [⟨some 18, none, none, false, .mov (.t 3)⟩,
  ⟨some 19, none, none, false, .fa 0 (.t 6)⟩,
  ⟨some 20, none, none, false, .ldn 7 (.t 19)⟩,
  ⟨some 21, none, none, false, .call 171 [(.t 20)]⟩,
  ⟨some 22, none, none, false, .call 170 [(.t 18), (.t 21)]⟩,
  ⟨some 3, none, none, false, .mov (.t 22)⟩]) (.ops [⟨some 23, none, none, false, .mov (.t 4)⟩,
  ⟨some 24, none, none, false, .fa 7 (.t 6)⟩,
  ⟨some 25, none, none, false, .ld1 (.t 24)⟩,
  ⟨some 26, none, none, false, .fa 8 (.t 6)⟩,
  ⟨some 27, none, none, false, .ld1 (.t 26)⟩,
  ⟨some 28, none, none, false, .bin .add 3 true (.t 27) (.v (.int .i64 1))⟩,
  ⟨some 29, none, none, false, .bin .mul 3 false (.t 25) (.t 28)⟩,
  ⟨some 30, none, none, false, .bin .add 3 false (.t 23) (.t 29)⟩,
  ⟨some 4, none, none, false, .mov (.t 30)⟩])))) (.ops [⟨some 31, none, none, false, .bin .add 3 true (.t 14) (.v (.int .i64 1))⟩,
  ⟨some 14, none, none, false, .mov (.t 31)⟩]))))
/-- (strobe/trigger.Program).size; results .tmp 2 -/
def r102 : RC := (.seq (.ops [⟨some 1, none, none, false, .box 25 (.t 0)⟩,
  ⟨some 2, none, none, false, .mov (.v (.int .i64 0))⟩]) (.seq (.ops [⟨some 7, none, none, false, .fa 0 (.t 1)⟩,
  ⟨some 8, none, none, false, .ld1 (.t 7)⟩,
  ⟨some 9, none, none, false, .bin .shl 3 true (.v (.int .i64 1)) (.t 8)⟩,
  ⟨some 10, none, none, false, .bin .add 3 true (.t 9) (.v (.int .i64 1))⟩,
  ⟨some 3, none, none, false, .mov (.t 10)⟩,
  ⟨some 4, none, none, false, .mov (.v (.int .i64 0))⟩]) (.seq (.seq (.ops [⟨some 11, none, none, false, .fa 1 (.t 1)⟩,
  ⟨some 12, none, none, false, .ld1 (.t 11)⟩,
  ⟨some 13, none, none, false, .lenL (.t 12)⟩,
  ⟨some 14, none, none, false, .mov (.v (.int .i64 0))⟩]) (.block 0 (.loop r102_l0))) (.seq (.ops [⟨some 32, none, none, false, .mov (.t 3)⟩,
  ⟨some 33, none, none, false, .mov (.t 4)⟩,
  ⟨some 34, none, none, false, .call 170 [(.t 32), (.t 33)]⟩,
  ⟨some 2, none, none, false, .mov (.t 34)⟩]) .ret))))
theorem k102 : fnRC 102 = some ([.tmp 2], r102) := by kernel_rfl

/-- strobe/trigger.Size; results .tmp 2,.tmp 3 -/
def r65 : RC := (.seq (.ops [⟨some 1, none, none, false, .box 25 (.t 0)⟩,
  ⟨some 2, none, none, false, .mov (.v (.int .i64 0))⟩,
  ⟨some 3, none, none, false, .mov (.v (.int .i64 0))⟩]) (.seq (.seq (.ops [⟨some 5, none, none, false, .ldn 2 (.t 1)⟩,
  ⟨some 6, none, none, false, .call 64 [(.t 5)]⟩,
  ⟨some 4, none, none, false, .mov (.t 6)⟩]) (.seq (.ops [⟨some 7, none, none, false, .mov (.t 4)⟩,
  ⟨some 8, none, none, false, .bin .neq 26 true (.t 7) (.v (.int .i64 0))⟩]) (.cond (.t 8) (.seq (.ops [⟨some 9, none, none, false, .mov (.t 4)⟩,
  ⟨some 2, none, none, false, .mov (.v (.int .i64 0))⟩,
  ⟨some 3, none, none, false, .mov (.t 9)⟩]) .ret) .skip))) (.seq (.ops [⟨some 10, none, none, false, .ldn 2 (.t 1)⟩,
  ⟨some 11, none, none, false, .call 102 [(.t 10)]⟩,
  ⟨some 2, none, none, false, .mov (.t 11)⟩,
  ⟨some 3, none, none, false, .mov (.v (.int .i64 0))⟩]) .ret)))
theorem k65 : fnRC 65 = some ([.tmp 2, .tmp 3], r65) := by kernel_rfl

/-- strobe/stroberef04.product; results .tmp 4 -/
def r100 : RC := (.seq (.ops [⟨some 4, none, none, false, .mov (.v (.int .i64 0))⟩]) (.seq (.ops [⟨some 5, none, none, false, .mov (.t 0)⟩,
  ⟨some 6, none, none, false, .mov (.t 1)⟩,
  ⟨some 7, none, none, false, .bin .mul 3 false (.t 5) (.t 6)⟩,
  ⟨some 8, none, none, false, .raw (.call { callee := .builtin .min, args := #[(.tmp 7), (.const (.int .i64 65537))], argTypes := #[3, 3] })⟩,
  ⟨some 4, none, none, false, .mov (.t 8)⟩]) .ret))
theorem k100 : fnRC 100 = some ([.tmp 4], r100) := by kernel_rfl

def r101_l0 : RC := (.seq (.seq (.ops [⟨some 21, none, none, false, .mov (.t 4)⟩,
  ⟨some 22, none, none, false, .fa 6 (.t 1)⟩,
  ⟨some 23, none, none, false, .ld1 (.t 22)⟩,
  ⟨some 24, none, none, false, .lenL (.t 23)⟩,
  ⟨some 25, none, none, false, .bin .lss 3 false (.t 21) (.t 24)⟩]) (.cond (.t 25) .skip (.exit 1))) (.seq (.block 2 (.ops [⟨some 28, none, none, false, .mov (.t 3)⟩,
  ⟨some 29, none, none, false, .fa 6 (.t 1)⟩,
  ⟨some 30, none, none, false, .ld1 (.t 29)⟩,
  ⟨some 31, none, none, false, .mov (.t 4)⟩,
  ⟨some 32, none, none, false, .ixa 7 (.t 30) (.t 31)⟩,
  ⟨some 33, none, none, false, .ldn 7 (.t 32)⟩,
  ⟨some 34, none, none, false, .call 101 [(.t 33)]⟩,
  ⟨some 35, none, none, false, .call 100 [(.t 28), (.t 34)]⟩,
  ⟨some 3, none, none, false, .mov (.t 35)⟩])) (.ops [⟨some 26, none, none, false, .mov (.t 4)⟩,
  ⟨some 27, none, none, false, .bin .add 3 true (.t 26) (.v (.int .i64 1))⟩,
  ⟨some 4, none, none, false, .mov (.t 27)⟩])))
/-- strobe/stroberef04.condSize; results .tmp 2 -/
def r101 : RC := (.seq (.ops [⟨some 1, none, none, false, .box 39 (.t 0)⟩,
  ⟨some 2, none, none, false, .mov (.v (.int .i64 0))⟩]) (.seq (.seq (.ops [⟨some 5, none, none, false, .fa 0 (.t 1)⟩,
  ⟨some 6, none, none, false, .ld1 (.t 5)⟩]) (.block 0 (.seq (.seq (.ops [⟨some 8, none, none, false, .bin .eql 9 true (.t 6) (.v (.str [112, 117, 108, 115, 101]))⟩,
  ⟨some 7, none, none, false, .mov (.t 8)⟩]) (.cond (.t 7) .skip (.ops [⟨some 9, none, none, false, .bin .eql 9 true (.t 6) (.v (.str [103, 97, 112]))⟩,
  ⟨some 7, none, none, false, .mov (.t 9)⟩]))) (.cond (.t 7) (.seq (.ops [⟨some 10, none, none, false, .fa 4 (.t 1)⟩,
  ⟨some 11, none, none, false, .ld1 (.t 10)⟩,
  ⟨some 12, none, none, false, .bin .add 3 true (.t 11) (.v (.int .i64 3))⟩,
  ⟨some 2, none, none, false, .mov (.t 12)⟩]) .ret) (.seq (.seq (.ops [⟨some 14, none, none, false, .bin .eql 9 true (.t 6) (.v (.str [105, 100, 108, 101]))⟩,
  ⟨some 13, none, none, false, .mov (.t 14)⟩]) (.cond (.t 13) .skip (.ops [⟨some 15, none, none, false, .bin .eql 9 true (.t 6) (.v (.str [115, 101, 116, 117, 112]))⟩,
  ⟨some 13, none, none, false, .mov (.t 15)⟩]))) (.cond (.t 13) (.seq (.ops [⟨some 16, none, none, false, .fa 3 (.t 1)⟩,
  ⟨some 17, none, none, false, .ld1 (.t 16)⟩,
  ⟨some 18, none, none, false, .bin .add 3 true (.t 17) (.v (.int .i64 2))⟩,
  ⟨some 2, none, none, false, .mov (.t 18)⟩]) .ret) (.seq (.ops [⟨some 20, none, none, false, .bin .eql 9 true (.t 6) (.v (.str [114, 117, 110, 116]))⟩,
  ⟨some 19, none, none, false, .mov (.t 20)⟩]) (.cond (.t 19) (.seq (.ops [⟨some 2, none, none, false, .mov (.v (.int .i64 4))⟩]) .ret) .skip)))))))) (.seq (.ops [⟨some 3, none, none, false, .mov (.v (.int .i64 1))⟩]) (.seq (.seq (.ops [⟨some 4, none, none, false, .mov (.v (.int .i64 0))⟩]) (.block 1 (.loop r101_l0))) (.seq (.ops [⟨some 36, none, none, false, .mov (.t 3)⟩,
  ⟨some 2, none, none, false, .mov (.t 36)⟩]) .ret)))))
theorem k101 : fnRC 101 = some ([.tmp 2], r101) := by kernel_rfl

def r38_l0 : RC := (.seq (.seq (.ops [⟨some 10, none, none, false, .mov (.t 5)⟩,
  ⟨some 11, none, none, false, .fa 1 (.t 1)⟩,
  ⟨some 12, none, none, false, .ld1 (.t 11)⟩,
  ⟨some 13, none, none, false, .lenL (.t 12)⟩,
  ⟨some 14, none, none, false, .bin .lss 3 false (.t 10) (.t 13)⟩]) (.cond (.t 14) .skip (.exit 0))) (.seq (.block 1 (.seq (.ops [⟨some 17, none, none, false, .mov (.t 3)⟩,
  ⟨some 18, none, none, false, .fa 1 (.t 1)⟩,
  ⟨some 19, none, none, false, .ld1 (.t 18)⟩,
  ⟨some 20, none, none, false, .mov (.t 5)⟩,
  ⟨some 21, none, none, false, .ixa 9 (.t 19) (.t 20)⟩,
  ⟨some 22, none, none, false, .fa 0 (.t 21)⟩,
  ⟨some 23, none, none, false, .ldn 7 (.t 22)⟩,
  ⟨some 24, none, none, false, .call 101 [(.t 23)]⟩,
  ⟨some 25, none, none, false, .call 100 [(.t 17), (.t 24)]⟩,
  ⟨some 3, none, none, false, .mov (.t 25)⟩]) (.drw 17 [⟨some 26, none, none, false, .mov (.t 4)⟩,
  ⟨some 27, none, none, false, .fa 1 (.t 1)⟩,
  ⟨some 28, none, none, false, .ld1 (.t 27)⟩,
  ⟨some 29, none, none, false, .mov (.t 5)⟩,
  ⟨some 30, none, none, false, .ixa 9 (.t 28) (.t 29)⟩,
  ⟨some 31, none, none, false, .fa 7 (.t 30)⟩,
  ⟨some 32, none, none, false, .ld1 (.t 31)⟩,
  ⟨some 33, none, none, false, .fa 1 (.t 1)⟩,
  ⟨some 34, none, none, false, .ld1 (.t 33)⟩,
  ⟨some 35, none, none, false, .mov (.t 5)⟩,
  ⟨some 36, none, none, false, .ixa 9 (.t 34) (.t 35)⟩,
  ⟨some 37, none, none, false, .fa 8 (.t 36)⟩,
  ⟨some 38, none, none, false, .ld1 (.t 37)⟩,
  ⟨some 39, none, none, false, .bin .add 3 true (.t 38) (.v (.int .i64 1))⟩,
  ⟨some 40, none, none, false, .bin .mul 3 false (.t 32) (.t 39)⟩,
  ⟨some 41, none, none, false, .bin .add 3 false (.t 26) (.t 40)⟩,
  ⟨some 4, none, none, false, .mov (.t 41)⟩]))) (.ops [⟨some 15, none, none, false, .mov (.t 5)⟩,
  ⟨some 16, none, none, false, .bin .add 3 true (.t 15) (.v (.int .i64 1))⟩,
  ⟨some 5, none, none, false, .mov (.t 16)⟩])))
/-- strobe/stroberef04.Size; results .tmp 2 -/
def r38 : RC := (.seq (.ops [⟨some 1, none, none, false, .box 31 (.t 0)⟩,
  ⟨some 2, none, none, false, .mov (.v (.int .i64 0))⟩]) (.seq (.ops [⟨some 6, none, none, false, .fa 0 (.t 1)⟩,
  ⟨some 7, none, none, false, .ld1 (.t 6)⟩,
  ⟨some 8, none, none, false, .bin .shl 3 true (.v (.int .i64 1)) (.t 7)⟩,
  ⟨some 9, none, none, false, .bin .add 3 true (.t 8) (.v (.int .i64 1))⟩,
  ⟨some 3, none, none, false, .mov (.t 9)⟩]) (.seq (.ops [⟨some 4, none, none, false, .mov (.v (.int .i64 0))⟩]) (.seq (.seq (.ops [⟨some 5, none, none, false, .mov (.v (.int .i64 0))⟩]) (.block 0 (.loop r38_l0))) (.seq (.ops [⟨some 42, none, none, false, .mov (.t 3)⟩,
  ⟨some 43, none, none, false, .mov (.t 4)⟩,
  ⟨some 44, none, none, false, .raw (.call { callee := .builtin .min, args := #[(.tmp 43), (.const (.int .i64 65537))], argTypes := #[3, 3] })⟩,
  ⟨some 45, none, none, false, .call 100 [(.t 42), (.t 44)]⟩,
  ⟨some 2, none, none, false, .mov (.t 45)⟩]) .ret)))))
theorem k38 : fnRC 38 = some ([.tmp 2], r38) := by kernel_rfl

end Go.Am

set_option linter.all false
namespace Go.Am
open Go
variable [MaxLen]
set_option maxRecDepth 100000
set_option maxHeartbeats 8000000

theorem calv_fn (X : Cx) (g : FuncId) (x y args : List AV) (s : St) : calv X (.fn (.func g) x y) args s = callK X (calV X g (x ++ args ++ y)) g (x ++ args ++ y) s := by
  rw [← callK_eq]; rfl
attribute [go_sem] calv_fn List.nil_append List.append_nil List.cons_append
def lim (a b : Int) : Int := min (IntKind.i64.wrap (a * b)) 65537
theorem c100 (a b : Int) : calV U 100 [.int .i64 a, .int .i64 b] = some (.int .i64 (lim a b)) := by
  refine pure_go k100 (by kernel_rfl) rfl ?_
  simp +contextual only [go_sem, ↓reduceIte, r100]
  rfl
theorem c170 (a b : Int) : calV U 170 [.int .i64 a, .int .i64 b] = some (.int .i64 (lim a b)) := by
  refine pure_go k170 (by kernel_rfl) rfl ?_
  simp +contextual only [go_sem, ↓reduceIte, r170]
  rfl
def isComp (k : Str) : Bool := k == [110, 111, 116] || (k == [97, 108, 108] || k == [97, 110, 121])
theorem c213 (c : Cond) : calV U 213 [encC c] = some (.bool (isComp c.kind)) := by
  refine pure_go k213 (by kernel_rfl) (by simp [stills, still_encC]) ?_
  rw [encC_cells]
  simp +contextual only [go_sem, ↓reduceIte, r213, Cond.cells, noAgg_encS, br_tt]
  rw [isComp]
  cases c.kind == [110, 111, 116] <;> rfl
theorem c192 (c : Cond) : calV U 192 [encC c] = some (.int .i64 (IntKind.i64.wrap (c.ma + 3))) := by
  refine pure_go k192 (by kernel_rfl) (by simp [stills, still_encC]) ?_
  rw [encC_cells]
  simp +contextual only [go_sem, ↓reduceIte, r192, Cond.cells, noAgg_encS]
theorem c193 (c : Cond) : calV U 193 [encC c] = some (.int .i64 (IntKind.i64.wrap (c.mi + 2))) := by
  refine pure_go k193 (by kernel_rfl) (by simp [stills, still_encC]) ?_
  rw [encC_cells]
  simp +contextual only [go_sem, ↓reduceIte, r193, Cond.cells, noAgg_encS]
theorem c194 (c : Cond) : calV U 194 [encC c] = some (.int .i64 1) := by
  refine pure_go k194 (by kernel_rfl) (by simp [stills, still_encC]) ?_
  rw [encC_cells]
  simp +contextual only [go_sem, ↓reduceIte, r194, Cond.cells, noAgg_encS]
theorem c195 (c : Cond) : calV U 195 [encC c] = some (.int .i64 0) := by
  refine pure_go k195 (by kernel_rfl) (by simp [stills, still_encC]) ?_
  rw [encC_cells]
  simp +contextual only [go_sem, ↓reduceIte, r195, Cond.cells, noAgg_encS]
theorem c208 (c : Cond) : calV U 208 [encC c] = some (.int .i64 c.mi) := by
  refine pure_go k208 (by kernel_rfl) (by simp [stills, still_encC]) ?_
  rw [encC_cells]
  simp +contextual only [go_sem, ↓reduceIte, r208, Cond.cells, noAgg_encS]
theorem c210 (c : Cond) : calV U 210 [encC c] = some (.int .i64 4) := by
  refine pure_go k210 (by kernel_rfl) (by simp [stills, still_encC]) ?_
  rw [encC_cells]
  simp +contextual only [go_sem, ↓reduceIte, r210, Cond.cells, noAgg_encS]
def leafSize (d : Kd) (c : Cond) : Int := match d with
  | .pulse | .gap => IntKind.i64.wrap (c.ma + 3)
  | .idle | .setup => IntKind.i64.wrap (c.mi + 2)
  | .runt => 4
  | _ => 1
def Kd.leaf : Kd → Bool
  | .not_ | .all_ | .any_ | .other => false
  | _ => true
theorem size_call (d : Kd) (h : d.leaf = true) (c : Cond) (s : St) : calv U (kSize d) [encC c] s = some (.int .i64 (leafSize d c), s) := by
  cases d <;> first | cases h | skip
  all_goals simp only [kSize, calv_fn, List.nil_append, List.append_nil, c192, c193, c194, c210, callK_some, leafSize]
theorem isComp_kd (k : Str) (h : (kdOf k).known = true) : isComp k = !(kdOf k).leaf := by
  obtain ⟨h0, h1, h2, h3, h4, h5, h6, h7, h8, h9, h10, h11, h12, h13, h14⟩ := kd_facts k
  rw [isComp, h12, h13, h14]
  generalize kdOf k = d at *
  cases d <;> first | rfl | cases h
mutual
def Cond.allKnown : Cond → Bool
  | .mk k _ _ _ _ _ _ kids => (kdOf k).known && ((kdOf k).leaf || knownL kids)
def knownL : List Cond → Bool
  | [] => true
  | c :: l => c.allKnown && knownL l
end
theorem knownL_mem : ∀ {l : List Cond}, knownL l = true → ∀ c ∈ l, c.allKnown = true
  | c :: l, h, x, hx => by
    rw [knownL, Bool.and_eq_true] at h
    rcases List.mem_cons.1 hx with rfl | hx
    · exact h.1
    · exact knownL_mem h.2 x hx
mutual
def szP : Cond → Int
  | .mk k a b mi ma p nl kids => bif (kdOf k).leaf then leafSize (kdOf k) (.mk k a b mi ma p nl kids) else szPL kids 1
def szPL : List Cond → Int → Int
  | [], x => x
  | c :: l, x => szPL l (lim x (szP c))
end
theorem c171 : ∀ c : Cond, c.fits → c.allKnown = true → calV U 171 [encC c] = some (.int .i64 (szP c)) := by
  intro c
  induction c using Cond.ind with
  | h kind a b mi ma pat nl kids ih =>
  intro hf hk
  rw [Cond.fits] at hf
  obtain ⟨f1, f2, f3⟩ := hf
  rw [Cond.allKnown, Bool.and_eq_true] at hk
  obtain ⟨hk1, hk2⟩ := hk
  refine pure_go k171 (by kernel_rfl) (by simp [stills, still_encC]) ?_
  have h213 := c213 (.mk kind a b mi ma pat nl kids)
  have hcall : (kdOf kind).leaf = true → ∀ s, calv U (kSize (kdOf kind)) [encC (.mk kind a b mi ma pat nl kids)] s = some (.int .i64 (leafSize (kdOf kind) (.mk kind a b mi ma pat nl kids)), s) := fun h s => size_call _ h _ s
  have hlk := lookup_kinds0 kind
  rw [show (Cond.mk kind a b mi ma pat nl kids).kind = kind from rfl, isComp_kd kind hk1] at h213
  rw [szP]
  rw [encC] at h213 hcall ⊢
  rw [kindV] at hlk
  generalize leafSize (kdOf kind) (.mk kind a b mi ma pat nl kids) = ls at *
  cases hlf : (kdOf kind).leaf
  · rw [hlf] at h213 hk2
    simp (config := { maxSteps := 2000000 }) +contextual only [go_sem, ↓reduceIte, r171, h213, lenL_encS, encL_len, noAgg_encS]
    rw [Bool.false_or] at hk2
    refine loop_to (σ := Nat × Int) (fun x => kids.length - x.1) (fun x => some (AV.int .i64 (szPL (kids.drop x.1) x.2))) (fun x e s => x.1 ≤ kids.length ∧ Env.get e 3 = .int .i64 x.2 ∧ Env.get e 17 = encS nl (encL kids) ∧ Env.get e 18 = .int .i64 kids.length ∧ Env.get e 19 = .int .i64 x.1) (0, 1) ?_ rfl ?_
    · rintro L ⟨i, acc⟩ e s ⟨hi, h3, h17, h18, h19⟩ IH
      simp only at hi h3 h17 h18 h19 IH ⊢
      by_cases hd : i < kids.length
      · have hx : (encL kids)[i]? = some (encC kids[i]) := by rw [encL_get, List.getElem?_eq_getElem hd]; rfl
        have hw := wrap_succ hd (by omega)
        have hc := ih kids[i] (List.getElem_mem hd) (f3 _ (List.getElem_mem hd)) (knownL_mem hk2 _ (List.getElem_mem hd))
        rw [encC_cells] at hx hc
        simp only [Cond.cells] at hx hc
        rw [encS_ne (encL_ne hd)] at h17
        simp +contextual only [go_sem, ↓reduceIte, r171_l0, h3, h17, h18, h19, nat_lt_dec, hd, hx, hc, c170, noAgg_encS, hw]
        rw [List.drop_eq_getElem_cons hd, szPL]
        refine IH (i + 1, lim acc (szP kids[i])) _ _ (by simp only; omega) ⟨by simp only; omega, ?_, ?_, ?_, ?_⟩ <;> simp +contextual only [go_sem, ↓reduceIte, h3, h17, h18, h19, hw, encS_ne (encL_ne hd)]
      · have : i = kids.length := by omega
        subst this
        simp +contextual only [go_sem, ↓reduceIte, r171_l0, h3, h17, h18, h19, nat_lt_dec, Nat.lt_irrefl]
        rw [List.drop_length, szPL]
    · refine ⟨Nat.zero_le _, ?_, ?_, ?_, ?_⟩ <;> simp +contextual only [go_sem, ↓reduceIte] <;> rfl
  · rw [hlf] at h213
    have hcall := hcall hlf
    simp (config := { maxSteps := 2000000 }) +contextual only [go_sem, ↓reduceIte, r171, h213, c156, hlk, noAgg_encS, hcall]
end Go.Am

set_option linter.all false
namespace Go.Am
open Go
variable [MaxLen]
set_option maxRecDepth 100000
set_option maxHeartbeats 8000000

theorem bin_shl1 (X : Cx) (t : TypeId) (c : Bool) (j : IntKind) {n : Int} (h : 0 ≤ n ∧ n ≤ 16) : binA X .shl t c (.int .i64 1) (.int j n) = some (.int .i64 (2 ^ n.toNat)) := by
  obtain ⟨h0, h1⟩ := h
  have hn : ¬ n < 0 := by omega
  simp only [binA, shiftA, hn, if_false]
  have hm : min n.toNat IntKind.i64.bits = n.toNat := by
    have : IntKind.i64.bits = 64 := rfl
    rw [this]; omega
  rw [hm, Int.one_mul]
  have hp : (2 : Int) ^ n.toNat ≤ 2 ^ 16 := by
    have h2 : (2 : Nat) ^ n.toNat ≤ 2 ^ 16 := Nat.pow_le_pow_right (by omega) (by omega)
    exact_mod_cast h2
  have hp0 : (0 : Int) ≤ 2 ^ n.toNat := Int.pow_nonneg (by omega)
  rw [wrap_i64 (by omega) (by omega)]
def stepsP : List Step → Int → Int → Int × Int
  | [], n, x => (n, x)
  | s :: l, n, x => stepsP l (lim n (szP s.cond)) (IntKind.i64.wrap (x + IntKind.i64.wrap (s.times * IntKind.i64.wrap (s.within + 1))))
def sizeP (p : Prog) : Int := lim (stepsP p.steps (IntKind.i64.wrap (2 ^ p.lines.toNat + 1)) 0).1 (stepsP p.steps (IntKind.i64.wrap (2 ^ p.lines.toNat + 1)) 0).2
theorem c102 (p : Prog) (hf : p.fits) (hl : 0 ≤ p.lines ∧ p.lines ≤ 16) (hk : ∀ s ∈ p.steps, s.cond.allKnown = true) : calV U 102 [encP p] = some (.int .i64 (sizeP p)) := by
  obtain ⟨lines, nl, steps⟩ := p
  obtain ⟨f1, f2⟩ := hf
  simp only at f1 f2 hl hk
  refine pure_go k102 (by kernel_rfl) (by simp [stills, still_encP]) ?_
  rw [encP_eq, sizeP]
  simp (config := { maxSteps := 2000000 }) +contextual only [go_sem, ↓reduceIte, r102, lenL_encS, encSteps_len, cells_encS, noAgg_encS, bin_shl1 U _ _ _ hl]
  refine loop_to (σ := Nat × Int × Int) (fun x => steps.length - x.1) (fun x => some (AV.int .i64 (lim (stepsP (steps.drop x.1) x.2.1 x.2.2).1 (stepsP (steps.drop x.1) x.2.1 x.2.2).2))) (fun x e s => x.1 ≤ steps.length ∧ Env.get e 3 = .int .i64 x.2.1 ∧ Env.get e 4 = .int .i64 x.2.2 ∧ Env.get e 12 = encS nl (encSteps steps) ∧ Env.get e 13 = .int .i64 steps.length ∧ Env.get e 14 = .int .i64 x.1) (0, IntKind.i64.wrap (2 ^ lines.toNat + 1), 0) ?_ rfl ?_
  · rintro L ⟨i, n, x⟩ e s ⟨hi, h3, h4, h12, h13, h14⟩ IH
    simp only at hi h3 h4 h12 h13 h14 IH ⊢
    by_cases hd : i < steps.length
    · have hx : (encSteps steps)[i]? = some (encStep steps[i]) := by rw [encSteps_get, List.getElem?_eq_getElem hd]; rfl
      have hw := wrap_succ hd (by omega)
      have hc := c171 steps[i].cond (f2 _ (List.getElem_mem hd)) (hk _ (List.getElem_mem hd))
      rw [encC_cells] at hc
      simp only [Cond.cells, encStep] at hx hc
      rw [encS_ne (encSteps_ne hd)] at h12
      simp +contextual only [go_sem, ↓reduceIte, r102_l0, h3, h4, h12, h13, h14, nat_lt_dec, hd, hx, hc, c170, noAgg_encS, hw]
      rw [List.drop_eq_getElem_cons hd, stepsP]
      refine IH (i + 1, lim n (szP steps[i].cond), IntKind.i64.wrap (x + IntKind.i64.wrap (steps[i].times * IntKind.i64.wrap (steps[i].within + 1)))) _ _ (by simp only; omega) ⟨by simp only; omega, ?_, ?_, ?_, ?_, ?_⟩ <;> simp +contextual only [go_sem, ↓reduceIte, h3, h4, h12, h13, h14, hw, encS_ne (encSteps_ne hd)]
    · have : i = steps.length := by omega
      subst this
      simp +contextual only [go_sem, ↓reduceIte, r102_l0, h3, h4, h12, h13, h14, nat_lt_dec, Nat.lt_irrefl, c170]
      rw [List.drop_length, stepsP]
  · refine ⟨Nat.zero_le _, ?_, ?_, ?_, ?_, ?_⟩ <;> simp +contextual only [go_sem, ↓reduceIte] <;> rfl

/-! what a program that is in order is -/
theorem ckR_known (lines : Int) : ∀ (c : Cond) (d : Int), ckR lines c d = 0 → c.allKnown = true ∧ ((kdOf c.kind).leaf = true → c.kids = []) := by
  intro c
  induction c using Cond.ind with
  | h kind a b mi ma pat nl kids ih =>
  intro d h
  rw [ckR] at h
  have ne : ∀ {p : Bool} {e x : Int}, (e ≠ 0) → br p e x = 0 → p = false ∧ x = 0 := fun {p e x} he h => by
    cases p
    · exact ⟨rfl, h⟩
    · exact absurd h he
  obtain ⟨_, h⟩ := ne (by omega) h
  obtain ⟨hk, h⟩ := ne (by omega) h
  obtain ⟨hu, h⟩ := ne (by omega) h
  obtain ⟨_, h⟩ := ne (by omega) h
  obtain ⟨_, h⟩ := ne (by omega) h
  obtain ⟨_, h⟩ := ne (by omega) h
  obtain ⟨_, h⟩ := ne (by omega) h
  obtain ⟨_, h⟩ := ne (by omega) h
  obtain ⟨_, h⟩ := ne (by omega) h
  obtain ⟨_, h⟩ := ne (by omega) h
  obtain ⟨_, h⟩ := ne (by omega) h
  have hk : (kdOf kind).known = true := by simpa using hk
  have hkids : (kdOf kind).leaf = true → kids = [] := fun hl => by
    have hun : (usesOf (kdOf kind)).kids = false := by
      cases hd : kdOf kind <;> rw [hd] at hl <;> first | rfl | cases hl
    simp only [Bool.or_eq_false_iff, Bool.and_eq_false_iff, hun] at hu
    have := hu.2
    simp only [Bool.not_false, Bool.true_eq_false, decide_eq_false_iff_not, false_or] at this
    cases kids with
    | nil => rfl
    | cons c l => simp at this
  refine ⟨?_, hkids⟩
  rw [Cond.allKnown, hk, Bool.true_and]
  cases hl : (kdOf kind).leaf
  · rw [Bool.false_or]
    have : ∀ l : List Cond, (∀ x ∈ l, x ∈ kids) → ckRL lines l (IntKind.i64.wrap (d + 1)) = 0 → knownL l = true := by
      intro l
      induction l with
      | nil => intro _ _; rfl
      | cons c l ihl =>
        intro hl h
        rw [ckRL] at h
        cases hb : ckR lines c (IntKind.i64.wrap (d + 1)) != 0
        · rw [hb, br_false] at h
          rw [knownL, ihl (fun x hx => hl x (List.mem_cons_of_mem _ hx)) h, (ih c (hl c (List.mem_cons_self ..)) _ (by simpa using hb)).1]
          rfl
        · rw [hb, br_true] at h
          rw [h] at hb; cases hb
    exact this kids (fun _ h => h) h
  · rfl
end Go.Am

set_option linter.all false
namespace Go.Am
open Go
variable [MaxLen]
set_option maxRecDepth 100000
set_option maxHeartbeats 8000000

/-! # The law's own helpers, and the checks of a signal -/

def shortSig (l : List Int) (n : Int) : Bool := decide ((l.length : Int) ≤ n) || decide ((l.length : Int) > 4096) && decide ((l.length : Int) ≤ 4098)
theorem c22 (nl : Bool) (l : List Int) (n : Int) : calV U 22 [encS nl (ints l), .int .i64 n] = some (.bool (shortSig l n)) := by
  refine pure_go k22 (by kernel_rfl) (by simp [stills, still_encS, still]) ?_
  rw [shortSig]
  simp (config := { maxSteps := 2000000 }) +contextual only [go_sem, ↓reduceIte, r22, lenL_encS, ints_len]

theorem g25 (l : List Int) (hlen : l.length < 2 ^ 62) : go U (finP U [.tmp 2]) [] r25 (bindArgs 0 [.fz (ints l)] .nil) (ownSt U) = some (.int .i64 (firstOf l)) := by
  simp +contextual only [go_sem, ↓reduceIte, r25]
  refine loop_to (σ := Nat) (fun i => l.length - i) (fun i => some (AV.int .i64 (firstOf (l.drop i)))) (fun i e s => i ≤ l.length ∧ Env.get e 0 = .fz (ints l) ∧ Env.get e 3 = .int .i64 i) 0 ?_ rfl ?_
  · rintro L i e s ⟨hi, g0, g3⟩ ih
    by_cases hd : i < l.length
    · have hx : (ints l)[i]? = some (.int .i64 l[i]) := by rw [ints_get, List.getElem?_eq_getElem hd]; rfl
      have hw : IntKind.i64.wrap ((i : Int) + 1) = ((i + 1 : Nat) : Int) := by rw [wrap_i64] <;> omega
      simp +contextual only [go_sem, ↓reduceIte, r25_l0, g0, g3, nat_lt_dec, hd, hx, ints_len]
      rw [List.drop_eq_getElem_cons hd, firstOf]
      cases hb : l[i] != 0
      · simp only [go_sem, hw]
        refine ih (i + 1) _ _ (by omega) ⟨by omega, ?_, ?_⟩ <;> simp +contextual only [go_sem, ↓reduceIte, g0, g3, hw]
      · simp +contextual only [go_sem, ↓reduceIte, g0, g3, hx]
    · have : i = l.length := by omega
      subst this
      simp +contextual only [go_sem, ↓reduceIte, r25_l0, g0, g3, nat_lt_dec, Nat.lt_irrefl, ints_len]
      rw [List.drop_length]; rfl
  · refine ⟨Nat.zero_le _, ?_, ?_⟩ <;> simp +contextual only [go_sem, ↓reduceIte, ints_len] <;> rfl

def sameB : List Bool → List Bool → Bool
  | [], [] => true
  | a :: x, b :: y => bif a != b then false else sameB x y
  | _, _ => false
theorem sameB_len : ∀ {a b : List Bool}, a.length ≠ b.length → sameB a b = false
  | [], [], h => absurd rfl h
  | [], _ :: _, _ => rfl
  | _ :: _, [], _ => rfl
  | a :: x, b :: y, h => by
    rw [sameB, sameB_len (fun e => h (by simp [e]))]
    cases a != b <;> rfl
theorem sameB_refl : ∀ a : List Bool, sameB a a = true
  | [] => rfl
  | a :: x => by rw [sameB, sameB_refl x]; simp
theorem bools_get (l : List Bool) (i : Nat) : (bools l)[i]? = (l[i]?).map .bool := by simp [bools]
theorem c29 (na nb : Bool) (a b : List Bool) (ha : a.length < 2 ^ 62) : calV U 29 [encS na (bools a), encS nb (bools b)] = some (.bool (sameB a b)) := by
  refine pure_go k29 (by kernel_rfl) (by simp [stills, still_encS, still]) ?_
  simp (config := { maxSteps := 2000000 }) +contextual only [go_sem, ↓reduceIte, r29, lenL_encS, bools_len]
  cases hl : ((a.length : Int) != (b.length : Int)) with
  | true =>
    have : a.length ≠ b.length := by simp at hl; omega
    rw [sameB_len this]
    simp +contextual only [go_sem, ↓reduceIte]
  | false =>
    have hl : a.length = b.length := by simp at hl; omega
    simp +contextual only [go_sem, ↓reduceIte]
    refine loop_to (σ := Nat) (fun i => a.length - i) (fun i => some (AV.bool (sameB (a.drop i) (b.drop i)))) (fun i e s => i ≤ a.length ∧ Env.get e 0 = encS na (bools a) ∧ Env.get e 1 = encS nb (bools b) ∧ Env.get e 5 = .int .i64 i) 0 ?_ rfl ?_
    · rintro L i e s ⟨hi, g0, g1, g5⟩ ih
      by_cases hd : i < a.length
      · have hd' : i < b.length := by omega
        have hx : ixRA 1 (encS na (bools a)) (.int .i64 (i : Int)) = some (.fp [.bool a[i]] 0) := ixa_encS 1 na (bools a) .i64 i (.bool a[i]) (by omega) (by rw [Int.toNat_natCast, bools_get, List.getElem?_eq_getElem hd]; rfl) rfl (by decide)
        have hy : ixRA 1 (encS nb (bools b)) (.int .i64 (i : Int)) = some (.fp [.bool b[i]] 0) := ixa_encS 1 nb (bools b) .i64 i (.bool b[i]) (by omega) (by rw [Int.toNat_natCast, bools_get, List.getElem?_eq_getElem hd']; rfl) rfl (by decide)
        have hw := wrap_succ hd (by omega)
        rw [List.drop_eq_getElem_cons hd, List.drop_eq_getElem_cons hd', sameB]
        have hbn : binA U .neq 4 false (.bool a[i]) (.bool b[i]) = some (.bool (a[i] != b[i])) := by
          cases a[i] <;> cases b[i] <;> kernel_rfl
        simp +contextual only [go_sem, ↓reduceIte, r29_l0, g0, g1, g5, nat_lt_dec, hd, hx, hy, lenL_encS, bools_len, hbn]
        cases hb : a[i] != b[i] with
        | true => simp +contextual only [go_sem, ↓reduceIte]
        | false =>
          simp +contextual only [go_sem, ↓reduceIte, hw]
          refine ih (i + 1) _ _ (by omega) ⟨by omega, ?_, ?_, ?_⟩ <;> simp +contextual only [go_sem, ↓reduceIte, g0, g1, g5, hw]
      · have : i = a.length := by omega
        subst this
        simp +contextual only [go_sem, ↓reduceIte, r29_l0, g0, g1, g5, nat_lt_dec, Nat.lt_irrefl, lenL_encS, bools_len]
        rw [List.drop_length, hl, List.drop_length]; rfl
    · refine ⟨Nat.zero_le _, ?_, ?_, ?_⟩ <;> simp +contextual only [go_sem, ↓reduceIte] <;> rfl

theorem pow_le16 (n : Int) (h1 : n ≤ 16) : (1 : Int) ≤ 2 ^ n.toNat ∧ (2 : Int) ^ n.toNat ≤ 65536 := by
  obtain ⟨k, hk⟩ : ∃ k : Nat, n.toNat = k := ⟨_, rfl⟩
  rw [hk]
  have : ∀ k : Fin 17, (1 : Int) ≤ 2 ^ k.val ∧ (2 : Int) ^ k.val ≤ 65536 := by decide
  exact this ⟨k, by omega⟩

def anyOut (lines : Int) (l : List Int) : Bool := l.any fun x => outside x 0 (2 ^ lines.toNat - 1)
def ckSig (lines : Int) (l : List Int) : Int := br (decide ((l.length : Int) > 4096)) 5 (br (anyOut lines l) 3 0)
theorem c28 (lines : Int) (h0 : 1 ≤ lines) (h1 : lines ≤ 16) (nl : Bool) (l : List Int) : calV U 28 [.int .i64 lines, encS nl (ints l)] = some (.int .i64 (ckSig lines l)) := by
  refine pure_go k28 (by kernel_rfl) (by simp [stills, still_encS, still]) ?_
  rw [ckSig]
  simp (config := { maxSteps := 2000000 }) +contextual only [go_sem, ↓reduceIte, r28, lenL_encS, ints_len]
  simp only [brI_some]
  refine br_r fun hle => ?_
  have hle : l.length ≤ 4096 := by simp at hle; omega
  refine loop_to (σ := Nat) (fun i => l.length - i) (fun i => some (AV.int .i64 (br (anyOut lines (l.drop i)) 3 0))) (fun i e s => i ≤ l.length ∧ Env.get e 0 = .int .i64 lines ∧ Env.get e 1 = encS nl (ints l) ∧ Env.get e 5 = .int .i64 i) 0 ?_ ?_ ?_
  · rintro L i e s ⟨hi, g0, g1, g5⟩ ih
    by_cases hd : i < l.length
    · have hx := ixa_sigN (nl := nl) hd
      have hw := wrap_succ hd (by omega)
      have hp := pow_le16 lines h1
      have hw2 : IntKind.i64.wrap (2 ^ lines.toNat - 1) = 2 ^ lines.toNat - 1 := by rw [wrap_i64] <;> omega
      have hat : atI l (i : Int) = l[i] := by unfold atI; rw [Int.toNat_natCast, List.getD_eq_getElem?_getD, List.getElem?_eq_getElem hd]; rfl
      rw [hat] at hx
      simp +contextual only [go_sem, ↓reduceIte, r28_l0, g0, g1, g5, nat_lt_dec, hd, hx, lenL_encS, ints_len, bin_shl1 U _ _ _ (show 0 ≤ lines ∧ lines ≤ 16 from ⟨by omega, h1⟩), hw2, c94]
      rw [List.drop_eq_getElem_cons hd, anyOut, List.any_cons]
      cases hb : outside l[i] 0 (2 ^ lines.toNat - 1) with
      | true => simp +contextual only [go_sem, ↓reduceIte, Bool.true_or]
      | false =>
        simp +contextual only [go_sem, ↓reduceIte, hw, Bool.false_or]
        refine ih (i + 1) _ _ (by omega) ⟨by omega, ?_, ?_, ?_⟩ <;> simp +contextual only [go_sem, ↓reduceIte, g0, g1, g5, hw]
    · have : i = l.length := by omega
      subst this
      simp +contextual only [go_sem, ↓reduceIte, r28_l0, g0, g1, g5, nat_lt_dec, Nat.lt_irrefl, lenL_encS, ints_len]
      rw [List.drop_length]; rfl
  · simp only [List.drop_zero, brI_some]
  · refine ⟨Nat.zero_le _, ?_, ?_, ?_⟩ <;> simp +contextual only [go_sem, ↓reduceIte] <;> rfl
end Go.Am

set_option linter.all false
namespace Go.Am
open Go
variable [MaxLen]
set_option maxRecDepth 100000
set_option maxHeartbeats 8000000

/-! # The program's steps of conditions without elements -/

def encSm (now last : Int) (first : Bool) : AV := .agg [.int .i64 now, .int .i64 last, .bool first]
def hiI (n k : Int) : Bool := bitI n k == 1
def okSy (n : Int) : Prop := 0 ≤ n ∧ n < 65536

theorem c198 (now last : Int) (first : Bool) (k : Int) (h : okSy now) (h2 : 0 ≤ k) (h3 : k < 64) : calV U 198 [encSm now last first, .int .i64 k] = some (.bool (hiI now k)) := by
  refine pure_go k198 (by kernel_rfl) rfl ?_
  have := div_le k.toNat h.1
  have h4 := h.2
  simp +contextual only [go_sem, ↓reduceIte, r198, encSm, bin_shr _ _ _ _ h2 (show k ≤ 64 by omega), bin_and1 _ _ _ this.1 (by omega)]
  rfl
theorem c201 (now last : Int) (first : Bool) (k : Int) (h : okSy last) (h2 : 0 ≤ k) (h3 : k < 64) : calV U 201 [encSm now last first, .int .i64 k] = some (.bool (hiI last k)) := by
  refine pure_go k201 (by kernel_rfl) rfl ?_
  have := div_le k.toNat h.1
  have h4 := h.2
  simp +contextual only [go_sem, ↓reduceIte, r201, encSm, bin_shr _ _ _ _ h2 (show k ≤ 64 by omega), bin_and1 _ _ _ this.1 (by omega)]
  rfl

theorem decodeL_ascii (c : UInt8) (l : Str) (h : c.toNat < 128) : decodeL (c :: l) = (c.toNat, 1) := by
  unfold decodeL
  simp only [List.getElem?_cons_zero, Option.getD_some]
  rw [if_pos h]
theorem opA_range {e : Env} {s : St} {k : Nat} {b : Str} (h : Env.get e k = .str b) : opA U (execL U) e (.range 9 (.tmp k)) s = some (.ptr s.next 0, s.new (.iter b 0)) := by
  have h9 : U.und 9 = some .string := by kernel_rfl
  simp only [opA, eval, h, h9]
theorem opA_next0 {e : Env} {s : St} {k r pos : Nat} (h : Env.get e k = .ptr r 0) (hs : s.get r = some (.iter [] pos)) : opA U (execL U) e (.next (.tmp k) true) s = some (.tup [.bool false], s) := by
  simp only [opA, eval, h, hs]
theorem opA_next1 {e : Env} {s : St} {k r pos : Nat} {c : UInt8} {b : Str} (h : Env.get e k = .ptr r 0) (hs : s.get r = some (.iter (c :: b) pos)) (hc : c.toNat < 128) :
    opA U (execL U) e (.next (.tmp k) true) s = some (.tup [.bool true, .int .i64 pos, .int .i32 c.toNat], s.put r (.iter b (pos + 1))) := by
  simp only [opA, eval, h, hs, decodeL_ascii c b hc, List.drop_succ_cons, List.drop_zero]
theorem opA_conv321 {e : Env} {s : St} {k : Nat} {j : IntKind} {n : Int} (h : Env.get e k = .int j n) : opA U (execL U) e (.convert 3 21 (.tmp k)) s = some (.int .i32 (IntKind.i32.wrap n), s) := by
  have h3 : U.und 3 = some (.int .i64) := by kernel_rfl
  have h21 : U.und 21 = some (.int .i32) := by kernel_rfl
  simp only [opA, eval, h, convA, h3, h21]

theorem c204 (pat : Str) (sym : Int) (hs : okSy sym) (hp : pat.length ≤ 16) (hok : ∀ c ∈ pat, c = 48 ∨ c = 49 ∨ c = 120) : calV U 204 [.str pat, .int .i64 sym] = some (.bool (mtR sym 0 pat)) := by
  refine pure_go k204 (by kernel_rfl) rfl ?_
  have hs1 := hs.1
  have hs2 := hs.2
  have hrg := @opA_range _ (k := 7) (b := pat)
  simp +contextual only [go_sem, ↓reduceIte, r204, hrg]
  refine loop_to (σ := Nat) (fun i => pat.length - i) (fun i => some (AV.bool (mtR sym i (pat.drop i)))) (fun i e s => i ≤ pat.length ∧ Env.get e 8 = .ptr 8 0 ∧ Env.get e 1 = .int .i64 sym ∧ s.get 8 = some (.iter (pat.drop i) i)) 0 ?_ rfl ?_
  · rintro L i e s ⟨hi, h8, h1, hit⟩ ih
    by_cases hd : i < pat.length
    · rw [List.drop_eq_getElem_cons hd] at hit
      have hc := hok pat[i] (List.getElem_mem hd)
      have hc128 : pat[i].toNat < 128 := by rcases hc with h | h | h <;> rw [h] <;> decide
      have hn := opA_next1 h8 hit hc128
      have hb := div_le i hs1
      have hbit := bitI_le sym (i : Int)
      have e1 := bin_shr 3 false sym (i : Int) (by omega) (by omega)
      rw [Int.toNat_natCast] at e1
      have e2 := bin_and1 3 true (sym / 2 ^ i) hb.1 (by omega)
      have e2' : sym / 2 ^ i % 2 = bitI sym (i : Int) := rfl
      rw [e2'] at e2
      have hw1 : IntKind.i64.wrap (48 + bitI sym (i : Int)) = 48 + bitI sym (i : Int) := by rw [wrap_i64] <;> omega
      have hw2 : IntKind.i32.wrap (48 + bitI sym (i : Int)) = 48 + bitI sym (i : Int) := by rcases hbit with h | h <;> rw [h] <;> decide
      rw [List.drop_eq_getElem_cons hd, mtR, mtBad]
      have next : ∀ e', Env.get e' 8 = .ptr 8 0 → Env.get e' 1 = .int .i64 sym → goL U (finP U [.tmp 4]) [K.bk 0, K.sq ((RC.ops [⟨some 4, none, none, false, .mov (.v (.bool true))⟩]).seq RC.ret)] L e' (s.put 8 (.iter (pat.drop (i + 1)) (i + 1))) = some (AV.bool (mtR sym (i + 1) (pat.drop (i + 1)))) :=
        fun e' q8 q1 => ih (i + 1) _ _ (by omega) ⟨by omega, q8, q1, by rw [get_put, if_pos rfl]⟩
      rcases hc with h | h | h <;> rw [h] at hn ⊢
      · have hcc : ((48 : UInt8).toNat : Int) = 48 := rfl
        rw [hcc] at hn
        rcases hbit with hz | hz <;> rw [hz] at e2 hw1 hw2 ⊢
        · simp +contextual only [go_sem, ↓reduceIte, r204_l0, h8, h1, hn, e1, e2, e2', hz, hw1, opA_conv321 (k := 21) (j := .i64) (n := 48 + 0), hw2]
          refine next _ ?_ ?_ <;> simp +contextual only [go_sem, ↓reduceIte, h8, h1]
        · simp +contextual only [go_sem, ↓reduceIte, r204_l0, h8, h1, hn, e1, e2, e2', hz, hw1, opA_conv321 (k := 21) (j := .i64) (n := 48 + 1), hw2]
          rfl
      · have hcc : ((49 : UInt8).toNat : Int) = 49 := rfl
        rw [hcc] at hn
        rcases hbit with hz | hz <;> rw [hz] at e2 hw1 hw2 ⊢
        · simp +contextual only [go_sem, ↓reduceIte, r204_l0, h8, h1, hn, e1, e2, e2', hz, hw1, opA_conv321 (k := 21) (j := .i64) (n := 48 + 0), hw2]
          rfl
        · simp +contextual only [go_sem, ↓reduceIte, r204_l0, h8, h1, hn, e1, e2, e2', hz, hw1, opA_conv321 (k := 21) (j := .i64) (n := 48 + 1), hw2]
          refine next _ ?_ ?_ <;> simp +contextual only [go_sem, ↓reduceIte, h8, h1]
      · have hcc : ((120 : UInt8).toNat : Int) = 120 := rfl
        rw [hcc] at hn
        simp +contextual only [go_sem, ↓reduceIte, r204_l0, h8, h1, hn]
        refine next _ ?_ ?_ <;> simp +contextual only [go_sem, ↓reduceIte, h8, h1]
    · have : i = pat.length := by omega
      subst this
      rw [List.drop_length] at hit
      have hn := opA_next0 h8 hit
      simp +contextual only [go_sem, ↓reduceIte, r204_l0, h8, h1, hn]
      rw [List.drop_length]; rfl
  · refine ⟨Nat.zero_le _, ?_, ?_, ?_⟩ <;> simp +contextual only [go_sem, ↓reduceIte, List.drop_zero]
end Go.Am

set_option linter.all false
namespace Go.Am
open Go
variable [MaxLen]
set_option maxRecDepth 100000
set_option maxHeartbeats 8000000

theorem bin_beq4 (c : Bool) (a b : Bool) : binA U .eql 4 c (.bool a) (.bool b) = some (.bool (a == b)) := by
  cases c <;> cases a <;> cases b <;> kernel_rfl
theorem bin_bne4 (c : Bool) (a b : Bool) : binA U .neq 4 c (.bool a) (.bool b) = some (.bool (a != b)) := by
  cases c <;> cases a <;> cases b <;> kernel_rfl

/-- a condition whose fields a step may use -/
structure Cond.stp (c : Cond) : Prop where
  a : 0 ≤ c.a ∧ c.a < 16
  b : 0 ≤ c.b ∧ c.b < 16
  mi : 0 ≤ c.mi ∧ c.mi ≤ 255
  ma : 0 ≤ c.ma ∧ c.ma ≤ 255
  pat : c.pat.length ≤ 16
  pat' : ∀ x ∈ c.pat, x = 48 ∨ x = 49 ∨ x = 120
theorem Cond.wf.stp {c : Cond} (h : c.wf) : c.stp := by
  cases c
  rw [Cond.wf] at h
  obtain ⟨ha, hb, hm, hM, hp, hp', -⟩ := h
  exact ⟨ha, hb, hm, hM, hp, hp'⟩

def runP (lv : Bool) (c : Cond) (st : Int) (h w first : Bool) : Int × Bool :=
  bif !(h == lv) then (0, (w == lv) && decide (st ≥ c.mi) && decide (st ≤ c.ma))
  else bif first then (c.ma + 1, false) else bif !(w == lv) then (1, false) else (min (st + 1) (c.ma + 1), false)
def idleP (c : Cond) (st : Int) (h w first : Bool) : Int × Bool :=
  let s1 := min ((bif first || h != w then 0 else st) + 1) (c.mi + 1)
  (s1, s1 == c.mi)
def setupP (c : Cond) (st : Int) (h w hb wb : Bool) : Int × Bool :=
  let s1 := bif h != w then 0 else min (st + 1) c.mi
  (s1, hb && !wb && decide (s1 < c.mi))
def runtP (st : Int) (h w hb first : Bool) : Int × Bool :=
  bif !h then (0, w && st == 2) else bif !first && !hb && (!w || st == 2) then (2, false) else (1, false)
def stP (d : Kd) (c : Cond) (st now last : Int) (first : Bool) : Int × Bool :=
  let h := hiI now c.a
  let w := hiI last c.a
  match d with
  | .high => (st, h)
  | .low => (st, !h)
  | .rise => (st, h && !w)
  | .fall => (st, !h && w)
  | .pattern => (st, mtR now 0 c.pat)
  | .enter => (st, mtR now 0 c.pat && !mtR last 0 c.pat)
  | .pulse => runP true c st h w first
  | .gap => runP false c st h w first
  | .idle => idleP c st h w first
  | .setup => setupP c st h w (hiI now c.b) (hiI last c.b)
  | .runt => runtP st h w (hiI now c.b) first
  | _ => (st, false)

section
variable (c : Cond) (hc : c.stp) (st now last : Int) (first : Bool) (hn : okSy now) (hl : okSy last) (hs : 0 ≤ st ∧ st ≤ 256)
include hc hn hl
theorem h_a : calV U 198 [.agg [.int .i64 now, .int .i64 last, .bool first], .int .i64 c.a] = some (.bool (hiI now c.a)) := c198 now last first c.a hn hc.a.1 (by have := hc.a.2; omega)
theorem h_b : calV U 198 [.agg [.int .i64 now, .int .i64 last, .bool first], .int .i64 c.b] = some (.bool (hiI now c.b)) := c198 now last first c.b hn hc.b.1 (by have := hc.b.2; omega)
theorem w_a : calV U 201 [.agg [.int .i64 now, .int .i64 last, .bool first], .int .i64 c.a] = some (.bool (hiI last c.a)) := c201 now last first c.a hl hc.a.1 (by have := hc.a.2; omega)
theorem w_b : calV U 201 [.agg [.int .i64 now, .int .i64 last, .bool first], .int .i64 c.b] = some (.bool (hiI last c.b)) := c201 now last first c.b hl hc.b.1 (by have := hc.b.2; omega)
theorem c197 : calV U 197 [encC c, encSm now last first] = some (.bool (hiI now c.a)) := by
  refine pure_go k197 (by kernel_rfl) (by simp [stills, still_encC, still, encSm]) ?_
  have e1 := h_a c hc now last first hn hl
  rw [encC_cells, encSm]
  simp +contextual only [go_sem, ↓reduceIte, r197, Cond.cells, noAgg_encS, e1]
theorem c199 : calV U 199 [encC c, encSm now last first] = some (.bool (!hiI now c.a)) := by
  refine pure_go k199 (by kernel_rfl) (by simp [stills, still_encC, still, encSm]) ?_
  have e1 := h_a c hc now last first hn hl
  rw [encC_cells, encSm]
  simp +contextual only [go_sem, ↓reduceIte, r199, Cond.cells, noAgg_encS, e1]
theorem c200 : calV U 200 [encC c, encSm now last first] = some (.bool (hiI now c.a && !hiI last c.a)) := by
  refine pure_go k200 (by kernel_rfl) (by simp [stills, still_encC, still, encSm]) ?_
  have e1 := h_a c hc now last first hn hl
  have e2 := w_a c hc now last first hn hl
  rw [encC_cells, encSm]
  simp +contextual only [go_sem, ↓reduceIte, r200, Cond.cells, noAgg_encS, e1, e2]
theorem c202 : calV U 202 [encC c, encSm now last first] = some (.bool (!hiI now c.a && hiI last c.a)) := by
  refine pure_go k202 (by kernel_rfl) (by simp [stills, still_encC, still, encSm]) ?_
  have e1 := h_a c hc now last first hn hl
  have e2 := w_a c hc now last first hn hl
  rw [encC_cells, encSm]
  simp +contextual only [go_sem, ↓reduceIte, r202, Cond.cells, noAgg_encS, e1, e2]
theorem c203 : calV U 203 [encC c, encSm now last first] = some (.bool (mtR now 0 c.pat)) := by
  refine pure_go k203 (by kernel_rfl) (by simp [stills, still_encC, still, encSm]) ?_
  have e1 := c204 c.pat now hn hc.pat hc.pat'
  rw [encC_cells, encSm]
  simp +contextual only [go_sem, ↓reduceIte, r203, Cond.cells, noAgg_encS, e1]
theorem c205 : calV U 205 [encC c, encSm now last first] = some (.bool (mtR now 0 c.pat && !mtR last 0 c.pat)) := by
  refine pure_go k205 (by kernel_rfl) (by simp [stills, still_encC, still, encSm]) ?_
  have e1 := c204 c.pat now hn hc.pat hc.pat'
  have e2 := c204 c.pat last hl hc.pat hc.pat'
  rw [encC_cells, encSm]
  simp +contextual only [go_sem, ↓reduceIte, r205, Cond.cells, noAgg_encS, e1, e2]
omit hc hn hl in
theorem c235 {g : FuncId} {b : Bool} (hg : calV U g [encC c, encSm now last first] = some (.bool b)) : calV U 235 [encC c, .int .i64 st, encSm now last first, .fp [.fn (.func g) [] []] 0] = some (.tup [.int .i64 st, .bool b]) := by
  refine pure_go k235 (by kernel_rfl) (by simp [stills, still_encC, still, encSm]) ?_
  rw [encC_cells, encSm] at hg ⊢
  simp only [Cond.cells] at hg ⊢
  simp +contextual only [go_sem, ↓reduceIte, r235, noAgg_encS, hg]
include hs
theorem c236 (lv : Bool) : calV U 236 [encC c, .int .i64 st, encSm now last first, .fp [.bool lv] 0] = some (.tup [.int .i64 (runP lv c st (hiI now c.a) (hiI last c.a) first).1, .bool (runP lv c st (hiI now c.a) (hiI last c.a) first).2]) := by
  refine pure_go k236 (by kernel_rfl) (by simp [stills, still_encC, still, encSm]) ?_
  have e1 := h_a c hc now last first hn hl
  have e2 := w_a c hc now last first hn hl
  have hM := hc.ma
  have w1 : IntKind.i64.wrap (c.ma + 1) = c.ma + 1 := by rw [wrap_i64] <;> omega
  have w2 : IntKind.i64.wrap (st + 1) = st + 1 := by rw [wrap_i64] <;> omega
  rw [encC_cells, encSm, runP]
  cases hh : hiI now c.a == lv <;> cases hw : hiI last c.a == lv <;> cases first
  all_goals simp (config := { maxSteps := 2000000 }) +contextual only [go_sem, ↓reduceIte, r236, Cond.cells, noAgg_encS, e1, e2, bin_beq4, hh, hw, w1, w2, opA_min]
  all_goals rfl
theorem c207 : calV U 207 [encC c, .int .i64 st, encSm now last first] = some (.tup [.int .i64 (idleP c st (hiI now c.a) (hiI last c.a) first).1, .bool (idleP c st (hiI now c.a) (hiI last c.a) first).2]) := by
  refine pure_go k207 (by kernel_rfl) (by simp [stills, still_encC, still, encSm]) ?_
  have e1 := h_a c hc now last first hn hl
  have e2 := w_a c hc now last first hn hl
  have hM := hc.mi
  have w1 : IntKind.i64.wrap (c.mi + 1) = c.mi + 1 := by rw [wrap_i64] <;> omega
  have w2 : IntKind.i64.wrap (st + 1) = st + 1 := by rw [wrap_i64] <;> omega
  have w3 : IntKind.i64.wrap (0 + 1) = 0 + 1 := by decide
  rw [encC_cells, encSm, idleP]
  cases hh : hiI now c.a != hiI last c.a <;> cases first
  all_goals simp (config := { maxSteps := 2000000 }) +contextual only [go_sem, ↓reduceIte, r207, Cond.cells, noAgg_encS, e1, e2, bin_bne4, hh, w1, w2, w3, opA_min]
  all_goals rfl
theorem c209 : calV U 209 [encC c, .int .i64 st, encSm now last first] = some (.tup [.int .i64 (setupP c st (hiI now c.a) (hiI last c.a) (hiI now c.b) (hiI last c.b)).1, .bool (setupP c st (hiI now c.a) (hiI last c.a) (hiI now c.b) (hiI last c.b)).2]) := by
  refine pure_go k209 (by kernel_rfl) (by simp [stills, still_encC, still, encSm]) ?_
  have e1 := h_a c hc now last first hn hl
  have e2 := w_a c hc now last first hn hl
  have e3 := h_b c hc now last first hn hl
  have e4 := w_b c hc now last first hn hl
  have w2 : IntKind.i64.wrap (st + 1) = st + 1 := by rw [wrap_i64] <;> omega
  rw [encC_cells, encSm, setupP]
  cases hh : hiI now c.a != hiI last c.a <;> cases h3 : hiI now c.b <;> cases h4 : hiI last c.b
  all_goals simp (config := { maxSteps := 2000000 }) +contextual only [go_sem, ↓reduceIte, r209, Cond.cells, noAgg_encS, e1, e2, e3, e4, bin_bne4, hh, h3, h4, w2, opA_min]
  all_goals rfl
theorem c211 : calV U 211 [encC c, .int .i64 st, encSm now last first] = some (.tup [.int .i64 (runtP st (hiI now c.a) (hiI last c.a) (hiI now c.b) first).1, .bool (runtP st (hiI now c.a) (hiI last c.a) (hiI now c.b) first).2]) := by
  refine pure_go k211 (by kernel_rfl) (by simp [stills, still_encC, still, encSm]) ?_
  have e1 := h_a c hc now last first hn hl
  have e2 := w_a c hc now last first hn hl
  have e3 := h_b c hc now last first hn hl
  rw [encC_cells, encSm, runtP]
  cases hh : hiI now c.a <;> cases h2 : hiI last c.a <;> cases h3 : hiI now c.b <;> cases first <;> cases h4 : (st == 2)
  all_goals simp (config := { maxSteps := 2000000 }) +contextual only [go_sem, ↓reduceIte, r211, Cond.cells, noAgg_encS, e1, e2, e3, hh, h2, h3, h4]
  all_goals rfl
theorem step_call (d : Kd) (hd : d.leaf = true) (s : St) : calv U (kStep d) [encC c, .int .i64 st, encSm now last first] s = some (.tup [.int .i64 (stP d c st now last first).1, .bool (stP d c st now last first).2], s) := by
  have q1 := c235 c st now last first (c197 c hc now last first hn hl)
  have q2 := c235 c st now last first (c199 c hc now last first hn hl)
  have q3 := c235 c st now last first (c200 c hc now last first hn hl)
  have q4 := c235 c st now last first (c202 c hc now last first hn hl)
  have q5 := c235 c st now last first (c203 c hc now last first hn hl)
  have q6 := c235 c st now last first (c205 c hc now last first hn hl)
  have q7 := c236 c hc st now last first hn hl hs true
  have q8 := c236 c hc st now last first hn hl hs false
  have q9 := c207 c hc st now last first hn hl hs
  have q10 := c209 c hc st now last first hn hl hs
  have q11 := c211 c hc st now last first hn hl hs
  cases d <;> first | cases hd | skip
  all_goals simp only [kStep, calv_fn, List.nil_append, List.append_nil, List.cons_append, q1, q2, q3, q4, q5, q6, q7, q8, q9, q10, q11, callK_some, stP]
end
end Go.Am

set_option linter.all false
namespace Go.Am
open Go
variable [MaxLen]
set_option maxRecDepth 100000
set_option maxHeartbeats 8000000

/-! # The conditions without elements that a condition consists of -/

mutual
def lvs : Cond → List Cond
  | .mk k a b mi ma p nl kids => bif isComp k then lvsL kids else [.mk k a b mi ma p nl kids]
def lvsL : List Cond → List Cond
  | [] => []
  | c :: l => lvs c ++ lvsL l
end
theorem wf_comp {k : Str} {a b mi ma : Int} {p : Str} {nl : Bool} {kids : List Cond} (h : (Cond.mk k a b mi ma p nl kids).wf) : isComp k = (usesOf (kdOf k)).kids := by
  rw [Cond.wf] at h
  have hk := h.2.2.2.2.2.2.1
  rw [isComp_kd k hk]
  generalize kdOf k = d at *
  cases d <;> first | rfl | (simp [Kd.known] at hk)
theorem lvs_ne : ∀ c : Cond, c.wf → lvs c ≠ [] := by
  intro c
  induction c using Cond.ind with
  | h k a b mi ma p nl kids ih =>
  intro h
  have hcm := wf_comp h
  rw [Cond.wf] at h
  obtain ⟨-, -, -, -, -, -, -, -, -, hne, -, -, hk⟩ := h
  rw [lvs]
  cases hc : isComp k with
  | false => simp
  | true =>
    rw [hc] at hcm
    cases kids with
    | nil => exact absurd rfl (hne hcm.symm)
    | cons x l =>
      rw [cond_true, lvsL]
      intro e
      exact ih x (List.mem_cons_self ..) (hk x (List.mem_cons_self ..)) (List.append_eq_nil_iff.1 e).1
def condCells (l : List Cond) : List AV := l.flatMap fun c => (encC c).cells
theorem condCells_len (l : List Cond) : (condCells l).length = l.length * 7 := flatEnc_len encC 7 encC_agg l
theorem condCells_noAgg (l : List Cond) : (condCells l).all noAgg = true := by
  rw [List.all_eq_true]
  intro x hx
  obtain ⟨c, _, hc⟩ := List.mem_flatMap.1 hx
  rw [encC_cells, cells_agg, Cond.cells] at hc
  simp only [List.mem_cons, List.not_mem_nil, or_false] at hc
  rcases hc with rfl | rfl | rfl | rfl | rfl | rfl | rfl
  all_goals first | rfl | exact noAgg_encS ..
theorem source_conds (l : List Cond) (s : St) : sourceA 7 (.fz (l.map encC)) s = some (l.length, condCells l) := by
  have : (l.map encC).all (fun x => x.cells.length == 7) = true := by
    rw [List.all_eq_true]
    intro x hx
    obtain ⟨c, _, rfl⟩ := List.mem_map.1 hx
    rw [encC_cells]; rfl
  simp only [sourceA, this, condCells, List.length_map, List.flatMap_map]
  rfl

theorem c160 : ∀ c : Cond, c.wf → (lvs c).length ≤ 2 ^ 20 → calV U 160 [encC c] = some (.fz ((lvs c).map encC)) := by
  intro c
  induction c using Cond.ind with
  | h kind a b mi ma pat nl kids ih =>
  intro hwf hL
  have hcw := hwf
  rw [Cond.wf] at hcw
  obtain ⟨-, -, -, -, -, -, -, -, -, -, -, hk8, hkw⟩ := hcw
  refine pure_go k160 (by kernel_rfl) (by simp [stills, still_encC]) ?_
  have h213 := c213 (.mk kind a b mi ma pat nl kids)
  rw [show (Cond.mk kind a b mi ma pat nl kids).kind = kind from rfl] at h213
  have hne0 := lvs_ne _ hwf
  rw [lvs] at hL hne0 ⊢
  cases hcm : isComp kind with
  | false =>
    rw [hcm] at h213 hL
    simp only [cond_false, List.map_cons, List.map_nil]
    rw [encC] at h213 ⊢
    simp (config := { maxSteps := 2000000 }) +contextual only [go_sem, ↓reduceIte, r160, h213, noAgg_encS, cells_encS, frz_encS]
  | true =>
    rw [hcm] at h213 hL hne0
    simp only [cond_true] at hL hne0 ⊢
    rw [encC] at h213 ⊢
    simp (config := { maxSteps := 2000000 }) +contextual only [go_sem, ↓reduceIte, r160, h213, noAgg_encS, cells_encS, lenL_encS, encL_len]
    refine loop_to (σ := Nat × List Cond) (fun x => kids.length - x.1) (fun x => some (.fz ((lvsL kids).map encC))) (fun x e s => x.1 ≤ kids.length ∧ x.2 ++ lvsL (kids.drop x.1) = lvsL kids ∧ Env.get e 12 = encS nl (encL kids) ∧ Env.get e 13 = .int .i64 kids.length ∧ Env.get e 14 = .int .i64 x.1 ∧ 8 < s.next ∧ Fr s ∧
      ∃ v, Env.get e 3 = v ∧ RowI s 9 48 7 x.2.length (condCells x.2) v) (0, []) ?_ rfl ?_
    · rintro L ⟨i, acc⟩ e s ⟨hi, hacc, g12, g13, g14, hn, hfr, v, g3, hv⟩ IH
      simp only at hi hacc g14 hv IH ⊢
      have hla := hv.lenA
      have hna := hv.noAgg
      by_cases hd : i < kids.length
      · have hx : (encL kids)[i]? = some (encC kids[i]) := by rw [encL_get, List.getElem?_eq_getElem hd]; rfl
        have hw := wrap_succ hd (by omega)
        rw [List.drop_eq_getElem_cons hd, lvsL] at hacc
        have hlen : acc.length + ((lvs kids[i]).length + (lvsL (kids.drop (i + 1))).length) = (lvsL kids).length := by rw [← hacc]; simp
        have hc := ih kids[i] (List.getElem_mem hd) (hkw _ (List.getElem_mem hd)) (by omega)
        have hm0 : (lvs kids[i]).length ≠ 0 := fun e => lvs_ne _ (hkw _ (List.getElem_mem hd)) (List.eq_nil_of_length_eq_zero e)
        have hsc := source_conds (lvs kids[i])
        have hcl := condCells_len (lvs kids[i])
        have hcn := condCells_noAgg (lvs kids[i])
        rw [encC_cells] at hx hc
        simp only [Cond.cells] at hx hc
        rw [encS_ne (encL_ne hd)] at g12
        have hb1 : (acc.length + (lvs kids[i]).length) * 88 ≤ 1099511627776 := by omega
        have hb2 : acc.length + (lvs kids[i]).length ≤ 1099511627776 := by omega
        simp +contextual only [go_sem, ↓reduceIte, r160_l0, g3, g12, g13, g14, nat_lt_dec, hd, hx, hc, noAgg_encS, cells_encS, appK_some, Nat.reducePow, hla, hna, hb1, hb2, hsc, hcl, hm0, not_false_eq_true]
        have hv0 : ∀ y z, RowI ((s.new y).put s.next z) 9 48 7 acc.length (condCells acc) v := fun y z => hv.mono (by rw [next_put, next_new]; omega) fun j _ hj => by rw [get_put, if_neg (by omega), get_new, if_neg (by omega)]
        obtain ⟨s1, e1, e2, e3, e4, e5⟩ := (hv0 (.cells [.str [], .int .i64 0, .int .i64 0, .int .i64 0, .int .i64 0, .str [], .nils] 48 false 0 0) (.cells kids[i].cells 48 false 0 0)).app (by rw [next_put, next_new]; omega) hm0 hcl hcn
        simp only [Cond.cells] at e1
        rw [e1]
        simp +contextual only [go_sem, ↓reduceIte, hw, g14]
        refine IH (i + 1, acc ++ lvs kids[i]) _ _ (by simp only; omega) ⟨by simp only; omega, by simp only [List.append_assoc]; exact hacc, ?_, ?_, ?_, ?_, e5 ((hfr.new _).put (by rw [next_new]; omega) _), .sl (s.next + 1) 0 (acc.length + (lvs kids[i]).length) none 7, ?_, ?_⟩
        case refine_6 =>
          simp only [List.length_append, condCells, List.flatMap_append]
          exact e3
        all_goals try simp +contextual only [go_sem, ↓reduceIte, g12, g13, hw, encS_ne (encL_ne hd)]
        rw [e2, next_put, next_new]; omega
      · have : i = kids.length := by omega
        subst this
        rw [List.drop_length, lvsL, List.append_nil] at hacc
        subst hacc
        simp +contextual only [go_sem, ↓reduceIte, r160_l0, g3, g12, g13, g14, nat_lt_dec, Nat.lt_irrefl, hna]
        rw [hv.frz_agg U ag_48 sz_48 (by omega) encC_agg (d := 39) (fun a => frz_encC _ _ _)]
        cases hq : lvsL kids with
        | nil => exact absurd hq hne0
        | cons x y => rfl
    · refine ⟨Nat.zero_le _, by rw [List.drop_zero, List.nil_append], ?_, ?_, ?_, ?_, ?_, .nils, ?_, RowI.nil _ _ _ _⟩
      case refine_5 =>
        repeat first | exact Fr.own | apply Fr.new | apply Fr.put | apply Fr.upto
        all_goals simp +contextual only [go_sem, ↓reduceIte]
      all_goals simp +contextual only [go_sem, ↓reduceIte]
      all_goals rfl
end Go.Am

set_option linter.all false
namespace Go.Am
open Go
variable [MaxLen]
set_option maxRecDepth 100000
set_option maxHeartbeats 8000000

/-- the parts of resolved code that are left as they are, in order -/
def raws : RC → List Code
  | .seq a b => raws a ++ raws b
  | .cond _ a b => raws a ++ raws b
  | .block _ b => raws b
  | .loop b => raws b
  | .raw c => [c]
  | _ => []
noncomputable def rawAt (f k : Nat) : Code := match U.fn f with
  | some fn => match fn.body with
    | some c => ((raws (rc U c))[k]?).getD .skip
    | none => .skip
  | none => .skip

noncomputable def q92_0 : Code := rawAt 92 0
theorem d92_0 : rcDrc U q92_0 = some (15, [(⟨some 32, none, none, false, .fa 1 (.t 4)⟩, none),
  (⟨some 33, none, none, false, .ld1 (.t 32)⟩, none),
  (⟨some 34, none, none, false, .ldn 7 (.t 10)⟩, none),
  (⟨some 35, none, some 3, false, .bsl 48 7 1 [(.str []), (.int .i64 0), (.int .i64 0), (.int .i64 0), (.int .i64 0), (.str []), .nils] [(0, 7, (.t 34))]⟩, none),
  (⟨some 36, none, none, true, .app 48 7 88 (.t 33) (.t 35)⟩, none),
  (⟨some 37, none, none, false, .fa 2 (.t 4)⟩, none),
  (⟨some 38, none, none, false, .ld1 (.t 37)⟩, some (0, 1)),
  (⟨some 39, none, none, false, .fa 8 (.t 11)⟩, none),
  (⟨some 40, none, none, false, .ld1 (.t 39)⟩, some (0, 1)),
  (⟨some 41, none, some 9, false, .bsl 234 1 1 [.nilfn] [(0, 1, (.t 40))]⟩, none),
  (⟨some 42, none, none, true, .app 234 1 8 (.t 38) (.t 41)⟩, none),
  (⟨some 43, none, none, false, .fa 1 (.t 4)⟩, none),
  (⟨none, none, none, true, .st 1 (.t 43) (.t 36)⟩, none),
  (⟨some 44, none, none, false, .fa 2 (.t 4)⟩, none),
  (⟨none, none, none, true, .st 1 (.t 44) (.t 42)⟩, none)]) := by kernel_rfl
noncomputable def r92_l0 : RC := (.seq (.ops [⟨some 25, none, none, false, .bin .lss 3 false (.t 24) (.t 23)⟩]) (.seq (.cond (.t 25) .skip (.exit 2)) (.seq (.block 3 (.seq (.ops [⟨some 26, none, none, false, .ixa 7 (.t 22) (.t 24)⟩,
  ⟨some 27, none, none, false, .ldn 7 (.t 26)⟩,
  ⟨some 10, none, none, false, .al [(.str []), (.int .i64 0), (.int .i64 0), (.int .i64 0), (.int .i64 0), (.str []), .nils] 48⟩,
  ⟨none, none, none, false, .st 7 (.t 10) (.t 27)⟩]) (.seq (.ops [⟨some 28, none, none, false, .mov (.t 5)⟩,
  ⟨some 29, none, none, false, .fa 0 (.t 10)⟩,
  ⟨some 30, none, none, false, .ld1 (.t 29)⟩,
  ⟨some 31, none, none, false, .raw (.lookup 238 (.tmp 28) (.tmp 30) false)⟩,
  ⟨some 11, none, none, false, .al [(.bool false), (.bool false), (.bool false), (.bool false), (.bool false), (.bool false), .nilfn, .nilfn, .nilfn] 236⟩,
  ⟨none, none, none, false, .st 9 (.t 11) (.t 31)⟩]) (.seq (.raw q92_0) (.ops [⟨some 45, none, none, false, .mov (.t 6)⟩,
  ⟨some 46, none, none, false, .fa 7 (.t 11)⟩,
  ⟨some 47, none, none, false, .ld1 (.t 46)⟩,
  ⟨some 48, none, none, false, .ldn 7 (.t 10)⟩,
  ⟨some 49, none, none, false, .callv (.t 47) [(.t 48)]⟩,
  ⟨some 50, none, none, false, .bsl 3 1 1 [(.int .i64 0)] [(0, 1, (.t 49))]⟩,
  ⟨some 51, none, none, false, .app 3 1 8 (.t 45) (.t 50)⟩,
  ⟨some 6, none, none, false, .mov (.t 51)⟩]))))) (.ops [⟨some 52, none, none, false, .bin .add 3 true (.t 24) (.v (.int .i64 1))⟩,
  ⟨some 24, none, none, false, .mov (.t 52)⟩]))))
noncomputable def r92_l1 : RC := (.seq (.ops [⟨some 18, none, none, false, .bin .lss 3 false (.t 17) (.t 16)⟩]) (.seq (.cond (.t 18) .skip (.exit 0)) (.seq (.block 1 (.seq (.ops [⟨some 19, none, none, false, .ixa 7 (.t 15) (.t 17)⟩,
  ⟨some 20, none, none, false, .ldn 7 (.t 19)⟩,
  ⟨some 8, none, none, false, .al [(.str []), (.int .i64 0), (.int .i64 0), (.int .i64 0), (.int .i64 0), (.str []), .nils] 48⟩,
  ⟨none, none, none, false, .st 7 (.t 8) (.t 20)⟩]) (.seq (.ops [⟨some 21, none, none, false, .ldn 7 (.t 8)⟩,
  ⟨some 22, none, none, false, .call 160 [(.t 21)]⟩,
  ⟨some 23, none, none, false, .lenL (.t 22)⟩,
  ⟨some 24, none, none, false, .mov (.v (.int .i64 0))⟩]) (.block 2 (.loop r92_l0))))) (.ops [⟨some 53, none, none, false, .bin .add 3 true (.t 17) (.v (.int .i64 1))⟩,
  ⟨some 17, none, none, false, .mov (.t 53)⟩]))))
/-- strobe/trigger.follow; results .cell 2 152,.tmp 3 -/
noncomputable def r92 : RC := (.seq (.ops [⟨some 2, none, none, false, .al [.nils, .nils, .nils] 152⟩,
  ⟨some 3, none, none, false, .mov (.v .nils)⟩]) (.seq (.ops [⟨some 12, none, none, false, .mov (.t 0)⟩,
  ⟨some 13, none, none, false, .bld [.nils, .nils, .nils] [(0, 1, (.t 12))]⟩,
  ⟨some 4, none, none, false, .al [.nils, .nils, .nils] 152⟩,
  ⟨none, none, none, false, .st 3 (.t 4) (.t 13)⟩]) (.seq (.ops [⟨some 14, none, none, false, .call 156 []⟩,
  ⟨some 5, none, none, false, .mov (.t 14)⟩]) (.seq (.ops [⟨some 6, none, none, false, .mov (.v .nils)⟩]) (.seq (.seq (.ops [⟨some 15, none, none, false, .mov (.t 0)⟩,
  ⟨some 16, none, none, false, .lenL (.t 15)⟩,
  ⟨some 17, none, none, false, .mov (.v (.int .i64 0))⟩]) (.block 0 (.loop r92_l1))) (.seq (.ops [⟨some 54, none, none, false, .ldn 3 (.t 4)⟩,
  ⟨some 55, none, none, false, .mov (.t 6)⟩,
  ⟨none, none, none, false, .st 3 (.t 2) (.t 54)⟩,
  ⟨some 3, none, none, false, .mov (.t 55)⟩]) .ret))))))
theorem k92 : fnRC 92 = some ([.cell 2 152, .tmp 3], r92) := by kernel_rfl

noncomputable def q93_0 : Code := rawAt 93 0
theorem d93_0 : rcDrc U q93_0 = some (9, [(⟨some 16, none, none, false, .mov (.t 1)⟩, none),
  (⟨some 17, none, none, false, .lenL (.t 16)⟩, none),
  (⟨some 18, none, some 2, false, .raw (.makeSlice 40 (.tmp 17) (.tmp 17))⟩, none),
  (⟨some 19, none, none, false, .mov (.t 1)⟩, none),
  (⟨some 20, none, none, false, .lenL (.t 19)⟩, some (0, 0)),
  (⟨some 21, none, some 5, false, .raw (.makeSlice 43 (.tmp 20) (.tmp 20))⟩, none),
  (⟨some 9, none, some 6, false, .al [.nils] 43⟩, none),
  (⟨some 8, none, none, false, .mov (.t 18)⟩, none),
  (⟨none, none, none, true, .st 1 (.t 9) (.t 21)⟩, none)]) := by kernel_rfl
noncomputable def q93_1 : Code := rawAt 93 1
theorem d93_1 : rcDrc U q93_1 = some (23, [(⟨some 31, none, none, false, .mov (.t 8)⟩, none),
  (⟨some 32, none, none, false, .mov (.t 10)⟩, none),
  (⟨some 33, none, none, false, .ld1 (.t 9)⟩, some (0, 2)),
  (⟨some 34, none, none, false, .mov (.t 10)⟩, none),
  (⟨some 35, none, none, false, .fa 2 (.t 3)⟩, none),
  (⟨some 36, none, none, false, .ld1 (.t 35)⟩, none),
  (⟨some 37, none, none, false, .mov (.t 10)⟩, none),
  (⟨some 38, none, none, false, .ixa 1 (.t 36) (.t 37)⟩, none),
  (⟨some 39, none, none, false, .ld1 (.t 38)⟩, none),
  (⟨some 40, none, none, false, .ldn 7 (.t 11)⟩, none),
  (⟨some 41, none, none, false, .mov (.t 1)⟩, none),
  (⟨some 42, none, none, false, .mov (.t 10)⟩, none),
  (⟨some 43, none, none, false, .ixa 1 (.t 41) (.t 42)⟩, none),
  (⟨some 44, none, none, false, .ld1 (.t 43)⟩, none),
  (⟨some 45, none, none, false, .ldn 3 (.t 5)⟩, none),
  (⟨some 46, none, none, true, .callv (.t 39) [(.t 40), (.t 44), (.t 45)]⟩, none),
  (⟨some 30, none, none, false, .mov (.t 46)⟩, none),
  (⟨some 47, none, none, false, .ext (.t 30) 0⟩, none),
  (⟨some 48, none, none, false, .ext (.t 30) 1⟩, none),
  (⟨some 49, none, none, false, .ixa 1 (.t 31) (.t 32)⟩, none),
  (⟨none, none, none, true, .st 1 (.t 49) (.t 47)⟩, none),
  (⟨some 50, none, none, false, .ixa 1 (.t 33) (.t 34)⟩, none),
  (⟨none, none, none, true, .st 1 (.t 50) (.t 48)⟩, none)]) := by kernel_rfl
noncomputable def r93_l0 : RC := (.seq (.ops [⟨some 26, none, none, false, .bin .lss 3 false (.t 25) (.t 24)⟩]) (.seq (.cond (.t 26) .skip (.exit 0)) (.seq (.block 1 (.seq (.ops [⟨some 27, none, none, false, .mov (.t 25)⟩,
  ⟨some 28, none, none, false, .ixa 7 (.t 23) (.t 25)⟩,
  ⟨some 29, none, none, false, .ldn 7 (.t 28)⟩,
  ⟨some 11, none, none, false, .al [(.str []), (.int .i64 0), (.int .i64 0), (.int .i64 0), (.int .i64 0), (.str []), .nils] 48⟩,
  ⟨some 10, none, none, false, .mov (.t 27)⟩,
  ⟨none, none, none, false, .st 7 (.t 11) (.t 29)⟩]) (.raw q93_1))) (.ops [⟨some 51, none, none, false, .bin .add 3 true (.t 25) (.v (.int .i64 1))⟩,
  ⟨some 25, none, none, false, .mov (.t 51)⟩]))))
noncomputable def r93_l1 : RC := (.seq (.ops [⟨some 56, none, none, false, .bin .lss 3 false (.t 55) (.t 54)⟩]) (.seq (.cond (.t 56) .skip (.exit 2)) (.seq (.block 3 (.seq (.ops [⟨some 57, none, none, false, .ixa 7 (.t 53) (.t 55)⟩,
  ⟨some 58, none, none, false, .ldn 7 (.t 57)⟩,
  ⟨some 15, none, none, false, .al [(.str []), (.int .i64 0), (.int .i64 0), (.int .i64 0), (.int .i64 0), (.str []), .nils] 48⟩,
  ⟨none, none, none, false, .st 7 (.t 15) (.t 58)⟩]) (.ops [⟨some 59, none, none, false, .mov (.t 13)⟩,
  ⟨some 60, none, none, false, .ldn 7 (.t 15)⟩,
  ⟨some 61, none, none, false, .mkf 162 [] [(.t 12), (.t 9)]⟩,
  ⟨some 62, none, none, false, .call 161 [(.t 60), (.t 61)]⟩,
  ⟨some 63, none, none, false, .bsl 4 1 1 [(.bool false)] [(0, 1, (.t 62))]⟩,
  ⟨some 64, none, none, false, .app 4 1 1 (.t 59) (.t 63)⟩,
  ⟨some 13, none, none, false, .mov (.t 64)⟩]))) (.ops [⟨some 65, none, none, false, .bin .add 3 true (.t 55) (.v (.int .i64 1))⟩,
  ⟨some 55, none, none, false, .mov (.t 65)⟩]))))
/-- (strobe/trigger.machine).step; results .tmp 6,.tmp 7 -/
noncomputable def r93 : RC := (.seq (.ops [⟨some 3, none, none, false, .box 152 (.t 0)⟩,
  ⟨some 5, none, none, false, .box 158 (.t 2)⟩,
  ⟨some 6, none, none, false, .mov (.v .nils)⟩,
  ⟨some 7, none, none, false, .mov (.v .nils)⟩]) (.seq (.raw q93_0) (.seq (.seq (.ops [⟨some 22, none, none, false, .fa 1 (.t 3)⟩,
  ⟨some 23, none, none, false, .ld1 (.t 22)⟩,
  ⟨some 24, none, none, false, .lenL (.t 23)⟩,
  ⟨some 25, none, none, false, .mov (.v (.int .i64 0))⟩]) (.block 0 (.loop r93_l0))) (.seq (.ops [⟨some 12, none, none, false, .al [(.int .i64 0)] 3⟩,
  ⟨none, none, none, false, .st 1 (.t 12) (.v (.int .i64 (-1)))⟩]) (.seq (.ops [⟨some 13, none, none, false, .mov (.v .nils)⟩]) (.seq (.seq (.ops [⟨some 52, none, none, false, .fa 0 (.t 3)⟩,
  ⟨some 53, none, none, false, .ld1 (.t 52)⟩,
  ⟨some 54, none, none, false, .lenL (.t 53)⟩,
  ⟨some 55, none, none, false, .mov (.v (.int .i64 0))⟩]) (.block 2 (.loop r93_l1))) (.seq (.ops [⟨some 66, none, none, false, .mov (.t 8)⟩,
  ⟨some 67, none, none, false, .mov (.t 13)⟩,
  ⟨some 6, none, none, false, .mov (.t 66)⟩,
  ⟨some 7, none, none, false, .mov (.t 67)⟩]) .ret)))))))
theorem k93 : fnRC 93 = some ([.tmp 6, .tmp 7], r93) := by kernel_rfl


end Go.Am

set_option linter.all false
namespace Go.Am
open Go
variable [MaxLen]
set_option maxRecDepth 100000
set_option maxHeartbeats 8000000

/-! # Rows side by side -/

theorem loop_ex {X : Cx} {β : Type} {fin : Fl → β} {ks : List K} [Stat] {b : RC} {σ : Type} {Post : β → Prop} (m : σ → Nat) (I : σ → Env → St → Prop) (x : σ) {e : Env} {s : St}
    (h : ∀ (L : RC) (x : σ) (e : Env) (s : St), I x e s → (∀ (y : σ) (e' : Env) (s' : St), m y < m x → I y e' s' → Post (goL X fin ks L e' s')) → Post (go X fin (.lp L :: ks) b e s))
    (hI : I x e s) : Post (goL X fin ks b e s) := by
  have key : ∀ n (x : σ) (e : Env) (s : St), m x = n → I x e s → Post (goL X fin ks b e s) := by
    intro n
    induction n using Nat.strongRecOn with
    | ind n ih =>
      intro x e s hx hI
      rw [goL_eq]
      exact h b x e s hI fun y e' s' hy hI' => ih (m y) (by omega) y e' s' rfl hI'
  exact key _ x e s rfl hI

theorem RowI.app2 {s : St} {B : Nat} {t : TypeId} {n i : Nat} {cs : List AV} {v : AV} (h : RowI s B t n i cs v) (hB : B ≤ s.next) {m : Nat} {new : List AV} (hm : m ≠ 0) (hl : new.length = m * n) (hna : new.all Go.Am.noAgg = true) :
    ∃ s1, appD t n m new v s = some (.sl s.next 0 (i + m) none n, s1) ∧ s1.next = s.next + 1 ∧ RowI s1 B t n (i + m) (cs ++ new) (.sl s.next 0 (i + m) none n) ∧ (∀ j, j ≠ s.next → v ≠ .sl j 0 i none n → s1.get j = s.get j) ∧ (Fr s → Fr s1) := by
  rcases h with ⟨rfl, rfl, rfl⟩ | ⟨h0, h1, b, h2, h3, rfl, h5⟩
  · refine ⟨s.new (.cells new t false 0 0), by rw [appD_nils, Nat.zero_add], rfl, .inr ⟨by omega, by rw [Nat.zero_add, List.nil_append]; exact hl, s.next, hB, by rw [next_new]; omega, rfl, by rw [get_new, if_pos rfl]; rfl⟩, fun j hj _ => by rw [get_new, if_neg (by omega)], fun hf => hf.new _⟩
  · refine ⟨(s.put b .gone).new (.cells (cs ++ new) t false 0 0), by rw [appD_sl, h5, appS_cells h1 (by omega) hna], rfl, .inr ⟨by omega, by rw [List.length_append, h1, hl, Nat.add_mul], s.next, hB, by rw [next_new, next_put]; omega, rfl, ?_⟩, fun j hj hv => ?_, fun hf => (hf.put h3 _).new _⟩
    · rw [get_new, next_put, if_pos rfl]
    · have : b ≠ j := fun e => hv (by rw [e])
      rw [get_new, next_put, if_neg (by omega), get_put, if_neg this]
theorem RowI.far {s : St} {B : Nat} {t : TypeId} {n i : Nat} {cs : List AV} {v : AV} (h : RowI s B t n i cs v) {j : Nat} (hj : s.next ≤ j ∨ j < B) : v ≠ .sl j 0 i none n := by
  rintro rfl
  rcases h with ⟨_, h, _⟩ | ⟨_, _, b, h1, h2, h3, _⟩
  · cases h
  · cases h3; omega
theorem RowI.other {s : St} {B : Nat} {t : TypeId} {n i : Nat} {cs : List AV} {v : AV} (h : RowI s B t n i cs v) {j : Nat} {c : List AV} {t' : TypeId} {lo hi : Nat} (hj : s.get j = some (.cells c t' false lo hi)) (ht : t' ≠ t) : v ≠ .sl j 0 i none n := by
  rintro rfl
  rcases h with ⟨_, h, _⟩ | ⟨_, _, b, h1, h2, h3, h4⟩
  · cases h
  · cases h3
    rw [hj] at h4
    cases h4; exact ht rfl
/-- a row of another type stays -/
theorem RowI.stay {s s1 : St} {B : Nat} {t t' : TypeId} {n n' i i' : Nat} {cs cs' : List AV} {v v' : AV} (h : RowI s B t n i cs v) (h' : RowI s B t' n' i' cs' v') (ht : t ≠ t') (hn : s.next ≤ s1.next)
    (hg : ∀ j, j < s.next → v' ≠ .sl j 0 i' none n' → s1.get j = s.get j) : RowI s1 B t n i cs v := by
  rcases h with ⟨h0, h1, h2⟩ | ⟨h0, h1, b, h2, h3, h4, h5⟩
  · exact .inl ⟨h0, h1, h2⟩
  · exact .inr ⟨h0, h1, b, h2, by omega, h4, by rw [hg b h3 (h'.other h5 ht)]; exact h5⟩

/-- a slice of conditions, wherever it stands -/
structure CRow (s : St) (v : AV) (l : List Cond) : Prop where
  len : lenRL v = some (.int .i64 l.length)
  elem : ∀ i (h : i < l.length), ∃ x, ixRA 7 v (.int .i64 (i : Int)) = some x ∧ ∀ s', (∀ j, j < s.next → s'.get j = s.get j) → ldn 7 x s' = some (encC l[i])
  plain : noAgg v = true
  cells : v.cells = [v]

def startI (c : Cond) : Int := match kdOf c.kind with
  | .setup => c.mi
  | _ => 0
theorem start_call (c : Cond) (hd : (kdOf c.kind).leaf = true) (s : St) : calv U (kStart (kdOf c.kind)) [encC c] s = some (.int .i64 (startI c), s) := by
  unfold startI
  cases hk : kdOf c.kind <;> rw [hk] at hd <;> first | cases hd | skip
  all_goals simp only [kStart, calv_fn, List.nil_append, List.append_nil, c195, c208, callK_some]
def stepV (c : Cond) : AV := kStep (kdOf c.kind)
end Go.Am

set_option linter.all false
namespace Go.Am
open Go
variable [MaxLen]
set_option maxRecDepth 100000
set_option maxHeartbeats 8000000

theorem go_drcU {β : Type} {c : Code} {n : Nat} {l : List ROC} (h : rcDrc U c = some (n, l)) (fin : Fl → β) (ks : List K) (e : Env) (s : St) : go U fin ks (.raw c) e s =
    bif noneC s.next s l then goC U (backC U fin ks c e s) fin ks s.next l e (s.upto (s.next + n)) [s.upto (s.next + n)] [] else backC U fin ks c e s := go_drc U h fin ks e s
theorem stepV_cells (c : Cond) : (stepV c).cells = [stepV c] := by unfold stepV; cases kdOf c.kind <;> rfl
theorem stepV_plain (c : Cond) : noAgg (stepV c) = true := by unfold stepV; cases kdOf c.kind <;> rfl
theorem kindV_plain (d : Kd) : noAgg (kSize d) = true ∧ noAgg (kStart d) = true ∧ noAgg (kStep d) = true := by cases d <;> exact ⟨rfl, rfl, rfl⟩

/-- what stands while the conditions are laid out -/
structure F92 (s0 : St) (v : AV) (acc : List Cond) (e : Env) (s : St) : Prop where
  t2 : Env.get e 2 = .ptr s0.next 0
  t4 : Env.get e 4 = .ptr (s0.next + 1) 0
  t5 : Env.get e 5 = .fm kindKs kindVs
  nx : s0.next + 2 ≤ s.next
  fr : Fr s
  old : ∀ j, j < s0.next → s.get j = s0.get j
  g2 : s.get s0.next = some (.cells [.nils, .nils, .nils] 152 false 0 0)
  rows : ∃ lv sv st, s.get (s0.next + 1) = some (.cells [v, lv, sv] 152 false 0 0) ∧ Env.get e 6 = st ∧ RowI s (s0.next + 2) 48 7 acc.length (condCells acc) lv ∧
    RowI s (s0.next + 2) 234 1 acc.length (acc.map stepV) sv ∧ RowI s (s0.next + 2) 3 1 acc.length (ints (acc.map startI)) st

theorem l92 {β : Type} {fin : Fl → β} {ks : List K} {Post : β → Prop} (s0 : St) (v : AV) (hv : noAgg v = true ∧ v.cells = [v]) (acc : List Cond) (L : List Cond) (hL : L ≠ []) (hw : ∀ c ∈ L, (kdOf c.kind).leaf = true) (hlen : acc.length + L.length ≤ 2 ^ 20) (x15 x16 x17 : AV)
    (hk : ∀ e s, F92 s0 v (acc ++ L) e s → Env.get e 15 = x15 → Env.get e 16 = x16 → Env.get e 17 = x17 → Post (goN U fin ks e s)) {e : Env} {s : St}
    (hI : F92 s0 v acc e s) (h15 : Env.get e 15 = x15) (h16 : Env.get e 16 = x16) (h17 : Env.get e 17 = x17) (h22 : Env.get e 22 = .fz (L.map encC)) (h23 : Env.get e 23 = .int .i64 L.length) (h24 : Env.get e 24 = .int .i64 (0 : Nat)) :
    Post (goL U fin (.bk 2 :: ks) r92_l0 e s) := by
  obtain ⟨v1, v2⟩ := hv
  refine loop_ex (σ := Nat) (fun i => L.length - i) (fun i e s => i ≤ L.length ∧ F92 s0 v (acc ++ L.take i) e s ∧ Env.get e 15 = x15 ∧ Env.get e 16 = x16 ∧ Env.get e 17 = x17 ∧ Env.get e 22 = .fz (L.map encC) ∧ Env.get e 23 = .int .i64 L.length ∧ Env.get e 24 = .int .i64 (i : Nat)) 0 ?_
    ⟨Nat.zero_le _, by rw [List.take_zero, List.append_nil]; exact hI, h15, h16, h17, h22, h23, h24⟩
  clear hI h15 h16 h17 h22 h23 h24 e s
  rintro Lp i e s ⟨hi, hF, h15, h16, h17, h22, h23, h24⟩ IH
  by_cases hd : i < L.length
  · have hx : (L.map encC)[i]? = some (encC L[i]) := by rw [List.getElem?_map, List.getElem?_eq_getElem hd]; rfl
    have hwr := wrap_succ hd (by omega)
    have hlf := hw _ (List.getElem_mem hd)
    obtain ⟨t2, t4, t5, nx, fr, old, g2, lv, sv, st, g4, t6, R1, R2, R3⟩ := hF
    have hal : (acc ++ L.take i).length = acc.length + i := by rw [List.length_append, List.length_take]; omega
    rw [hal] at R1 R2 R3
    have hlk := lookup_kinds0 L[i].kind
    have hst := start_call L[i] hlf
    obtain ⟨n1, n2, n3⟩ := kindV_plain (kdOf L[i].kind)
    have hstep : kStep (kdOf L[i].kind) = stepV L[i] := rfl
    rw [kindV] at hlk
    rw [hstep] at hlk n3
    rw [encC_cells] at hx hst
    simp only [Cond.cells] at hx hst
    have ne : ∀ k, (s.next + k = s0.next + 1) = False := fun k => by simp; omega
    have ne' : (s.next = s0.next + 1) = False := by simp; omega
    have hb1 : (acc.length + (i + 1)) * 88 ≤ 1099511627776 := by omega
    have hb2 : acc.length + (i + 1) ≤ 1099511627776 := by omega
    have hb3 : (acc.length + (i + 1)) * 8 ≤ 1099511627776 := by omega
    have la1 := R1.lenA
    have la2 := R2.lenA
    have la3 := R3.lenA
    have na1 := R1.noAgg
    have na2 := R2.noAgg
    have na3 := R3.noAgg
    have hfk := fr.at
    have sf : ∀ k, (s.next = s.next + (k + 1)) = False := fun k => by simp
    have sg : ∀ k, (s.next + (k + 1) = s.next) = False := fun k => by simp
    simp (config := { maxSteps := 2000000 }) +contextual only [go_sem, ↓reduceIte, r92_l0, t4, t5, t6, h22, h23, h24, nat_lt_dec, hd, hx, noAgg_encS, hlk, n1, n2, n3, go_drcU d92_0, g4, ne, ne', hfk, la1, la2, la3, na1, na2, na3, hb1, hb2, hb3, appK_some, Nat.reducePow, Nat.one_mul, v1, Nat.mul_one, Nat.add_assoc, sf, sg, Option.isNone_none]
    -- the state at the first append
    have RS : ∀ (y1 y2 y3 y4 y5 : Blk) {t : TypeId} {n k : Nat} {cs : List AV} {w : AV}, RowI s (s0.next + 2) t n k cs w → RowI ((((((s.new y1).put s.next y2).new y3).put (s.next + 1) y4).upto (s.next + 17)).put (s.next + 5) y5) (s0.next + 2) t n k cs w := fun y1 y2 y3 y4 y5 _ _ _ _ _ h =>
      h.mono (by simp only [next_put, upto_next]; omega) fun j _ hj => by simp only [get_put, upto_get, get_new, next_put, next_new]; rw [if_neg (by omega), if_neg (by omega), if_neg (by omega), if_neg (by omega), if_neg (by omega)]
    have GS : ∀ (y1 y2 y3 y4 y5 : Blk) (j : Nat), j < s.next → ((((((s.new y1).put s.next y2).new y3).put (s.next + 1) y4).upto (s.next + 17)).put (s.next + 5) y5).get j = s.get j := fun y1 y2 y3 y4 y5 j hj => by
      simp only [get_put, upto_get, get_new, next_put, next_new]; rw [if_neg (by omega), if_neg (by omega), if_neg (by omega), if_neg (by omega), if_neg (by omega)]
    have FS : ∀ (y1 y2 y3 y4 y5 : Blk), Fr ((((((s.new y1).put s.next y2).new y3).put (s.next + 1) y4).upto (s.next + 17)).put (s.next + 5) y5) := fun y1 y2 y3 y4 y5 =>
      (((((fr.new _).put (by simp only [next_new]; omega) _).new _).put (by simp only [next_new, next_put]; omega) _).upto (by simp only [next_new, next_put]; omega)).put (by simp only [upto_next]; omega) _
    generalize hY1 : Blk.cells [.str [], .int .i64 0, .int .i64 0, .int .i64 0, .int .i64 0, .str [], .nils] 48 false 0 0 = Y1
    generalize hY3 : Blk.cells [.bool false, .bool false, .bool false, .bool false, .bool false, .bool false, .nilfn, .nilfn, .nilfn] 236 false 0 0 = Y3
    generalize hY4 : Blk.cells [AV.bool (usesOf (kdOf L[i].kind)).a, AV.bool (usesOf (kdOf L[i].kind)).b, AV.bool (usesOf (kdOf L[i].kind)).mi, AV.bool (usesOf (kdOf L[i].kind)).ma, AV.bool (usesOf (kdOf L[i].kind)).pat, AV.bool (usesOf (kdOf L[i].kind)).kids, kSize (kdOf L[i].kind), kStart (kdOf L[i].kind), stepV L[i]] 236 false 0 0 = Y4
    generalize hY5 : Blk.cells [AV.str L[i].kind, AV.int IntKind.i64 L[i].a, AV.int IntKind.i64 L[i].b, AV.int IntKind.i64 L[i].mi, AV.int IntKind.i64 L[i].ma, AV.str L[i].pat, encS L[i].nl (encL L[i].kids)] 48 false 0 0 = Y5
    obtain ⟨s1, e1, en1, er1, eg1, ef1⟩ := (RS Y1 Y5 Y3 Y4 Y5 R1).app2 (by simp only [next_put, upto_next]; omega) (m := 1) (new := L[i].cells) (by omega) rfl (by simp only [Cond.cells, go_sem, noAgg_encS])
    simp only [Cond.cells] at e1
    have k4 : s1.get (s0.next + 1) = some (.cells [v, lv, sv] 152 false 0 0) := by rw [eg1 _ (by simp only [next_put, upto_next]; omega) (R1.far (.inr (by omega))), GS _ _ _ _ _ _ (by omega), g4]
    have kt : s1.get (s.next + 1) = some Y4 := by
      rw [eg1 _ (by simp only [next_put, upto_next]; omega) (R1.far (.inl (by omega)))]
      simp only [get_put, upto_get, ↓reduceIte]; rw [if_neg (by omega)]
    have kx : s1.get s.next = some Y5 := by
      rw [eg1 _ (by simp only [next_put, upto_next]; omega) (R1.far (.inl (by omega)))]
      simp only [get_put, upto_get, get_new, next_put, next_new, ↓reduceIte]; rw [if_neg (by omega), if_neg (by omega), if_neg (by omega)]
    have k9 : s1.get (s.next + 11) = none := by
      rw [eg1 _ (by simp only [next_put, upto_next]; omega) (R1.far (.inl (by omega)))]
      simp only [get_put, upto_get, get_new, next_put, next_new]; rw [if_neg (by omega), if_neg (by omega), if_neg (by omega), if_neg (by omega), if_neg (by omega)]
      exact hfk 11
    simp only [next_put, upto_next] at en1
    rw [← hY4] at kt
    rw [← hY5] at kx
    simp (config := { maxSteps := 2000000 }) +contextual only [go_sem, ↓reduceIte, e1, k4, kt, kx, k9, t4, t6, en1, g4, ne, ne', la2, na2, hb2, hb3, appK_some, Nat.reducePow, Nat.one_mul, Nat.mul_one, Nat.add_assoc, sf, sg, n1, n2, n3, Option.isNone_none, stepV_cells]
    -- the second append
    have R2' : RowI s1 (s0.next + 2) 234 1 (acc.length + i) ((acc ++ L.take i).map stepV) sv :=
      (RS Y1 Y5 Y3 Y4 Y5 R2).stay (RS Y1 Y5 Y3 Y4 Y5 R1) (by decide) (by rw [en1]; simp only [next_put, upto_next]; omega) fun j hj hv => eg1 j (by simp only [next_put, upto_next] at hj ⊢; omega) hv
    have R3' : RowI s1 (s0.next + 2) 3 1 (acc.length + i) (ints ((acc ++ L.take i).map startI)) st :=
      (RS Y1 Y5 Y3 Y4 Y5 R3).stay (RS Y1 Y5 Y3 Y4 Y5 R1) (by decide) (by rw [en1]; simp only [next_put, upto_next]; omega) fun j hj hv => eg1 j (by simp only [next_put, upto_next] at hj ⊢; omega) hv
    generalize hY6 : Blk.cells [stepV L[i]] 234 false 0 0 = Y6
    have P1 : ∀ {t : TypeId} {n k : Nat} {cs : List AV} {w : AV}, RowI s1 (s0.next + 2) t n k cs w → (∀ lo, s1.get (s.next + 11) = lo → lo = none) → RowI (s1.put (s.next + 11) Y6) (s0.next + 2) t n k cs w := fun {t n k cs w} h _ => by
      rcases h with ⟨h0, h1, h2⟩ | ⟨h0, h1, b, h2, h3, h4, h5⟩
      · exact .inl ⟨h0, h1, h2⟩
      · refine .inr ⟨h0, h1, b, h2, h3, h4, ?_⟩
        have : s.next + 11 ≠ b := fun e => by rw [← e, k9] at h5; cases h5
        rw [get_put, if_neg this]; exact h5
    have Q2 := P1 R2' (fun lo h => by rw [← h, k9])
    have Q3 := P1 R3' (fun lo h => by rw [← h, k9])
    have Q1 := P1 er1 (fun lo h => by rw [← h, k9])
    obtain ⟨s2, e2, en2, er2, eg2, ef2⟩ := Q2.app2 (by rw [next_put, en1]; omega) (m := 1) (new := [stepV L[i]]) (by omega) rfl (by simp [stepV_plain])
    rw [next_put, en1] at e2 en2 er2 eg2
    have j4 : s2.get (s0.next + 1) = some (.cells [v, lv, sv] 152 false 0 0) := by rw [eg2 _ (by omega) (R2.far (.inr (by omega))), get_put, if_neg (by omega), k4]
    have jt : s2.get (s.next + 1) = s1.get (s.next + 1) := by rw [eg2 _ (by omega) (R2.far (.inl (by omega))), get_put, if_neg (by omega)]
    have jx : s2.get s.next = s1.get s.next := by rw [eg2 _ (by omega) (R2.far (.inl (by omega))), get_put, if_neg (by omega)]
    rw [kt] at jt
    rw [kx] at jx
    have nf : ∀ k, (s0.next + 1 = s.next + k) = False := fun k => by simp; omega
    have nf' : (s0.next + 1 = s.next) = False := by simp; omega
    have hp8 : cellOf (some Y4) 8 = some (stepV L[i]) := by rw [← hY4]; rfl
    simp (config := { maxSteps := 2000000 }) +contextual only [go_sem, ↓reduceIte, hp8, e2, j4, jt, jx, k4, kt, kx, t4, t6, en1, en2, g4, ne, ne', nf, nf', la3, na3, hb2, hb3, appK_some, Nat.reducePow, Nat.one_mul, Nat.mul_one, Nat.add_assoc, sf, sg, n1, n2, n3, v1, v2, na1, na2, hst, noAgg_encS]
    -- the third append
    have V3 : RowI s2 (s0.next + 2) 3 1 (acc.length + i) (ints ((acc ++ L.take i).map startI)) st :=
      Q3.stay Q2 (by decide) (by rw [en2, next_put, en1]; omega) fun j hj hv => eg2 j (by rw [next_put, en1] at hj; omega) hv
    have V1 : RowI s2 (s0.next + 2) 48 7 (acc.length + i + 1) (condCells (acc ++ L.take i) ++ L[i].cells) (.sl (s.next + 17) 0 (acc.length + i + 1) none 7) :=
      Q1.stay Q2 (by decide) (by rw [en2, next_put, en1]; omega) fun j hj hv => eg2 j (by rw [next_put, en1] at hj; omega) hv
    generalize hZ1 : Blk.cells [v, .sl (s.next + 17) 0 (acc.length + (i + 1)) none 7, sv] 152 false 0 0 = Z1
    generalize hZ2 : Blk.cells [v, .sl (s.next + 17) 0 (acc.length + (i + 1)) none 7, .sl (s.next + 18) 0 (acc.length + (i + 1)) none 1] 152 false 0 0 = Z2
    generalize hZ3 : Blk.cells [.int .i64 (startI L[i])] 3 false 0 0 = Z3
    have TS : ∀ {t : TypeId} {n k : Nat} {cs : List AV} {w : AV}, RowI s2 (s0.next + 2) t n k cs w → RowI (((s2.put (s0.next + 1) Z1).put (s0.next + 1) Z2).new Z3) (s0.next + 2) t n k cs w := fun h =>
      h.mono (by simp only [next_put, next_new]; omega) fun j hj hj' => by rw [get_new, next_put, next_put, if_neg (by omega), get_put, if_neg (by omega), get_put, if_neg (by omega)]
    obtain ⟨s3, e3, en3, er3, eg3, ef3⟩ := (TS V3).app2 (by simp only [next_put, next_new]; omega) (m := 1) (new := [.int .i64 (startI L[i])]) (by omega) rfl rfl
    simp only [next_put, next_new, en2] at e3 en3 er3 eg3
    rw [e3]
    simp (config := { maxSteps := 2000000 }) +contextual only [go_sem, ↓reduceIte, h24, hwr]
    have hlow : ∀ {t : TypeId} {n k : Nat} {cs : List AV} {w : AV} {s' : St}, RowI s' (s0.next + 2) t n k cs w → ∀ j, j < s0.next + 2 → w ≠ .sl j 0 k none n := fun h j hj => h.far (.inr hj)
    have G : ∀ j, j < s0.next + 1 → s3.get j = s.get j := fun j hj => by
      rw [eg3 j (by omega) (hlow V3 j (by omega)), get_new, next_put, next_put, if_neg (by omega), get_put, if_neg (by omega), get_put, if_neg (by omega), eg2 j (by omega) (hlow R2 j (by omega)), get_put, if_neg (by omega), eg1 j (by simp only [next_put, upto_next]; omega) (hlow R1 j (by omega)), GS _ _ _ _ _ j (by omega)]
    have G4 : s3.get (s0.next + 1) = some Z2 := by
      rw [eg3 _ (by omega) (hlow V3 _ (by omega)), get_new, next_put, next_put, if_neg (by omega), get_put, if_pos rfl]
    have htk : acc ++ L.take (i + 1) = (acc ++ L.take i) ++ [L[i]] := by rw [List.take_succ_eq_append_getElem hd, List.append_assoc]
    have hlen' : (acc ++ L.take (i + 1)).length = acc.length + i + 1 := by rw [htk, List.length_append, hal]; rfl
    refine IH (i + 1) _ _ (by omega) ⟨by omega, ⟨?_, ?_, ?_, by rw [en3]; omega, ?_, fun j hj => by rw [G j (by omega), old j hj], by rw [G _ (by omega), g2], _, _, .sl (s.next + 20) 0 (acc.length + i + 1) none 1, by rw [G4, ← hZ2], ?_, ?_, ?_, ?_⟩, ?_, ?_, ?_, ?_, ?_, ?_⟩
    case refine_4 =>
      refine ef3 (((ef2 ?_).put (by rw [en2]; omega) _).put (by rw [next_put, en2]; omega) _ |>.new _)
      exact (ef1 (FS _ _ _ _ _)).put (by rw [en1]; omega) _
    case refine_6 =>
      rw [hlen', htk, condCells, List.flatMap_append]
      refine ((TS V1).stay (TS V3) (by decide) (by rw [en3, next_new, next_put, next_put, en2]; omega) fun j hj hv => eg3 j (by simp only [next_put, next_new, en2] at hj; omega) hv : RowI s3 _ _ _ _ (condCells (acc ++ L.take i) ++ L[i].cells) _) |> fun h => ?_
      simpa [condCells, encC_cells, cells_agg, Nat.add_assoc] using h
    case refine_7 =>
      rw [hlen', htk, List.map_append]
      exact (TS er2).stay (TS V3) (by decide) (by rw [en3, next_new, next_put, next_put, en2]; omega) fun j hj hv => eg3 j (by simp only [next_put, next_new, en2] at hj; omega) hv
    case refine_8 =>
      rw [hlen', htk, List.map_append, ints, List.map_append]
      exact er3
    all_goals simp +contextual only [go_sem, ↓reduceIte, t2, t4, t5, h15, h16, h17, h22, h23]
  · have : i = L.length := by omega
    subst this
    rw [List.take_length] at hF
    simp +contextual only [go_sem, ↓reduceIte, r92_l0, h23, h24, nat_lt_dec, Nat.lt_irrefl]
    refine hk _ _ ⟨?_, ?_, ?_, hF.nx, hF.fr, hF.old, hF.g2, ?_⟩ ?_ ?_ ?_
    case refine_4 =>
      obtain ⟨lv, sv, st, g4, t6, R⟩ := hF.rows
      exact ⟨lv, sv, st, g4, by simp +contextual only [go_sem, ↓reduceIte, t6], R⟩
    all_goals simp +contextual only [go_sem, ↓reduceIte, hF.t2, hF.t4, hF.t5, h15, h16, h17]
end Go.Am

set_option linter.all false
namespace Go.Am
open Go
variable [MaxLen]
set_option maxRecDepth 100000
set_option maxHeartbeats 8000000

theorem lvsL_append : ∀ (a b : List Cond), lvsL (a ++ b) = lvsL a ++ lvsL b
  | [], b => by simp [lvsL]
  | c :: a, b => by rw [List.cons_append, lvsL, lvsL, lvsL_append a b, List.append_assoc]
theorem lvsL_mem {c : Cond} : ∀ {l : List Cond}, c ∈ lvsL l → ∃ x ∈ l, c ∈ lvs x
  | [], h => by simp [lvsL] at h
  | x :: l, h => by
    rw [lvsL, List.mem_append] at h
    rcases h with h | h
    · exact ⟨x, List.mem_cons_self .., h⟩
    · obtain ⟨y, h1, h2⟩ := lvsL_mem h; exact ⟨y, List.mem_cons_of_mem _ h1, h2⟩
theorem lvs_leaf : ∀ c : Cond, c.wf → ∀ x ∈ lvs c, x.wf ∧ (kdOf x.kind).leaf = true := by
  intro c
  induction c using Cond.ind with
  | h k a b mi ma p nl kids ih =>
  intro h x hx
  have hcm := wf_comp h
  have h' := h
  rw [Cond.wf] at h'
  obtain ⟨-, -, -, -, -, -, hkn, -, -, -, -, -, hk⟩ := h'
  rw [lvs] at hx
  cases hc : isComp k with
  | true =>
    rw [hc] at hx
    obtain ⟨y, h1, h2⟩ := lvsL_mem hx
    exact ih y h1 (hk y h1) x h2
  | false =>
    rw [hc] at hx
    simp only [cond_false, List.mem_singleton] at hx
    subst hx
    refine ⟨h, ?_⟩
    rw [isComp_kd k hkn] at hc
    show (kdOf k).leaf = true
    simpa using hc

def P92 (s0 : St) (v : AV) (l : List Cond) (r : Option (AV × St)) : Prop := ∃ s' lv sv st, r = some (.tup [.agg [v, lv, sv], st], s') ∧ Fr s' ∧ s0.next + 2 ≤ s'.next ∧ (∀ j, j < s0.next → s'.get j = s0.get j) ∧
      RowI s' (s0.next + 2) 48 7 (lvsL l).length (condCells (lvsL l)) lv ∧ RowI s' (s0.next + 2) 234 1 (lvsL l).length ((lvsL l).map stepV) sv ∧ RowI s' (s0.next + 2) 3 1 (lvsL l).length (ints ((lvsL l).map startI)) st
theorem c92 (s0 : St) (v : AV) (l : List Cond) (hl : ∀ c ∈ l, c.wf) (hll : l.length ≤ 2 ^ 20) (hlen : (lvsL l).length ≤ 2 ^ 20) (hr : CRow s0 v l) (hf : Fr s0) :
    ∃ s' lv sv st, cal U 92 [v] s0 = some (.tup [.agg [v, lv, sv], st], s') ∧ Fr s' ∧ s0.next + 2 ≤ s'.next ∧ (∀ j, j < s0.next → s'.get j = s0.get j) ∧
      RowI s' (s0.next + 2) 48 7 (lvsL l).length (condCells (lvsL l)) lv ∧ RowI s' (s0.next + 2) 234 1 (lvsL l).length ((lvsL l).map stepV) sv ∧ RowI s' (s0.next + 2) 3 1 (lvsL l).length (ints ((lvsL l).map startI)) st := by
  have key : ∃ s' lv sv st, go U (finB U [.cell 2 152, .tmp 3]) [] r92 (bindArgs 0 [v] .nil) s0 = some (.tup [.agg [v, lv, sv], st], s') ∧ Fr s' ∧ s0.next + 2 ≤ s'.next ∧ (∀ j, j < s0.next → s'.get j = s0.get j) ∧
      RowI s' (s0.next + 2) 48 7 (lvsL l).length (condCells (lvsL l)) lv ∧ RowI s' (s0.next + 2) 234 1 (lvsL l).length ((lvsL l).map stepV) sv ∧ RowI s' (s0.next + 2) 3 1 (lvsL l).length (ints ((lvsL l).map startI)) st := by
    have v1 := hr.plain
    have v2 := hr.cells
    have v3 := hr.len
    simp (config := { maxSteps := 2000000 }) +contextual only [go_sem, ↓reduceIte, r92, v1, v2, v3, c156]
    show P92 s0 v l _
    refine loop_ex (σ := Nat) (Post := P92 s0 v l)
      (fun i => l.length - i) (fun i e s => i ≤ l.length ∧ F92 s0 v (lvsL (l.take i)) e s ∧ Env.get e 15 = v ∧ Env.get e 16 = .int .i64 l.length ∧ Env.get e 17 = .int .i64 (i : Nat)) 0 ?_ ?_
    · rintro L i e s ⟨hi, hF, h15, h16, h17⟩ IH
      by_cases hd : i < l.length
      · obtain ⟨t2, t4, t5, nx, fr, old, g2, lv, sv, st, g4, t6, R1, R2, R3⟩ := hF
        obtain ⟨x, hx1, hx2⟩ := hr.elem i hd
        have hx2 := hx2 s old
        have hwr := wrap_succ hd (by omega)
        have hmem := List.getElem_mem hd
        have hsp : lvsL l = lvsL (l.take i) ++ (lvs l[i] ++ lvsL (l.drop (i + 1))) := by
          conv => lhs; rw [← List.take_append_drop i l, lvsL_append, List.drop_eq_getElem_cons hd, lvsL]
        have hsl : (lvsL (l.take i)).length + ((lvs l[i]).length + (lvsL (l.drop (i + 1))).length) = (lvsL l).length := by rw [hsp]; simp
        have hc := c160 l[i] (hl _ hmem) (by omega)
        have htk : lvsL (l.take (i + 1)) = lvsL (l.take i) ++ lvs l[i] := by
          rw [List.take_succ_eq_append_getElem hd, lvsL_append]; simp [lvsL]
        rw [encC_cells] at hx2 hc
        simp only [Cond.cells] at hx2 hc
        simp (config := { maxSteps := 2000000 }) +contextual only [go_sem, ↓reduceIte, r92_l1, h15, h16, h17, nat_lt_dec, hd, hx1, hx2, hc, noAgg_encS, List.length_map]
        refine l92 s0 v ⟨v1, v2⟩ (lvsL (l.take i)) (lvs l[i]) (lvs_ne _ (hl _ hmem)) (fun c hc => (lvs_leaf _ (hl _ hmem) c hc).2) (by omega) v (.int .i64 l.length) (.int .i64 (i : Nat)) ?_ ⟨?_, ?_, ?_, ?_, ?_, ?_, ?_, lv, sv, st, ?_, ?_, ?_, ?_, ?_⟩ ?_ ?_ ?_ ?_ ?_ ?_
        case refine_1 =>
          intro e' s' hF' q15 q16 q17
          simp (config := { maxSteps := 2000000 }) +contextual only [go_sem, ↓reduceIte, q17, hwr]
          refine IH (i + 1) _ _ (by omega) ⟨by omega, ?_, ?_, ?_, ?_⟩
          · rw [htk]
            obtain ⟨lv', sv', st', y4, y6, yR⟩ := hF'.rows
            exact ⟨by simp +contextual only [go_sem, ↓reduceIte, hF'.t2], by simp +contextual only [go_sem, ↓reduceIte, hF'.t4], by simp +contextual only [go_sem, ↓reduceIte, hF'.t5], hF'.nx, hF'.fr, hF'.old, hF'.g2, lv', sv', st', y4, by simp +contextual only [go_sem, ↓reduceIte, y6], yR⟩
          all_goals simp +contextual only [go_sem, ↓reduceIte, q15, q16, q17]
        case refine_5 => simp only [next_put, next_new]; omega
        case refine_6 => exact (fr.new _).put (by rw [next_new]; omega) _
        case refine_7 =>
          intro j hj
          rw [get_put, if_neg (by omega), get_new, if_neg (by omega), old j hj]
        case refine_8 => rw [get_put, if_neg (by omega), get_new, if_neg (by omega), g2]
        case refine_9 => rw [get_put, if_neg (by omega), get_new, if_neg (by omega), g4]
        case refine_11 => exact R1.mono (by simp only [next_put, next_new]; omega) fun j _ hj => by rw [get_put, if_neg (by omega), get_new, if_neg (by omega)]
        case refine_12 => exact R2.mono (by simp only [next_put, next_new]; omega) fun j _ hj => by rw [get_put, if_neg (by omega), get_new, if_neg (by omega)]
        case refine_13 => exact R3.mono (by simp only [next_put, next_new]; omega) fun j _ hj => by rw [get_put, if_neg (by omega), get_new, if_neg (by omega)]
        all_goals simp +contextual only [go_sem, ↓reduceIte, t2, t4, t5, t6, h15, h16, h17]
        all_goals rfl
      · have : i = l.length := by omega
        subst this
        rw [List.take_length] at hF
        obtain ⟨t2, t4, t5, nx, fr, old, g2, lv, sv, st, g4, t6, R1, R2, R3⟩ := hF
        have na1 := R1.noAgg
        have na2 := R2.noAgg
        simp (config := { maxSteps := 2000000 }) +contextual only [go_sem, ↓reduceIte, r92_l1, h15, h16, h17, t2, t4, t6, g2, g4, nat_lt_dec, Nat.lt_irrefl, na1, na2, v1]
        refine ⟨_, lv, sv, st, rfl, fr.put (by omega) _, by rw [next_put]; exact nx, fun j hj => by rw [get_put, if_neg (by omega), old j hj], ?_, ?_, ?_⟩
        · exact R1.mono (by rw [next_put]; omega) fun j hj _ => by rw [get_put, if_neg (by omega)]
        · exact R2.mono (by rw [next_put]; omega) fun j hj _ => by rw [get_put, if_neg (by omega)]
        · exact R3.mono (by rw [next_put]; omega) fun j hj _ => by rw [get_put, if_neg (by omega)]
    · refine ⟨Nat.zero_le _, ⟨?_, ?_, ?_, ?_, ?_, ?_, ?_, .nils, .nils, .nils, ?_, ?_, RowI.nil _ _ _ _, RowI.nil _ _ _ _, RowI.nil _ _ _ _⟩, ?_, ?_, ?_⟩
      case refine_5 => exact ((hf.new _).new _).put (by simp only [next_new]; omega) _
      case refine_6 =>
        intro j hj
        simp only [get_put, get_new, next_new]
        rw [if_neg (by omega), if_neg (by omega), if_neg (by omega)]
      all_goals simp +contextual only [go_sem, ↓reduceIte]
      all_goals first | rfl | omega | (rw [if_neg (by omega)]) | skip
  obtain ⟨s', lv, sv, st, h1, h2⟩ := key
  exact ⟨s', lv, sv, st, kept_go k92 (by kernel_rfl) h1, h2⟩
end Go.Am

set_option linter.all false
namespace Go.Am
open Go
variable [MaxLen]
set_option maxRecDepth 100000
set_option maxHeartbeats 8000000

/-! # The judgement of a condition by its leaves -/

mutual
def jd : Cond → List Bool → Bool
  | .mk k _ _ _ _ _ _ kids, hs => bif isComp k then (match kdOf k with
      | .not_ => !(jdL kids hs false true).1
      | .any_ => (jdL kids hs false true).1
      | _ => (jdL kids hs false true).2) else hs.headD false
def jdL : List Cond → List Bool → Bool → Bool → Bool × Bool
  | [], _, s, a => (s, a)
  | c :: l, hs, s, a => jdL l (hs.drop (lvs c).length) (s || jd c hs) (a && jd c hs)
end

theorem k161' (args : List AV) (s : St) : callK U (calV U 161 args) 161 args s = cal U 161 args s := (callK_eq U 161 args s).symm
theorem k162' (args : List AV) (s : St) : callK U (calV U 162 args) 162 args s = cal U 162 args s := (callK_eq U 162 args s).symm

theorem c162 {p q b n : Nat} {cap : Option Nat} {H : List Bool} {k : Nat} {s : St} (hpq : p ≠ q) (hpb : p ≠ b) (hk : k < H.length) (hn : H.length = n) (hn2 : n ≤ 2 ^ 30)
    (hp : s.get p = some (.cells [.int .i64 ((k : Int) - 1)] 3 false 0 0)) (hq : s.get q = some (.cells [.sl b 0 n cap 1] 43 false 0 0)) (hb : s.get b = some (.cells (bools H) 4 false 0 0)) :
    cal U 162 [.ptr p 0, .ptr q 0] s = some (.bool H[k], s.put p (.cells [.int .i64 (k : Int)] 3 false 0 0)) := by
  refine kept_go k162 (by kernel_rfl) ?_
  have hw : IntKind.i64.wrap ((k : Int) - 1 + 1) = (k : Int) := by rw [wrap_i64] <;> omega
  have hx : (bools H)[k]? = some (.bool H[k]) := by rw [bools_get, List.getElem?_eq_getElem hk]; rfl
  have hk' : k < n := by omega
  simp (config := { maxSteps := 2000000 }) +contextual only [go_sem, ↓reduceIte, r162, hp, hq, hb, hw, hpq, hpb, hx, hk', Nat.zero_add, Nat.mul_one]

def P161 (p : Nat) (s0 : St) (v : Bool) (m : Nat) (r : Option (AV × St)) : Prop :=
  ∃ s', r = some (.bool v, s') ∧ s'.get p = some (.cells [.int .i64 ((m : Int) - 1)] 3 false 0 0) ∧ (∀ j, j < s0.next → j ≠ p → s'.get j = s0.get j) ∧ s0.next ≤ s'.next ∧ Fr s'

theorem c161 (p q b n : Nat) (cap : Option Nat) (H : List Bool) (hpq : p ≠ q) (hpb : p ≠ b) (hn : H.length = n) (hn2 : n ≤ 2 ^ 30) : ∀ c : Cond, c.wf → ∀ (k : Nat) (s : St), Fr s → p < s.next → q < s.next → b < s.next →
    s.get p = some (.cells [.int .i64 ((k : Int) - 1)] 3 false 0 0) → s.get q = some (.cells [.sl b 0 n cap 1] 43 false 0 0) → s.get b = some (.cells (bools H) 4 false 0 0) → k + (lvs c).length ≤ n →
    P161 p s (jd c (H.drop k)) (k + (lvs c).length) (cal U 161 [encC c, .fn (.func 162) [] [.ptr p 0, .ptr q 0]] s) := by
  intro c
  induction c using Cond.ind with
  | h kind a bb mi ma pat nl kids ih =>
  intro hwf k s0 hfr hp0 hq0 hb0 hp hq hb hkn
  have h213 := c213 (.mk kind a bb mi ma pat nl kids)
  rw [show (Cond.mk kind a bb mi ma pat nl kids).kind = kind from rfl] at h213
  have hcw := hwf
  rw [Cond.wf] at hcw
  obtain ⟨-, -, -, -, -, -, hknown, -, -, -, -, hk8, hkw⟩ := hcw
  suffices hgo : P161 p s0 (jd (.mk kind a bb mi ma pat nl kids) (H.drop k)) (k + (lvs (.mk kind a bb mi ma pat nl kids)).length) (go U (finB U [.tmp 4]) [] r161 (bindArgs 0 [encC (.mk kind a bb mi ma pat nl kids), .fn (.func 162) [] [.ptr p 0, .ptr q 0]] .nil) s0) by
    obtain ⟨s', h1, h2⟩ := hgo
    exact ⟨s', kept_go k161 (by kernel_rfl) h1, h2⟩
  rw [lvs] at hkn ⊢
  rw [jd]
  cases hcm : isComp kind with
  | false =>
    rw [hcm] at h213 hkn
    simp only [cond_false, List.length_singleton] at hkn ⊢
    have hk : k < H.length := by omega
    have hcall := @c162 _ p q b n cap H k (s0.new (.cells (Cond.mk kind a bb mi ma pat nl kids).cells 48 false 0 0)) hpq hpb hk hn hn2 (by rw [get_new, if_neg (by omega)]; exact hp) (by rw [get_new, if_neg (by omega)]; exact hq) (by rw [get_new, if_neg (by omega)]; exact hb)
    have hhd : (H.drop k).headD false = H[k] := by rw [List.drop_eq_getElem_cons hk]; rfl
    rw [hhd]
    rw [encC] at h213 ⊢
    simp only [Cond.cells, Cond.kind, Cond.a, Cond.b, Cond.mi, Cond.ma, Cond.pat, Cond.nl, Cond.kids] at hcall
    simp (config := { maxSteps := 2000000 }) +contextual only [go_sem, ↓reduceIte, r161, h213, noAgg_encS, cells_encS, k162', hcall]
    refine ⟨_, rfl, ?_, ?_, ?_, ?_⟩
    · rw [get_put, if_pos rfl, show ((k + 1 : Nat) : Int) - 1 = (k : Int) by omega]
    · intro j hj hjp
      rw [get_put, if_neg (fun e => hjp e.symm), get_new, if_neg (by omega)]
    · rw [next_put, next_new]; omega
    · exact (hfr.new _).put (by rw [next_new]; omega) _
  | true =>
    rw [hcm] at h213 hkn
    simp only [cond_true] at hkn ⊢
    rw [encC] at h213 ⊢
    have ne : ∀ k, (s0.next + 1 + k = s0.next) = False := fun k => by simp; omega
    simp (config := { maxSteps := 2000000 }) +contextual only [go_sem, ↓reduceIte, r161, h213, noAgg_encS, cells_encS, lenL_encS, encL_len]
    refine loop_ex (σ := Nat) (fun i => kids.length - i) (fun i e s => i ≤ kids.length ∧ (∃ sm al, jdL (kids.drop i) (H.drop (k + (lvsL (kids.take i)).length)) sm al = jdL kids (H.drop k) false true ∧ Env.get e 5 = .bool sm ∧ Env.get e 6 = .bool al) ∧
      Env.get e 1 = .fn (.func 162) [] [.ptr p 0, .ptr q 0] ∧ Env.get e 2 = .ptr s0.next 0 ∧ Env.get e 16 = encS nl (encL kids) ∧ Env.get e 17 = .int .i64 kids.length ∧ Env.get e 18 = .int .i64 (i : Nat) ∧
      Fr s ∧ s0.next < s.next ∧ s.get s0.next = some (.cells [.str kind, .int .i64 a, .int .i64 bb, .int .i64 mi, .int .i64 ma, .str pat, encS nl (encL kids)] 48 false 0 0) ∧ (∀ j, j < s0.next → j ≠ p → s.get j = s0.get j) ∧
      s.get p = some (.cells [.int .i64 (((k + (lvsL (kids.take i)).length : Nat) : Int) - 1)] 3 false 0 0)) 0 ?_ ?_
    · rintro L i e s ⟨hi, ⟨sm, al, hj, g5, g6⟩, g1, g2, g16, g17, g18, fr, hnx, hs, hold, hsp⟩ IH
      by_cases hd : i < kids.length
      · have hx : (encL kids)[i]? = some (encC kids[i]) := by rw [encL_get, List.getElem?_eq_getElem hd]; rfl
        have hw := wrap_succ hd (by omega)
        have hmem := List.getElem_mem hd
        have htk : lvsL (kids.take (i + 1)) = lvsL (kids.take i) ++ lvs kids[i] := by
          rw [List.take_succ_eq_append_getElem hd, lvsL_append]; simp [lvsL]
        have hsp' : lvsL kids = lvsL (kids.take i) ++ (lvs kids[i] ++ lvsL (kids.drop (i + 1))) := by
          conv => lhs; rw [← List.take_append_drop i kids, lvsL_append, List.drop_eq_getElem_cons hd, lvsL]
        have hsl : (lvsL (kids.take i)).length + ((lvs kids[i]).length + (lvsL (kids.drop (i + 1))).length) = (lvsL kids).length := by rw [hsp']; simp
        have hQ : ∀ y z j, j < s.next → ((s.new y).put s.next z).get j = s.get j := fun y z j hj => by rw [get_put, if_neg (by omega), get_new, if_neg (by omega)]
        obtain ⟨s', e1, e2, e3, e4, e5⟩ := ih kids[i] hmem (hkw _ hmem) (k + (lvsL (kids.take i)).length) ((s.new (.cells [.str [], .int .i64 0, .int .i64 0, .int .i64 0, .int .i64 0, .str [], .nils] 48 false 0 0)).put s.next (.cells kids[i].cells 48 false 0 0))
          ((fr.new _).put (by rw [next_new]; omega) _) (by rw [next_put, next_new]; omega) (by rw [next_put, next_new]; omega) (by rw [next_put, next_new]; omega)
          (by rw [hQ _ _ _ (by omega)]; exact hsp) (by rw [hQ _ _ _ (by omega), hold _ hq0 (fun e => hpq e.symm)]; exact hq) (by rw [hQ _ _ _ (by omega), hold _ hb0 (fun e => hpb e.symm)]; exact hb) (by omega)
        rw [encC_cells] at hx e1
        simp only [Cond.cells] at hx e1
        rw [encS_ne (encL_ne hd)] at g16
        simp (config := { maxSteps := 2000000 }) +contextual only [go_sem, ↓reduceIte, r161_l0, g1, g5, g6, g16, g17, g18, nat_lt_dec, hd, hx, noAgg_encS, k161', e1, hw]
        rw [next_put, next_new] at e4
        rw [List.drop_eq_getElem_cons hd, jdL, List.drop_drop] at hj
        refine IH (i + 1) _ _ (by omega) ⟨by omega, ⟨sm || jd kids[i] (H.drop (k + (lvsL (kids.take i)).length)), al && jd kids[i] (H.drop (k + (lvsL (kids.take i)).length)), ?_, ?_, ?_⟩, ?_, ?_, ?_, ?_, ?_, e5, by omega, ?_, ?_, ?_⟩
        case refine_1 =>
          rw [htk, List.length_append, ← Nat.add_assoc]; exact hj
        case refine_9 => rw [e3 _ (by rw [next_put, next_new]; omega) (by omega), hQ _ _ _ (by omega), hs]
        case refine_10 => exact fun j hj hjp => by rw [e3 _ (by rw [next_put, next_new]; omega) hjp, hQ _ _ _ (by omega), hold j hj hjp]
        case refine_11 => rw [htk, List.length_append, ← Nat.add_assoc]; exact e2
        all_goals simp +contextual only [go_sem, ↓reduceIte, g1, g2, g5, g6, g16, g17, g18, hw, encS_ne (encL_ne hd)]
        all_goals first | (cases sm <;> rfl) | (cases al <;> rfl) | skip
      · have : i = kids.length := by omega
        subst this
        rw [List.drop_length, jdL] at hj
        rw [List.take_length] at hsp
        rw [← hj]
        obtain ⟨h0, h1, h2, h3, h4, h5, h6, h7, h8, h9, h10, h11, h12, h13, h14⟩ := kd_facts kind
        have hlf := isComp_kd kind hknown
        rw [hcm] at hlf
        have hend : ∀ v, v = (match kdOf kind with | .not_ => !sm | .any_ => sm | _ => al) → P161 p s0 (match kdOf kind with | .not_ => !(sm, al).1 | .any_ => (sm, al).1 | _ => (sm, al).2) (k + (lvsL kids).length) (some (.bool v, s)) := fun v hv =>
          ⟨s, by rw [hv], hsp, hold, by omega, fr⟩
        generalize kdOf kind = dd at *
        cases dd <;> first | (simp [Kd.leaf] at hlf; done) | skip
        all_goals simp only [reduceCtorEq, decide_true, decide_false] at h12 h14
        all_goals simp (config := { maxSteps := 2000000 }) +contextual only [go_sem, ↓reduceIte, r161_l0, g2, g5, g6, g16, g17, g18, hs, nat_lt_dec, Nat.lt_irrefl, h12, h14]
        all_goals first | exact hend _ rfl | (exfalso; simp [Kd.known] at hknown)
    · refine ⟨Nat.zero_le _, ⟨false, true, ?_, ?_, ?_⟩, ?_, ?_, ?_, ?_, ?_, hfr.new _, by rw [next_new]; omega, ?_, ?_, ?_⟩
      case refine_1 => rw [List.drop_zero, List.take_zero, lvsL]; rfl
      case refine_10 => exact fun j hj hjp => by rw [get_new, if_neg (by omega)]
      case refine_11 => rw [get_new, if_neg (by omega), List.take_zero, lvsL]; exact hp
      all_goals simp +contextual only [go_sem, ↓reduceIte]
      all_goals rfl
end Go.Am

set_option linter.all false
namespace Go.Am
open Go
variable [MaxLen]
set_option maxRecDepth 100000
set_option maxHeartbeats 8000000

theorem repeatL_one (x : AV) : ∀ n : Nat, repeatL n [x] = List.replicate n x
  | 0 => rfl
  | n + 1 => by rw [repeatL, repeatL_one x n]; rfl
theorem rop_mks40 {base i a : Nat} {e : Env} {s : St} {n : Nat} (h : Env.get e a = .int .i64 (n : Int)) (hn : n ≤ 2 ^ 20) :
    rop U base (some i) e s (.raw (.makeSlice 40 (.tmp a) (.tmp a))) = some (.sl (base + i) 0 n (some n) 1, s.put (base + i) (.cells (ints (List.replicate n 0)) 3 false 0 0)) := by
  have h40 : U.und 40 = some (.slice 3) := by kernel_rfl
  have hz : zero U 3 = some (.int .i64 0) := by kernel_rfl
  have hi : (U.inf 3).map (fun i => (i.bytes, i.size)) = some (8, 1) := by kernel_rfl
  have e1 : ints (List.replicate n 0) = List.replicate n (.int .i64 0) := by simp [ints]
  cases hj : U.inf 3 with
  | none => rw [hj] at hi; cases hi
  | some j =>
    rw [hj] at hi
    simp only [Option.map_some, Option.some.injEq, Prod.mk.injEq] at hi
    obtain ⟨h1, h2⟩ := hi
    rw [e1, ← repeatL_one]
    simp only [rop, rawR, opA, eval, h, h40, hj, hz]
    rw [if_pos ⟨by omega, by omega, by rw [h1]; omega, by omega, by rw [h2]; rfl, by omega⟩, h2]
    rfl
theorem rop_mks43 {base i a : Nat} {e : Env} {s : St} {n : Nat} (h : Env.get e a = .int .i64 (n : Int)) (hn : n ≤ 2 ^ 20) :
    rop U base (some i) e s (.raw (.makeSlice 43 (.tmp a) (.tmp a))) = some (.sl (base + i) 0 n (some n) 1, s.put (base + i) (.cells (bools (List.replicate n false)) 4 false 0 0)) := by
  have h40 : U.und 43 = some (.slice 4) := by kernel_rfl
  have hz : zero U 4 = some (.bool false) := by kernel_rfl
  have hi : (U.inf 4).map (fun i => (i.bytes, i.size)) = some (1, 1) := by kernel_rfl
  have e1 : bools (List.replicate n false) = List.replicate n (.bool false) := by simp [bools]
  cases hj : U.inf 4 with
  | none => rw [hj] at hi; cases hi
  | some j =>
    rw [hj] at hi
    simp only [Option.map_some, Option.some.injEq, Prod.mk.injEq] at hi
    obtain ⟨h1, h2⟩ := hi
    rw [e1, ← repeatL_one]
    simp only [rop, rawR, opA, eval, h, h40, hj, hz]
    rw [if_pos ⟨by omega, by omega, by rw [h1]; omega, by omega, by rw [h2]; rfl, by omega⟩, h2]
    rfl
theorem lay_set : ∀ (cs : List AV) (i : Nat) (x : AV), i < cs.length → lay i [x] cs = some (cs.set i x)
  | [], i, x, h => by simp at h
  | c :: cs, 0, x, h => by rw [lay_zero, lay_nil]; rfl
  | c :: cs, i + 1, x, h => by
    rw [lay_succ, lay_set cs i x (by simpa using h)]; rfl

/-- the row under way: the first ones new, the others as they were made -/
def part {A : Type} (l : List A) (z : A) (n i : Nat) : List A := l.take i ++ List.replicate (n - i) z
theorem part_len {A : Type} (l : List A) (z : A) {n i : Nat} (h : l.length = n) (hi : i ≤ n) : (part l z n i).length = n := by
  simp [part, h]; omega
theorem part_set {A : Type} (l : List A) (z : A) {n i : Nat} (h : l.length = n) (hi : i < n) : (part l z n i).set i (l[i]'(by omega)) = part l z n (i + 1) := by
  unfold part
  have h1 : (l.take i).length = i := by rw [List.length_take]; omega
  rw [List.set_append, if_neg (by omega), h1, Nat.sub_self, show n - i = (n - (i + 1)) + 1 by omega, List.replicate_succ, List.set_cons_zero, List.take_succ_eq_append_getElem (by omega), List.append_assoc]
  rfl
theorem part_full {A : Type} (l : List A) (z : A) {n : Nat} (h : l.length = n) : part l z n n = l := by
  unfold part; rw [Nat.sub_self, List.replicate_zero, List.append_nil, ← h, List.take_length]
theorem part_none {A : Type} (l : List A) (z : A) (n : Nat) : part l z n 0 = List.replicate n z := by unfold part; simp
theorem ints_set (l : List Int) (i : Nat) (x : Int) : (ints l).set i (.int .i64 x) = ints (l.set i x) := by rw [ints, ints, List.map_set]
theorem bools_set (l : List Bool) (i : Nat) (x : Bool) : (bools l).set i (.bool x) = bools (l.set i x) := by rw [bools, bools, List.map_set]
end Go.Am

set_option linter.all false
namespace Go.Am
open Go
variable [MaxLen]
set_option maxRecDepth 100000
set_option maxHeartbeats 8000000

/-! # A step of the machine -/

theorem frz_slI {s : St} {b d : Nat} {cap : Option Nat} {l : List Int} (hg : s.get b = some (.cells (ints l) 3 false 0 0)) : frz U s (d + 2) (.sl b 0 l.length cap 1) = some (.fz (ints l)) := by
  have e : l.length = (ints l).length := (ints_len l).symm
  rw [frz_sl, hg, frzS_cells, Nat.mul_one, e, grab_all, ag_3, sz_3, frzT_one, if_pos (noAgg_ints l), chunks_all, frz_ints, fzK_some]

def leafStep (now last : Int) (first : Bool) (c : Cond) (st : Int) : Int × Bool := stP (kdOf c.kind) c st now last first
def nextL (now last : Int) (first : Bool) : List Cond → List Int → List Int
  | c :: l, st :: sts => (leafStep now last first c st).1 :: nextL now last first l sts
  | _, _ => []
def holdL (now last : Int) (first : Bool) : List Cond → List Int → List Bool
  | c :: l, st :: sts => (leafStep now last first c st).2 :: holdL now last first l sts
  | _, _ => []
theorem nextL_len (now last : Int) (first : Bool) : ∀ (l : List Cond) (sts : List Int), sts.length = l.length → (nextL now last first l sts).length = l.length
  | [], [], _ => rfl
  | c :: l, st :: sts, h => by rw [nextL, List.length_cons, nextL_len now last first l sts (by simpa using h)]; rfl
theorem holdL_len (now last : Int) (first : Bool) : ∀ (l : List Cond) (sts : List Int), sts.length = l.length → (holdL now last first l sts).length = l.length
  | [], [], _ => rfl
  | c :: l, st :: sts, h => by rw [holdL, List.length_cons, holdL_len now last first l sts (by simpa using h)]; rfl
theorem nextL_get (now last : Int) (first : Bool) : ∀ (l : List Cond) (sts : List Int) (i : Nat) (h1 : i < l.length) (h2 : i < sts.length) (h3 : i < (nextL now last first l sts).length), (nextL now last first l sts)[i] = (leafStep now last first l[i] sts[i]).1
  | c :: l, st :: sts, 0, _, _, _ => rfl
  | c :: l, st :: sts, i + 1, h1, h2, h3 => by
    simp only [nextL, List.getElem_cons_succ]
    exact nextL_get now last first l sts i (by simpa using h1) (by simpa using h2) _
theorem holdL_get (now last : Int) (first : Bool) : ∀ (l : List Cond) (sts : List Int) (i : Nat) (h1 : i < l.length) (h2 : i < sts.length) (h3 : i < (holdL now last first l sts).length), (holdL now last first l sts)[i] = (leafStep now last first l[i] sts[i]).2
  | c :: l, st :: sts, 0, _, _, _ => rfl
  | c :: l, st :: sts, i + 1, h1, h2, h3 => by
    simp only [holdL, List.getElem_cons_succ]
    exact holdL_get now last first l sts i (by simpa using h1) (by simpa using h2) _
def outs : List Cond → List Bool → List Bool
  | [], _ => []
  | c :: l, hs => jd c hs :: outs l (hs.drop (lvs c).length)

section
variable (C L : List Cond) (sts : List Int) (now last : Int) (first : Bool)

/-- what stands while the leaves are stepped -/
structure F93 (n i : Nat) (N : List Int) (B : List Bool) (e : Env) (s : St) : Prop where
  t1 : Env.get e 1 = .fz (ints sts)
  t3 : Env.get e 3 = .ptr 8 0
  t5 : Env.get e 5 = .ptr 9 0
  t8 : Env.get e 8 = .sl 12 0 n (some n) 1
  t9 : Env.get e 9 = .ptr 16 0
  fr : Fr s
  nx : 19 ≤ s.next
  g8 : s.get 8 = some (.cells [.fz (C.map encC), .fz (L.map encC), .fz (L.map stepV)] 152 false 0 0)
  g9 : s.get 9 = some (.cells [.int .i64 now, .int .i64 last, .bool first] 158 false 0 0)
  g12 : s.get 12 = some (.cells (ints (part N 0 n i)) 3 false 0 0)
  g15 : s.get 15 = some (.cells (bools (part B false n i)) 4 false 0 0)
  g16 : s.get 16 = some (.cells [.sl 15 0 n (some n) 1] 43 false 0 0)

theorem l93a {β : Type} {fin : Fl → β} {ks : List K} {Post : β → Prop} (hL : ∀ c ∈ L, c.wf ∧ (kdOf c.kind).leaf = true) (hs : ∀ x ∈ sts, 0 ≤ x ∧ x ≤ 256) (hlen : sts.length = L.length) (hL2 : L.length ≤ 2 ^ 20) (hn : okSy now) (hl : okSy last)
    (hk : ∀ e s, F93 C L sts now last first L.length L.length (nextL now last first L sts) (holdL now last first L sts) e s → Post (goN U fin ks e s)) {e : Env} {s : St}
    (hI : F93 C L sts now last first L.length 0 (nextL now last first L sts) (holdL now last first L sts) e s) (h23 : Env.get e 23 = .fz (L.map encC)) (h24 : Env.get e 24 = .int .i64 L.length) (h25 : Env.get e 25 = .int .i64 (0 : Nat)) :
    Post (goL U fin (.bk 0 :: ks) r93_l0 e s) := by
  have lN := nextL_len now last first L sts hlen
  have lB := holdL_len now last first L sts hlen
  refine loop_ex (σ := Nat) (fun i => L.length - i) (fun i e s => i ≤ L.length ∧ F93 C L sts now last first L.length i (nextL now last first L sts) (holdL now last first L sts) e s ∧ Env.get e 23 = .fz (L.map encC) ∧ Env.get e 24 = .int .i64 L.length ∧ Env.get e 25 = .int .i64 (i : Nat)) 0 ?_ ⟨Nat.zero_le _, hI, h23, h24, h25⟩
  clear hI h23 h24 h25 e s
  rintro Lp i e s ⟨hi, hF, h23, h24, h25⟩ IH
  by_cases hd : i < L.length
  · obtain ⟨t1, t3, t5, t8, t9, fr, nx, g8, g9, g12, g15, g16⟩ := hF
    have hx : (L.map encC)[i]? = some (encC L[i]) := by rw [List.getElem?_map, List.getElem?_eq_getElem hd]; rfl
    have hxs : (L.map stepV)[i]? = some (stepV L[i]) := by rw [List.getElem?_map, List.getElem?_eq_getElem hd]; rfl
    have hd2 : i < sts.length := by omega
    have hxt : (ints sts)[i]? = some (.int .i64 sts[i]) := by rw [ints_get, List.getElem?_eq_getElem hd2]; rfl
    have hwr := wrap_succ hd (by omega)
    have hmem := List.getElem_mem hd
    obtain ⟨w1, w2⟩ := hL _ hmem
    have hst : ∀ s, calv U (stepV L[i]) [encC L[i], .int .i64 sts[i], encSm now last first] s = some (.tup [.int .i64 (leafStep now last first L[i] sts[i]).1, .bool (leafStep now last first L[i] sts[i]).2], s) :=
      fun s => step_call L[i] w1.stp sts[i] now last first hn hl (hs _ (List.getElem_mem hd2)) _ w2 s
    rw [← nextL_get now last first L sts i hd hd2 (by omega), ← holdL_get now last first L sts i hd hd2 (by omega)] at hst
    have hy1 : lay i [.int .i64 ((nextL now last first L sts)[i]'(by omega))] (ints (part (nextL now last first L sts) 0 L.length i)) = some (ints (part (nextL now last first L sts) 0 L.length (i + 1))) := by
      rw [lay_set _ _ _ (by rw [ints_len, part_len _ _ lN hi]; exact hd), ints_set, part_set _ _ lN hd]
    have hy2 : lay i [.bool ((holdL now last first L sts)[i]'(by omega))] (bools (part (holdL now last first L sts) false L.length i)) = some (bools (part (holdL now last first L sts) false L.length (i + 1))) := by
      rw [lay_set _ _ _ (by rw [bools_len, part_len _ _ lB hi]; exact hd), bools_set, part_set _ _ lB hd]
    rw [encSm] at hst
    rw [encC_cells] at hx hst
    simp only [Cond.cells] at hx hst
    generalize (nextL now last first L sts)[i]'(by omega) = vN at *
    generalize (holdL now last first L sts)[i]'(by omega) = vB at *
    have ne : ∀ k, k < 19 → (s.next = k) = False := fun k hk => by simp; omega
    have ne' : ∀ j k, k < 19 → (s.next + j = k) = False := fun j k hk => by simp; omega
    simp (config := { maxSteps := 2000000 }) +contextual only [go_sem, ↓reduceIte, r93_l0, t1, t3, t5, t8, t9, g8, g9, g12, g15, g16, h23, h24, h25, nat_lt_dec, hd, hx, hxs, hxt, noAgg_encS, stepV_cells, stepV_plain, go_drcU d93_1, ne, ne', hst, hy1, hy2, hwr, Nat.mul_one, Nat.zero_add]
    have hne : ∀ k, k < 19 → ¬ s.next = k := fun k hk => by omega
    refine IH (i + 1) _ _ (by omega) ⟨by omega, ⟨?_, ?_, ?_, ?_, ?_, ?_, ?_, ?_, ?_, ?_, ?_, ?_⟩, ?_, ?_, ?_⟩
    case refine_6 =>
      repeat first | exact fr | apply Fr.new | apply Fr.put | apply Fr.upto
      all_goals simp only [next_put, next_new, upto_next]
      all_goals omega
    case refine_7 => simp only [next_put, next_new, upto_next]; omega
    all_goals simp +contextual only [go_sem, ↓reduceIte, t1, t3, t5, t8, t9, h23, h24, h25, hwr, g8, g9, g16, Nat.reduceEqDiff, hne, ne, Nat.reduceLT]
  · have : i = L.length := by omega
    subst this
    simp +contextual only [go_sem, ↓reduceIte, r93_l0, h23, h24, h25, nat_lt_dec, Nat.lt_irrefl]
    obtain ⟨t1, t3, t5, t8, t9, fr, nx, g8, g9, g12, g15, g16⟩ := hF
    refine hk _ _ ⟨?_, ?_, ?_, ?_, ?_, fr, nx, g8, g9, g12, g15, g16⟩
    all_goals simp +contextual only [go_sem, ↓reduceIte, t1, t3, t5, t8, t9]
end
end Go.Am

set_option linter.all false
namespace Go.Am
open Go
variable [MaxLen]
set_option maxRecDepth 100000
set_option maxHeartbeats 8000000

section
variable (C : List Cond) (N : List Int) (B : List Bool)

theorem l93b {β : Type} {fin : Fl → β} {ks : List K} {Post : β → Prop} (p : Nat) (hp : 19 ≤ p) (hC : ∀ c ∈ C, c.wf) (hC2 : C.length ≤ 2 ^ 20) (hB : B.length = (lvsL C).length) (hB2 : B.length ≤ 2 ^ 20)
    (hk : ∀ e s v, Env.get e 8 = .sl 12 0 B.length (some B.length) 1 → Env.get e 13 = v → RowI s (p + 1) 4 1 (outs C B).length (bools (outs C B)) v → s.get 12 = some (.cells (ints N) 3 false 0 0) → Post (goN U fin ks e s)) {e : Env} {s : St}
    (h8 : Env.get e 8 = .sl 12 0 B.length (some B.length) 1) (h9 : Env.get e 9 = .ptr 16 0) (h12 : Env.get e 12 = .ptr p 0) (h13 : Env.get e 13 = .nils) (h53 : Env.get e 53 = .fz (C.map encC)) (h54 : Env.get e 54 = .int .i64 C.length) (h55 : Env.get e 55 = .int .i64 (0 : Nat))
    (fr : Fr s) (nx : p < s.next) (gp : s.get p = some (.cells [.int .i64 (-1)] 3 false 0 0)) (g12 : s.get 12 = some (.cells (ints N) 3 false 0 0)) (g15 : s.get 15 = some (.cells (bools B) 4 false 0 0)) (g16 : s.get 16 = some (.cells [.sl 15 0 B.length (some B.length) 1] 43 false 0 0)) :
    Post (goL U fin (.bk 2 :: ks) r93_l1 e s) := by
  refine loop_ex (σ := Nat) (fun i => C.length - i) (fun i e s => i ≤ C.length ∧ Env.get e 8 = .sl 12 0 B.length (some B.length) 1 ∧ Env.get e 9 = .ptr 16 0 ∧ Env.get e 12 = .ptr p 0 ∧ Env.get e 53 = .fz (C.map encC) ∧ Env.get e 54 = .int .i64 C.length ∧ Env.get e 55 = .int .i64 (i : Nat) ∧
    Fr s ∧ p < s.next ∧ s.get p = some (.cells [.int .i64 (((lvsL (C.take i)).length : Int) - 1)] 3 false 0 0) ∧ s.get 12 = some (.cells (ints N) 3 false 0 0) ∧ s.get 15 = some (.cells (bools B) 4 false 0 0) ∧ s.get 16 = some (.cells [.sl 15 0 B.length (some B.length) 1] 43 false 0 0) ∧
    ∃ v acc, Env.get e 13 = v ∧ acc.length = i ∧ RowI s (p + 1) 4 1 i (bools acc) v ∧ acc ++ outs (C.drop i) (B.drop (lvsL (C.take i)).length) = outs C B) 0 ?_
    ⟨Nat.zero_le _, h8, h9, h12, h53, h54, h55, fr, nx, by rw [List.take_zero, lvsL, gp]; rfl, g12, g15, g16, .nils, [], h13, rfl, RowI.nil _ _ _ _, by rw [List.take_zero, lvsL]; rfl⟩
  clear h8 h9 h12 h13 h53 h54 h55 fr nx gp g12 g15 g16 e s
  rintro Lp i e s ⟨hi, h8, h9, h12, h53, h54, h55, fr, nx, gp, g12, g15, g16, v, acc, h13, hacc, hv, ho⟩ IH
  by_cases hd : i < C.length
  · have hx : (C.map encC)[i]? = some (encC C[i]) := by rw [List.getElem?_map, List.getElem?_eq_getElem hd]; rfl
    have hw := wrap_succ hd (by omega)
    have hmem := List.getElem_mem hd
    have htk : lvsL (C.take (i + 1)) = lvsL (C.take i) ++ lvs C[i] := by
      rw [List.take_succ_eq_append_getElem hd, lvsL_append]; simp [lvsL]
    have hsp' : lvsL C = lvsL (C.take i) ++ (lvs C[i] ++ lvsL (C.drop (i + 1))) := by
      conv => lhs; rw [← List.take_append_drop i C, lvsL_append, List.drop_eq_getElem_cons hd, lvsL]
    have hsl : (lvsL (C.take i)).length + ((lvs C[i]).length + (lvsL (C.drop (i + 1))).length) = (lvsL C).length := by rw [hsp']; simp
    have hQ : ∀ y z j, j < s.next → ((s.new y).put s.next z).get j = s.get j := fun y z j hj => by rw [get_put, if_neg (by omega), get_new, if_neg (by omega)]
    obtain ⟨s', e1, e2, e3, e4, e5⟩ := c161 p 16 15 B.length (some B.length) B (by omega) (by omega) rfl (by omega) C[i] (hC _ hmem) (lvsL (C.take i)).length ((s.new (.cells [.str [], .int .i64 0, .int .i64 0, .int .i64 0, .int .i64 0, .str [], .nils] 48 false 0 0)).put s.next (.cells C[i].cells 48 false 0 0))
      ((fr.new _).put (by rw [next_new]; omega) _) (by rw [next_put, next_new]; omega) (by rw [next_put, next_new]; omega) (by rw [next_put, next_new]; omega)
      (by rw [hQ _ _ _ (by omega)]; exact gp) (by rw [hQ _ _ _ (by omega)]; exact g16) (by rw [hQ _ _ _ (by omega)]; exact g15) (by omega)
    rw [next_put, next_new] at e3 e4
    rw [encC_cells] at hx e1
    simp only [Cond.cells] at hx e1
    have hla := hv.lenA
    have hna := hv.noAgg
    have hb1 : (i + 1) * 1 ≤ 1099511627776 := by omega
    have hb2 : i + 1 ≤ 1099511627776 := by omega
    simp (config := { maxSteps := 2000000 }) +contextual only [go_sem, ↓reduceIte, r93_l1, h9, h12, h13, h53, h54, h55, nat_lt_dec, hd, hx, noAgg_encS, k161', e1, hw, appK_some, Nat.reducePow, Nat.one_mul, hla, hna, hb1, hb2]
    generalize hjv : jd C[i] (B.drop (lvsL (C.take i)).length) = jv at *
    have hv0 : RowI (s'.new (.cells [.bool jv] 4 false 0 0)) (p + 1) 4 1 i (bools acc) v := hv.mono (by rw [next_new]; omega) fun j hj hj' => by
      rw [get_new, if_neg (by omega), e3 j (by omega) (by omega), hQ _ _ _ hj']
    obtain ⟨s1, f1, f2, f3, f4, f5⟩ := hv0.app2 (by rw [next_new]; omega) (m := 1) (new := [.bool jv]) (by omega) rfl rfl
    rw [next_new] at f1 f2 f3 f4
    rw [f1]
    have low : ∀ j, j < p + 1 → s1.get j = s'.get j := fun j hj => by rw [f4 j (by omega) (hv0.far (.inr hj)), get_new, if_neg (by omega)]
    simp (config := { maxSteps := 2000000 }) +contextual only [go_sem, ↓reduceIte, h55, hw]
    rw [List.drop_eq_getElem_cons hd, outs, hjv, List.drop_drop] at ho
    refine IH (i + 1) _ _ (by omega) ⟨by omega, ?_, ?_, ?_, ?_, ?_, ?_, f5 (e5.new _), by rw [f2]; omega, ?_, ?_, ?_, ?_, .sl (s'.next + 1) 0 (i + 1) none 1, acc ++ [jv], ?_, ?_, ?_, ?_⟩
    case refine_7 => rw [low p (by omega), e2, htk, List.length_append]
    case refine_8 => rw [low 12 (by omega), e3 _ (by omega) (by omega), hQ _ _ _ (by omega), g12]
    case refine_9 => rw [low 15 (by omega), e3 _ (by omega) (by omega), hQ _ _ _ (by omega), g15]
    case refine_10 => rw [low 16 (by omega), e3 _ (by omega) (by omega), hQ _ _ _ (by omega), g16]
    case refine_12 => rw [List.length_append, hacc]; rfl
    case refine_13 => rw [bools, List.map_append]; exact f3
    case refine_14 => rw [htk, List.length_append, List.append_assoc]; exact ho
    all_goals simp +contextual only [go_sem, ↓reduceIte, h8, h9, h12, h53, h54, hw]
  · have : i = C.length := by omega
    subst this
    rw [List.drop_length, outs, List.append_nil] at ho
    rw [← ho] at hk
    simp +contextual only [go_sem, ↓reduceIte, r93_l1, h54, h55, nat_lt_dec, Nat.lt_irrefl]
    refine hk _ _ v ?_ ?_ (by rw [hacc]; exact hv) g12
    all_goals simp +contextual only [go_sem, ↓reduceIte, h8, h13]
end
theorem outs_len : ∀ (C : List Cond) (B : List Bool), (outs C B).length = C.length
  | [], _ => rfl
  | c :: l, B => by rw [outs, List.length_cons, outs_len l, List.length_cons]

/-- two rows of its own making -/
def P93 (N : List Int) (O : List Bool) (r : Option (AV × St)) : Prop := ∃ s' v B, r = some (.tup [.sl 12 0 N.length (some N.length) 1, v], s') ∧ s'.get 12 = some (.cells (ints N) 3 false 0 0) ∧ RowI s' B 4 1 O.length (bools O) v

theorem g93 (C : List Cond) (sts : List Int) (now last : Int) (first : Bool) (hC : ∀ c ∈ C, c.wf) (hC2 : C.length ≤ 2 ^ 20) (hs : ∀ x ∈ sts, 0 ≤ x ∧ x ≤ 256) (hlen : sts.length = (lvsL C).length) (hL2 : (lvsL C).length ≤ 2 ^ 20) (hn : okSy now) (hl : okSy last) :
    P93 (nextL now last first (lvsL C) sts) (outs C (holdL now last first (lvsL C) sts)) (go U (finB U [.tmp 6, .tmp 7]) [] r93 (bindArgs 0 [.agg [.fz (C.map encC), .fz ((lvsL C).map encC), .fz ((lvsL C).map stepV)], .fz (ints sts), encSm now last first] .nil) (ownSt U)) := by
  have lN := nextL_len now last first (lvsL C) sts hlen
  have lB := holdL_len now last first (lvsL C) sts hlen
  have hLw : ∀ c ∈ lvsL C, c.wf ∧ (kdOf c.kind).leaf = true := fun c hc => by
    obtain ⟨x, h1, h2⟩ := lvsL_mem hc
    exact lvs_leaf x (hC x h1) c h2
  rw [encSm]
  have m1 := fun (e : Env) (s : St) (h : Env.get e 17 = .int .i64 ((lvsL C).length : Int)) => @rop_mks40 _ 10 2 17 e s _ h hL2
  have m2 := fun (e : Env) (s : St) (h : Env.get e 20 = .int .i64 ((lvsL C).length : Int)) => @rop_mks43 _ 10 5 20 e s _ h hL2
  simp (config := { maxSteps := 2000000 }) +contextual only [go_sem, ↓reduceIte, r93, go_drcU d93_0, ints_len, hlen, m1, m2, List.length_map]
  refine l93a C (lvsL C) sts now last first (Post := P93 (nextL now last first (lvsL C) sts) (outs C (holdL now last first (lvsL C) sts))) hLw hs hlen hL2 hn hl ?_ ⟨?_, ?_, ?_, ?_, ?_, ?_, ?_, ?_, ?_, ?_, ?_, ?_⟩ ?_ ?_ ?_
  case refine_1 =>
    rintro e s ⟨t1, t3, t5, t8, t9, fr, nx, g8, g9, g12, g15, g16⟩
    rw [part_full _ _ lN] at g12
    rw [part_full _ _ lB] at g15
    have ne : ∀ k, k < 19 → (s.next = k) = False := fun k hk => by simp; omega
    rw [← lB] at t8 g16
    simp (config := { maxSteps := 2000000 }) +contextual only [go_sem, ↓reduceIte, t3, g8, ne, Nat.reduceLT, List.length_map]
    refine l93b C (nextL now last first (lvsL C) sts) (holdL now last first (lvsL C) sts) (Post := P93 (nextL now last first (lvsL C) sts) (outs C (holdL now last first (lvsL C) sts))) s.next nx hC hC2 lB (by omega) ?_ ?_ ?_ ?_ ?_ ?_ ?_ ?_ ?_ ?_ ?_ ?_ ?_ ?_
    case refine_1 =>
      intro e' s' v q8 q13 hv q12
      have el : (holdL now last first (lvsL C) sts).length = (nextL now last first (lvsL C) sts).length := by rw [lB, lN]
      rw [el] at q8
      simp (config := { maxSteps := 2000000 }) +contextual only [go_sem, ↓reduceIte, q8, q13]
      exact ⟨s', v, _, rfl, q12, hv⟩
    case refine_9 =>
      repeat first | exact fr | apply Fr.new | apply Fr.put | apply Fr.upto
      all_goals simp only [next_put, next_new, upto_next]
      all_goals omega
    case refine_10 => simp only [next_put, next_new]; omega
    all_goals simp +contextual only [go_sem, ↓reduceIte, t8, t9, g12, g15, g16, ne, Nat.reduceLT]
    all_goals rfl
  case refine_7 =>
    repeat first | exact Fr.own | apply Fr.new | apply Fr.put | apply Fr.upto
    all_goals simp +contextual only [go_sem, ↓reduceIte]
  all_goals simp +contextual only [go_sem, ↓reduceIte, part_none]
  all_goals rfl
end Go.Am

set_option linter.all false
namespace Go.Am
open Go
variable [MaxLen]
set_option maxRecDepth 100000
set_option maxHeartbeats 8000000

theorem frzN_sl {s : St} {b d n : Nat} {cap : Option Nat} {t : TypeId} {l : List AV} (hn : n = l.length) (hg : s.get b = some (.cells l t false 0 0)) (hag : isAggT U t = some false) (hsz : size U t = some 1) (hna : l.all noAgg = true) (hf : mapO (frzN U s d) l = some l) :
    frzN U s (d + 1) (.sl b 0 n cap 1) = some (.fz l) := by
  subst hn
  simp only [frzN, hg, Nat.mul_one, grab_all, hag, hsz]
  rw [if_pos ⟨trivial, by omega, fun _ => ⟨trivial, hna⟩⟩, chunks_all, hf]
theorem frzN_ints (s : St) (d : Nat) (l : List Int) : mapO (frzN U s (d + 1)) (ints l) = some (ints l) := mapO_self fun x hx => by
  obtain ⟨b, _, rfl⟩ := List.mem_map.1 hx; rfl
theorem frzN_bools (s : St) (d : Nat) (l : List Bool) : mapO (frzN U s (d + 1)) (bools l) = some (bools l) := mapO_self fun x hx => by
  obtain ⟨b, _, rfl⟩ := List.mem_map.1 hx; rfl
theorem RowI.frzN_bools {s : St} {B : Nat} {l : List Bool} {v : AV} (h : RowI s B 4 1 l.length (bools l) v) (d : Nat) : frzN U s (d + 2) v = some (encS true (bools l)) := by
  rcases h with ⟨h0, rfl, _⟩ | ⟨h0, h1, b, _, _, rfl, hg⟩
  · have : l = [] := List.length_eq_zero_iff.1 h0
    subst this; rfl
  · rw [frzN_sl (bools_len l).symm hg ag_4 sz_4 (noAgg_bools l) (Go.Am.frzN_bools s d l)]
    cases l with
    | nil => simp at h0
    | cons x l => rfl

theorem frzN_tup2 {s : St} {d : Nat} {a b a' b' : AV} (h1 : frzN U s d a = some a') (h2 : frzN U s d b = some b') : frzN U s (d + 1) (.tup [a, b]) = some (.tup [a', b']) := by
  have e : mapO (frzN U s d) [a, b] = some [a', b'] := by
    rw [mapO, h1, mapO, h2, mapO]
  rw [frzN, e]

theorem cz93 (C : List Cond) (sts : List Int) (now last : Int) (first : Bool) (hC : ∀ c ∈ C, c.wf) (hC2 : C.length ≤ 2 ^ 20) (hs : ∀ x ∈ sts, 0 ≤ x ∧ x ≤ 256) (hlen : sts.length = (lvsL C).length) (hL2 : (lvsL C).length ≤ 2 ^ 20) (hn : okSy now) (hl : okSy last) (s : St) :
    calZ U 93 (some [.agg [.fz (C.map encC), .fz ((lvsL C).map encC), .fz ((lvsL C).map stepV)], .fz (ints sts), encSm now last first]) s =
      some (.tup [.fz (ints (nextL now last first (lvsL C) sts)), encS true (bools (outs C (holdL now last first (lvsL C) sts)))], s) := by
  refine calZ_some U s ?_
  obtain ⟨s', v, B, h1, h2, h3⟩ := g93 C sts now last first hC hC2 hs hlen hL2 hn hl
  obtain ⟨fn, c, f1, f2, f3, f4⟩ := fnRC_some k93
  have hB := callB_go U f1 f2 f3 f4 h1
  unfold callQ
  rw [hB]
  have hfl : flat (.tup [.sl 12 0 (nextL now last first (lvsL C) sts).length (some (nextL now last first (lvsL C) sts).length) 1, v]) = false := rfl
  have e1 := frzN_sl (d := 38) (cap := some (nextL now last first (lvsL C) sts).length) (ints_len _).symm h2 ag_3 sz_3 (noAgg_ints _) (frzN_ints _ _ _)
  have e2 := h3.frzN_bools 37
  have e3 := frzN_tup2 e1 e2
  have hd : frzDepth = 38 + 1 + 1 := rfl
  simp only [Bool.false_eq_true, if_false, hfl]
  rw [hd]
  exact e3
end Go.Am

set_option linter.all false
namespace Go.Am
open Go
variable [MaxLen]
set_option maxRecDepth 100000
set_option maxHeartbeats 4000000

theorem c159 (x lines : Int) (h0 : 1 ≤ lines) (h1 : lines ≤ 16) : calV U 159 [.int .i64 x, .fp [.int .i64 lines] 0] = some (.bool (outside x 0 (2 ^ lines.toNat - 1))) := by
  refine pure_go k159 (by kernel_rfl) (by simp [stills, still]) ?_
  have hp : (decide (x < 0) || decide (x ≥ 2 ^ lines.toNat)) = outside x 0 (2 ^ lines.toNat - 1) := by
    unfold outside
    congr 1
    congr 1
    apply propext; omega
  rw [← hp]
  simp +contextual only [go_sem, ↓reduceIte, r159, bin_shl1 U _ _ _ (show 0 ≤ lines ∧ lines ≤ 16 from ⟨by omega, h1⟩)]

/-- the first place that a test meets, or -1 -/
def idxO (P : Int → Bool) : Nat → List Int → Int
  | _, [] => -1
  | i, x :: l => bif P x then (i : Int) else idxO P (i + 1) l
theorem idxO_any (P : Int → Bool) : ∀ (l : List Int) (i : Nat), decide (idxO P i l ≥ 0) = l.any P
  | [], i => by simp [idxO]
  | x :: l, i => by
    rw [idxO, List.any_cons]
    cases P x with
    | true => simp
    | false => rw [cond_false, idxO_any P l (i + 1), Bool.false_or]
theorem c179 (nl : Bool) (l : List Int) (lines : Int) (h0 : 1 ≤ lines) (h1 : lines ≤ 16) (hl : l.length ≤ 2 ^ 40) :
    calV U 179 [encS nl (ints l), .fn (.func 159) [] [.fp [.int .i64 lines] 0]] = some (.int .i64 (idxO (fun x => outside x 0 (2 ^ lines.toNat - 1)) 0 l)) := by
  refine pure_go k179 (by kernel_rfl) (by simp [stills, still, still_encS]) ?_
  simp +contextual only [go_sem, ↓reduceIte, r179, lenL_encS, ints_len]
  refine loop_to (σ := Nat) (fun i => l.length - i) (fun i => some (AV.int .i64 (idxO (fun x => outside x 0 (2 ^ lines.toNat - 1)) i (l.drop i)))) (fun i e s => i ≤ l.length ∧ Env.get e 0 = encS nl (ints l) ∧ Env.get e 1 = .fn (.func 159) [] [.fp [.int .i64 lines] 0] ∧ Env.get e 7 = .int .i64 l.length ∧ Env.get e 8 = .int .i64 i) 0 ?_ rfl ?_
  · rintro L i e s ⟨hi, g0, g1, g7, g8⟩ ih
    by_cases hd : i < l.length
    · have hx := ixa_sigN (nl := nl) hd
      have hw := wrap_succ hd (by omega)
      have hat : atI l (i : Int) = l[i] := by unfold atI; rw [Int.toNat_natCast, List.getD_eq_getElem?_getD, List.getElem?_eq_getElem hd]; rfl
      rw [hat] at hx
      have hc := c159 l[i] lines h0 h1
      rw [List.drop_eq_getElem_cons hd, idxO]
      simp +contextual only [go_sem, ↓reduceIte, r179_l0, g0, g1, g7, g8, nat_lt_dec, hd, hx, hc]
      cases hb : outside l[i] 0 (2 ^ lines.toNat - 1) with
      | true => simp +contextual only [go_sem, ↓reduceIte]
      | false =>
        simp +contextual only [go_sem, ↓reduceIte, hw]
        refine ih (i + 1) _ _ (by omega) ⟨by omega, ?_, ?_, ?_, ?_⟩ <;> simp +contextual only [go_sem, ↓reduceIte, g0, g1, g7, g8, hw]
    · have : i = l.length := by omega
      subst this
      simp +contextual only [go_sem, ↓reduceIte, r179_l0, g0, g1, g7, g8, nat_lt_dec, Nat.lt_irrefl]
      rw [List.drop_length]; rfl
  · refine ⟨Nat.zero_le _, ?_, ?_, ?_, ?_⟩ <;> simp +contextual only [go_sem, ↓reduceIte] <;> rfl
theorem c125 (nl : Bool) (l : List Int) (lines : Int) (h0 : 1 ≤ lines) (h1 : lines ≤ 16) (hl : l.length ≤ 2 ^ 40) :
    calV U 125 [encS nl (ints l), .fn (.func 159) [] [.fp [.int .i64 lines] 0]] = some (.bool (anyOut lines l)) := by
  refine pure_go k125 (by kernel_rfl) (by simp [stills, still, still_encS]) ?_
  have := c179 nl l lines h0 h1 hl
  have hi := idxO_any (fun x => outside x 0 (2 ^ lines.toNat - 1)) l 0
  simp +contextual only [go_sem, ↓reduceIte, r125, this, hi]
  rfl
theorem z125 {args : List AV} {s : St} (h : stills args = false) : callK U (calV U 125 args) 125 args s = calZ U 125 (mapO (frz U s 40) args) s := z_of (by kernel_rfl) s h
theorem c91 (nl : Bool) (l : List Int) (lines : Int) (h0 : 1 ≤ lines) (h1 : lines ≤ 16) : calV U 91 [.int .i64 lines, encS nl (ints l)] = some (.int .i64 (ckSig lines l)) := by
  refine pure_go k91 (by kernel_rfl) (by simp [stills, still, still_encS]) ?_
  rw [ckSig]
  cases hb : decide ((l.length : Int) > 4096) with
  | true =>
    simp +contextual only [go_sem, ↓reduceIte, r91, lenL_encS, ints_len, hb]
  | false =>
    have hle : l.length ≤ 2 ^ 40 := by simp at hb; omega
    have hz := fun s => cz_of (c125 nl l lines h0 h1 hle) (by kernel_rfl) (by simp [stills, still, still_encS]) rfl s
    have hst : stills [encS nl (ints l), .fn (.func 159) [] [.ptr 8 0]] = false := by simp [stills, still, still_encS]
    simp +contextual only [go_sem, ↓reduceIte, r91, lenL_encS, ints_len, hb, z125 hst, frz_encS, hz, c116]
end Go.Am

set_option linter.all false
namespace Go.Am
open Go
variable [MaxLen]
set_option maxRecDepth 100000
set_option maxHeartbeats 8000000

def r23_l0 : RC := (.seq (.ops [⟨some 42, none, none, false, .bin .lss 3 false (.t 41) (.t 40)⟩]) (.seq (.cond (.t 42) .skip (.exit 0)) (.seq (.block 1 (.seq (.ops [⟨some 43, none, none, false, .mov (.t 41)⟩,
  ⟨some 44, none, none, false, .ixa 1 (.t 39) (.t 41)⟩,
  ⟨some 45, none, none, false, .ld1 (.t 44)⟩,
  ⟨some 13, none, none, false, .mov (.t 43)⟩,
  ⟨some 14, none, none, false, .mov (.t 45)⟩]) (.seq (.drw 18 [⟨some 47, none, none, false, .ldn 3 (.t 10)⟩,
  ⟨some 48, none, none, false, .mov (.t 11)⟩,
  ⟨some 49, none, none, false, .mov (.t 14)⟩,
  ⟨some 50, none, none, false, .mov (.t 2)⟩,
  ⟨some 51, none, none, false, .mov (.t 13)⟩,
  ⟨some 52, none, none, false, .bin .sub 3 true (.t 51) (.v (.int .i64 1))⟩,
  ⟨some 53, none, none, false, .raw (.call { callee := .builtin .max, args := #[(.const (.int .i64 0)), (.tmp 52)], argTypes := #[3, 3] })⟩,
  ⟨some 54, none, none, false, .ixa 1 (.t 50) (.t 53)⟩,
  ⟨some 55, none, none, false, .ld1 (.t 54)⟩,
  ⟨some 56, none, none, false, .mov (.t 13)⟩,
  ⟨some 57, none, none, false, .bin .eql 3 true (.t 56) (.v (.int .i64 0))⟩,
  ⟨some 58, none, none, false, .bld [(.int .i64 0), (.int .i64 0), (.bool false)] [(0, 1, (.t 49)), (1, 1, (.t 55)), (2, 1, (.t 57))]⟩,
  ⟨some 59, none, none, false, .call 93 [(.t 47), (.t 48), (.t 58)]⟩,
  ⟨some 46, none, none, false, .mov (.t 59)⟩,
  ⟨some 60, none, none, false, .ext (.t 46) 0⟩,
  ⟨some 61, none, none, false, .ext (.t 46) 1⟩,
  ⟨some 15, none, none, false, .mov (.t 60)⟩,
  ⟨some 16, none, none, false, .mov (.t 61)⟩]) (.seq (.ops [⟨some 62, none, none, false, .mov (.t 15)⟩,
  ⟨some 11, none, none, false, .mov (.t 62)⟩]) (.ops [⟨some 63, none, none, false, .mov (.t 12)⟩,
  ⟨some 64, none, none, false, .mov (.t 16)⟩,
  ⟨some 65, none, none, false, .app 4 1 1 (.t 63) (.t 64)⟩,
  ⟨some 12, none, none, false, .mov (.t 65)⟩]))))) (.ops [⟨some 66, none, none, false, .bin .add 3 true (.t 41) (.v (.int .i64 1))⟩,
  ⟨some 41, none, none, false, .mov (.t 66)⟩]))))
/-- strobe/trigger.Holds; results .tmp 6,.tmp 7 -/
def r23 : RC := (.seq (.ops [⟨some 4, none, none, false, .box 48 (.t 1)⟩,
  ⟨some 6, none, none, false, .mov (.v .nils)⟩,
  ⟨some 7, none, none, false, .mov (.v (.int .i64 0))⟩]) (.seq (.seq (.ops [⟨some 17, none, none, false, .mov (.t 0)⟩,
  ⟨some 18, none, none, false, .call 88 [(.t 17)]⟩,
  ⟨some 8, none, none, false, .mov (.t 18)⟩]) (.seq (.ops [⟨some 19, none, none, false, .mov (.t 8)⟩,
  ⟨some 20, none, none, false, .bin .neq 26 true (.t 19) (.v (.int .i64 0))⟩]) (.cond (.t 20) (.seq (.ops [⟨some 21, none, none, false, .mov (.t 8)⟩,
  ⟨some 6, none, none, false, .mov (.v .nils)⟩,
  ⟨some 7, none, none, false, .mov (.t 21)⟩]) .ret) .skip))) (.seq (.seq (.ops [⟨some 22, none, none, false, .mov (.t 0)⟩,
  ⟨some 23, none, none, false, .ldn 7 (.t 4)⟩,
  ⟨some 24, none, none, false, .call 90 [(.t 22), (.t 23), (.v (.int .i64 1))]⟩,
  ⟨some 25, none, none, false, .mov (.t 0)⟩,
  ⟨some 26, none, none, false, .mov (.t 2)⟩,
  ⟨some 27, none, none, false, .call 91 [(.t 25), (.t 26)]⟩,
  ⟨some 28, none, none, false, .bsl 26 1 2 [(.int .i64 0), (.int .i64 0)] [(0, 1, (.t 24)), (1, 1, (.t 27))]⟩,
  ⟨some 29, none, none, false, .call 89 [(.t 28)]⟩,
  ⟨some 9, none, none, false, .mov (.t 29)⟩]) (.seq (.ops [⟨some 30, none, none, false, .mov (.t 9)⟩,
  ⟨some 31, none, none, false, .bin .neq 26 true (.t 30) (.v (.int .i64 0))⟩]) (.cond (.t 31) (.seq (.ops [⟨some 32, none, none, false, .mov (.t 9)⟩,
  ⟨some 6, none, none, false, .mov (.v .nils)⟩,
  ⟨some 7, none, none, false, .mov (.t 32)⟩]) .ret) .skip))) (.seq (.ops [⟨some 34, none, none, false, .ldn 7 (.t 4)⟩,
  ⟨some 35, none, none, false, .bsl 48 7 1 [(.str []), (.int .i64 0), (.int .i64 0), (.int .i64 0), (.int .i64 0), (.str []), .nils] [(0, 7, (.t 34))]⟩,
  ⟨some 36, none, none, false, .call 92 [(.t 35)]⟩,
  ⟨some 33, none, none, false, .mov (.t 36)⟩,
  ⟨some 37, none, none, false, .ext (.t 33) 0⟩,
  ⟨some 38, none, none, false, .ext (.t 33) 1⟩,
  ⟨some 10, none, none, false, .al [.nils, .nils, .nils] 152⟩,
  ⟨none, none, none, false, .st 3 (.t 10) (.t 37)⟩,
  ⟨some 11, none, none, false, .mov (.t 38)⟩]) (.seq (.ops [⟨some 12, none, none, false, .mov (.v .nils)⟩]) (.seq (.seq (.ops [⟨some 39, none, none, false, .mov (.t 2)⟩,
  ⟨some 40, none, none, false, .lenL (.t 39)⟩,
  ⟨some 41, none, none, false, .mov (.v (.int .i64 0))⟩]) (.block 0 (.loop r23_l0))) (.seq (.ops [⟨some 67, none, none, false, .mov (.t 12)⟩,
  ⟨some 6, none, none, false, .mov (.t 67)⟩,
  ⟨some 7, none, none, false, .mov (.v (.int .i64 0))⟩]) .ret)))))))
theorem k23 : fnRC 23 = some ([.tmp 6, .tmp 7], r23) := by kernel_rfl

/-- strobe/strobelaw04.TriggerHolds; results .tmp 6 -/
def r4 : RC := (.seq (.ops [⟨some 4, none, none, false, .box 39 (.t 1)⟩,
  ⟨some 6, none, none, false, .mov (.v (.bool false))⟩]) (.seq (.seq (.ops [⟨some 10, none, none, false, .call 16 []⟩,
  ⟨some 11, none, none, false, .un .not (.t 10)⟩,
  ⟨some 12, none, none, false, .mov (.t 11)⟩,
  ⟨some 13, some (12, false), none, false, .ldn 7 (.t 4)⟩,
  ⟨some 14, some (12, false), none, false, .call 21 [(.t 13), (.v (.int .i64 12))]⟩,
  ⟨some 15, some (12, false), none, false, .un .not (.t 14)⟩,
  ⟨some 16, none, none, false, .pick (.t 12) (.v (.bool true)) (.t 15)⟩,
  ⟨some 17, none, none, false, .mov (.t 16)⟩,
  ⟨some 18, some (17, false), none, false, .mov (.t 2)⟩,
  ⟨some 19, some (17, false), none, false, .call 22 [(.t 18), (.v (.int .i64 60))]⟩,
  ⟨some 20, some (17, false), none, false, .un .not (.t 19)⟩,
  ⟨some 21, none, none, false, .pick (.t 17) (.v (.bool true)) (.t 20)⟩]) (.cond (.t 21) (.seq (.ops [⟨some 22, none, none, false, .call 16 []⟩,
  ⟨some 6, none, none, false, .mov (.t 22)⟩]) .ret) .skip)) (.seq (.ops [⟨some 24, none, none, false, .mov (.t 0)⟩,
  ⟨some 25, none, none, false, .ldn 7 (.t 4)⟩,
  ⟨some 26, none, none, false, .call 24 [(.t 25)]⟩,
  ⟨some 27, none, none, false, .mov (.t 2)⟩,
  ⟨some 28, none, none, false, .call 23 [(.t 24), (.t 26), (.t 27)]⟩,
  ⟨some 23, none, none, false, .mov (.t 28)⟩,
  ⟨some 29, none, none, false, .ext (.t 23) 0⟩,
  ⟨some 30, none, none, false, .ext (.t 23) 1⟩,
  ⟨some 7, none, none, false, .mov (.t 29)⟩,
  ⟨some 8, none, none, false, .mov (.t 30)⟩]) (.seq (.drw 8 [⟨some 31, none, none, false, .mov (.t 0)⟩,
  ⟨some 32, none, none, false, .call 26 [(.t 31)]⟩,
  ⟨some 33, none, none, false, .mov (.t 0)⟩,
  ⟨some 34, none, none, false, .ldn 7 (.t 4)⟩,
  ⟨some 35, none, none, false, .call 27 [(.t 33), (.t 34), (.v (.int .i64 1))]⟩,
  ⟨some 36, none, some 5, false, .bsl 3 1 2 [(.int .i64 0), (.int .i64 0)] [(0, 1, (.t 32)), (1, 1, (.t 35))]⟩,
  ⟨some 37, none, none, false, .call 25 [(.t 36)]⟩,
  ⟨some 9, none, none, false, .mov (.t 37)⟩]) (.seq (.seq (.ops [⟨some 38, none, none, false, .mov (.t 9)⟩,
  ⟨some 39, none, none, false, .bin .eql 3 true (.t 38) (.v (.int .i64 0))⟩]) (.cond (.t 39) (.ops [⟨some 40, none, none, false, .mov (.t 0)⟩,
  ⟨some 41, none, none, false, .mov (.t 2)⟩,
  ⟨some 42, none, none, false, .call 28 [(.t 40), (.t 41)]⟩,
  ⟨some 9, none, none, false, .mov (.t 42)⟩]) .skip)) (.seq (.seq (.ops [⟨some 43, none, none, false, .mov (.t 9)⟩,
  ⟨some 44, none, none, false, .bin .neq 3 true (.t 43) (.v (.int .i64 0))⟩]) (.cond (.t 44) (.seq (.ops [⟨some 45, none, none, false, .mov (.t 7)⟩,
  ⟨some 46, none, none, false, .lenL (.t 45)⟩,
  ⟨some 47, none, none, false, .bin .eql 3 true (.t 46) (.v (.int .i64 0))⟩,
  ⟨some 48, none, none, false, .mov (.t 47)⟩,
  ⟨some 49, some (48, true), none, false, .mov (.t 8)⟩,
  ⟨some 50, some (48, true), none, false, .mov (.t 9)⟩,
  ⟨some 51, some (48, true), none, false, .bin .eql 3 false (.t 49) (.t 50)⟩,
  ⟨some 52, none, none, false, .pick (.t 48) (.t 51) (.v (.bool false))⟩,
  ⟨some 6, none, none, false, .mov (.t 52)⟩]) .ret) .skip)) (.seq (.ops [⟨some 53, none, none, false, .mov (.t 8)⟩,
  ⟨some 54, none, none, false, .bin .eql 26 true (.t 53) (.v (.int .i64 0))⟩,
  ⟨some 55, none, none, false, .mov (.t 54)⟩,
  ⟨some 56, some (55, true), none, false, .mov (.t 7)⟩,
  ⟨some 57, some (55, true), none, false, .ldn 7 (.t 4)⟩,
  ⟨some 58, some (55, true), none, false, .mov (.t 2)⟩,
  ⟨some 59, some (55, true), none, false, .call 30 [(.t 57), (.t 58)]⟩,
  ⟨some 60, some (55, true), none, false, .call 29 [(.t 56), (.t 59)]⟩,
  ⟨some 61, none, none, false, .pick (.t 55) (.t 60) (.v (.bool false))⟩,
  ⟨some 6, none, none, false, .mov (.t 61)⟩]) .ret)))))))
theorem k4 : fnRC 4 = some ([.tmp 6], r4) := by kernel_rfl


end Go.Am

set_option linter.all false
namespace Go.Am
open Go
variable [MaxLen]
set_option maxRecDepth 100000
set_option maxHeartbeats 4000000

/-! # The program's Holds -/

/-- what the machine tells, sample after sample -/
def runH (l : List Int) (c : Cond) : Nat → Nat → List Int → List Bool
  | 0, _, _ => []
  | n + 1, i, sts => jd c (holdL (atI l (i : Int)) (befI l (i : Int)) ((i : Int) == 0) (lvs c) sts) :: runH l c n (i + 1) (nextL (atI l (i : Int)) (befI l (i : Int)) ((i : Int) == 0) (lvs c) sts)
def holdsP (l : List Int) (c : Cond) : List Bool := runH l c l.length 0 ((lvs c).map startI)

theorem frz_stepV (s : St) (d : Nat) (c : Cond) : frz U s (d + 3) (stepV c) = some (stepV c) := by
  unfold stepV
  cases kdOf c.kind <;> rfl
theorem frz_steps (s : St) (d : Nat) (l : List Cond) : mapO (frz U s (d + 3)) (l.map stepV) = some (l.map stepV) := mapO_self fun x hx => by
  obtain ⟨c, _, rfl⟩ := List.mem_map.1 hx
  exact frz_stepV s d c
theorem z93 {args : List AV} {s : St} (h : stills args = false) : callK U (calV U 93 args) 93 args s = calZ U 93 (mapO (frz U s 40) args) s := z_of (by kernel_rfl) s h
theorem k92' (args : List AV) (s : St) : callK U (calV U 92 args) 92 args s = cal U 92 args s := (callK_eq U 92 args s).symm
theorem ag_234 : isAggT U 234 = some false := by kernel_rfl
theorem sz_234 : size U 234 = some 1 := by kernel_rfl

/-- states stay small -/
theorem stP_ok {c : Cond} (hc : c.stp) {st now last : Int} {first : Bool} (hs : 0 ≤ st ∧ st ≤ 256) (d : Kd) : 0 ≤ (stP d c st now last first).1 ∧ (stP d c st now last first).1 ≤ 256 := by
  have h1 := hc.mi
  have h2 := hc.ma
  cases d <;> simp only [stP, runP, idleP, setupP, runtP]
  case pulse => cases !(hiI now c.a == true) <;> cases first <;> cases !(hiI last c.a == true) <;> simp only [cond_true, cond_false] <;> omega
  case gap => cases !(hiI now c.a == false) <;> cases first <;> cases !(hiI last c.a == false) <;> simp only [cond_true, cond_false] <;> omega
  case idle => cases (first || hiI now c.a != hiI last c.a) <;> simp only [cond_true, cond_false] <;> omega
  case setup => cases (hiI now c.a != hiI last c.a) <;> simp only [cond_true, cond_false] <;> omega
  case runt => cases !hiI now c.a <;> cases (!first && !hiI now c.b && (!hiI last c.a || st == 2)) <;> simp only [cond_true, cond_false] <;> omega
  all_goals exact hs
theorem nextL_ok {now last : Int} {first : Bool} : ∀ {l : List Cond} {sts : List Int}, (∀ c ∈ l, c.stp) → (∀ x ∈ sts, 0 ≤ x ∧ x ≤ 256) → ∀ x ∈ nextL now last first l sts, 0 ≤ x ∧ x ≤ 256
  | [], _, _, _, x, hx => by simp [nextL] at hx
  | _ :: _, [], _, _, x, hx => by simp [nextL] at hx
  | c :: l, st :: sts, h1, h2, x, hx => by
    rw [nextL] at hx
    rcases List.mem_cons.1 hx with rfl | hx
    · exact stP_ok (h1 c (List.mem_cons_self ..)) (h2 st (List.mem_cons_self ..)) _
    · exact nextL_ok (fun c hc => h1 c (List.mem_cons_of_mem _ hc)) (fun y hy => h2 y (List.mem_cons_of_mem _ hy)) x hx
theorem startI_ok {c : Cond} (hc : c.stp) : 0 ≤ startI c ∧ startI c ≤ 256 := by
  have := hc.mi
  unfold startI
  cases kdOf c.kind <;> simp only <;> omega
end Go.Am

set_option linter.all false
namespace Go.Am
open Go
variable [MaxLen]
set_option maxRecDepth 100000
set_option maxHeartbeats 4000000

theorem l23 (nl : Bool) (l : List Int) (hl : okSig l) (c : Cond) (hc : c.wf) (hL : (lvs c).length ≤ 2 ^ 20) {ks : List K} (sm : St) (m cb : Nat) (hmn : sm.next = m + 1) (lv sv : AV)
    (hm : ∀ s', (∀ j, j ≤ m → s'.get j = sm.get j) → m < s'.next → frz U s' 40 (.agg [.sl cb 0 1 (some 1) 7, lv, sv]) = some (.agg [.fz ([c].map encC), .fz ((lvsL [c]).map encC), .fz ((lvsL [c]).map stepV)]))
    (gm : sm.get m = some (.cells [.sl cb 0 1 (some 1) 7, lv, sv] 152 false 0 0)) (frm : Fr sm) {r : Option AV}
    (hk : ∀ e s v, Env.get e 12 = v → RowI s (m + 1) 4 1 (holdsP l c).length (bools (holdsP l c)) v → goN U (finP U [.tmp 6, .tmp 7]) ks e s = r) {e : Env} {stv : AV}
    (hst0 : ∀ s', (∀ j, j ≤ m → s'.get j = sm.get j) → m < s'.next → frz U s' 40 stv = some (.fz (ints ((lvs c).map startI))))
    (g2 : Env.get e 2 = encS nl (ints l)) (g10 : Env.get e 10 = .ptr m 0) (g11 : Env.get e 11 = stv) (g12 : Env.get e 12 = .nils) (g39 : Env.get e 39 = encS nl (ints l)) (g40 : Env.get e 40 = .int .i64 l.length) (g41 : Env.get e 41 = .int .i64 (0 : Nat)) :
    goL U (finP U [.tmp 6, .tmp 7]) (.bk 0 :: ks) r23_l0 e sm = r := by
  have hlen := hl.1
  have hLe : lvsL [c] = lvs c := by simp [lvsL]
  have hlw := lvs_leaf c hc
  refine loop_ex (σ := Nat) (Post := fun (x : Option AV) => x = r) (fun i => l.length - i) (fun i e s => i ≤ l.length ∧ Env.get e 2 = encS nl (ints l) ∧ Env.get e 10 = .ptr m 0 ∧ Env.get e 39 = encS nl (ints l) ∧ Env.get e 40 = .int .i64 l.length ∧ Env.get e 41 = .int .i64 (i : Nat) ∧
    Fr s ∧ m < s.next ∧ (∀ j, j ≤ m → s.get j = sm.get j) ∧
    ∃ stv sts ov acc, Env.get e 11 = stv ∧ Env.get e 12 = ov ∧ (∀ s', (∀ j, j ≤ m → s'.get j = sm.get j) → m < s'.next → frz U s' 40 stv = some (.fz (ints sts))) ∧ sts.length = (lvs c).length ∧ (∀ x ∈ sts, 0 ≤ x ∧ x ≤ 256) ∧
      RowI s (m + 1) 4 1 i (bools acc) ov ∧ acc.length = i ∧ acc ++ runH l c (l.length - i) i sts = holdsP l c) 0 ?_
    ⟨Nat.zero_le _, g2, g10, g39, g40, g41, frm, by omega, fun _ _ => rfl, stv, _, .nils, [], g11, g12, hst0, by simp, fun x hx => by
      obtain ⟨y, hy, rfl⟩ := List.mem_map.1 hx
      exact startI_ok (hlw y hy).1.stp, RowI.nil _ _ _ _, rfl, rfl⟩
  clear g2 g10 g11 g12 g39 g40 g41 hst0 e stv
  rintro Lp i e s ⟨hi, g2, g10, g39, g40, g41, fr, nx, old, stv, sts, ov, acc, g11, g12, hst, hsl, hsb, hv, hacc, hrun⟩ IH
  by_cases hd : i < l.length
  · have hw := wrap_succ hd (by omega)
    have hw' : IntKind.i64.wrap ((i : Int) - 1) = (i : Int) - 1 := by rw [wrap_i64] <;> omega
    have hmx : max 0 ((i : Int) - 1) = ((i - 1 : Nat) : Int) := by omega
    have hx1 := ixa_sigN (nl := nl) hd
    have hx2 := ixa_sigN (nl := nl) (l := l) (t := i - 1) (by omega)
    rw [← hmx] at hx2
    have hbf : atI l (max 0 ((i : Int) - 1)) = befI l (i : Int) := rfl
    rw [hbf] at hx2
    have gms : s.get m = some (.cells [.sl cb 0 1 (some 1) 7, lv, sv] 152 false 0 0) := by rw [old m (Nat.le_refl _), gm]
    have hgood : ∀ j, j ≤ m → (s.upto (s.next + 18)).get j = sm.get j := fun j hj => by rw [upto_get, old j hj]
    have hnx : m < (s.upto (s.next + 18)).next := by rw [upto_next]; omega
    have hcall : callK U (calV U 93 [.agg [.sl cb 0 1 (some 1) 7, lv, sv], stv, .agg [.int .i64 (atI l (i : Int)), .int .i64 (befI l (i : Int)), .bool ((i : Int) == 0)]]) 93 [.agg [.sl cb 0 1 (some 1) 7, lv, sv], stv, .agg [.int .i64 (atI l (i : Int)), .int .i64 (befI l (i : Int)), .bool ((i : Int) == 0)]] (s.upto (s.next + 18)) =
        some (.tup [.fz (ints (nextL (atI l (i : Int)) (befI l (i : Int)) ((i : Int) == 0) (lvs c) sts)), .fz [.bool (jd c (holdL (atI l (i : Int)) (befI l (i : Int)) ((i : Int) == 0) (lvs c) sts))]], s.upto (s.next + 18)) := by
      rw [z93 (by simp [stills, still])]
      have e1 := hm _ hgood hnx
      have e2 := hst _ hgood hnx
      have e3 : mapO (frz U (s.upto (s.next + 18)) 40) [.agg [.sl cb 0 1 (some 1) 7, lv, sv], stv, .agg [.int .i64 (atI l (i : Int)), .int .i64 (befI l (i : Int)), .bool ((i : Int) == 0)]] =
          some [.agg [.fz ([c].map encC), .fz ((lvsL [c]).map encC), .fz ((lvsL [c]).map stepV)], .fz (ints sts), .agg [.int .i64 (atI l (i : Int)), .int .i64 (befI l (i : Int)), .bool ((i : Int) == 0)]] := by
        rw [mapO_cons, e1, mapO_cons, e2, mapO_cons, mapO_nil, frz_agg]
        rfl
      rw [e3]
      have hz := cz93 [c] sts (atI l (i : Int)) (befI l (i : Int)) ((i : Int) == 0) (fun x hx => by rw [List.mem_singleton.1 hx]; exact hc) (by simp) hsb (by rw [hLe, hsl]) (by rw [hLe]; exact hL) (atI_ok hl _) (atI_ok hl _) (s.upto (s.next + 18))
      rw [encSm] at hz
      rw [hz, hLe]
      rfl
    have hla := hv.lenA
    have hna := hv.noAgg
    have hsrc : ∀ (b : Bool) (s : St), sourceA 1 (.fz [.bool b]) s = some (1, [.bool b]) := fun _ _ => rfl
    have hb1 : (i + 1) * 1 ≤ 1099511627776 := by omega
    have hb2 : i + 1 ≤ 1099511627776 := by omega
    rw [show l.length - i = (l.length - (i + 1)) + 1 by omega, runH] at hrun
    generalize jd c (holdL (atI l (i : Int)) (befI l (i : Int)) ((i : Int) == 0) (lvs c) sts) = jv at *
    simp (config := { maxSteps := 2000000 }) +contextual only [go_sem, ↓reduceIte, r23_l0, g2, g10, g11, g12, g39, g40, g41, nat_lt_dec, hd, hx1, hx2, hw', gms, maxOp_1 52 ((i : Int) - 1), hcall, appK_some, Nat.reducePow, Nat.one_mul, hla, hna, hb1, hb2, hsrc]
    have hv0 : RowI (s.upto (s.next + 18)) (m + 1) 4 1 i (bools acc) ov := hv.mono (by rw [upto_next]; omega) fun j _ _ => upto_get _ _ _
    obtain ⟨s1, f1, f2, f3, f4, f5⟩ := hv0.app2 (by rw [upto_next]; omega) (m := 1) (new := [.bool jv]) (by omega) rfl rfl
    rw [upto_next] at f1 f2 f3 f4
    rw [f1]
    simp (config := { maxSteps := 2000000 }) +contextual only [go_sem, ↓reduceIte, g41, hw]
    refine IH (i + 1) _ _ (by omega) ⟨by omega, ?_, ?_, ?_, ?_, ?_, f5 (fr.upto (by omega)), by rw [f2]; omega, fun j hj => by rw [f4 j (by omega) (hv0.far (.inr (by omega))), upto_get, old j hj], .fz (ints (nextL (atI l (i : Int)) (befI l (i : Int)) ((i : Int) == 0) (lvs c) sts)), _, .sl (s.next + 18) 0 (i + 1) none 1, acc ++ [jv], ?_, ?_, fun s' _ _ => rfl, nextL_len _ _ _ _ _ hsl, nextL_ok (fun x hx => (hlw x hx).1.stp) hsb, ?_, by rw [List.length_append, hacc]; rfl, by rw [List.append_assoc]; exact hrun⟩
    case refine_8 => rw [bools, List.map_append]; exact f3
    all_goals simp +contextual only [go_sem, ↓reduceIte, g2, g10, g39, g40, hw]
  · have : i = l.length := by omega
    subst this
    rw [Nat.sub_self, runH, List.append_nil] at hrun
    subst hrun
    simp +contextual only [go_sem, ↓reduceIte, r23_l0, g40, g41, nat_lt_dec, Nat.lt_irrefl]
    refine hk _ _ ov ?_ (by rw [hacc]; exact hv)
    simp +contextual only [go_sem, ↓reduceIte, g12]
end Go.Am

set_option linter.all false
namespace Go.Am
open Go
variable [MaxLen]
set_option maxRecDepth 100000
set_option maxHeartbeats 4000000

theorem encS_nonempty {A : Type} {f : A → AV} {l : List A} (h : l ≠ []) : encS true (l.map f) = .fz (l.map f) := by
  cases l with
  | nil => exact absurd rfl h
  | cons x l => rfl
theorem frz_cv {s : St} {b d : Nat} {c : Cond} {cap : Option Nat} (hg : s.get b = some (.cells c.cells 48 false 0 0)) : frz U s (d + 4) (.sl b 0 1 cap 7) = some (.fz [encC c]) := by
  simp only [Cond.cells] at hg
  rw [encC_cells]
  simp only [Cond.cells]
  simp (config := { maxSteps := 200000 }) +contextual only [go_sem, ↓reduceIte, hg, frz_encS]
def hldP (lines : Int) (c : Cond) (l : List Int) : AV :=
  bif within lines 1 16 != 0 then .tup [.nils, .int .i64 (within lines 1 16)] else
  bif firstOf [ckP lines c 1, ckSig lines l] != 0 then .tup [.nils, .int .i64 (firstOf [ckP lines c 1, ckSig lines l])] else .tup [encS true (bools (holdsP l c)), .int .i64 0]
theorem first2_zero {a b : Int} (h : (firstOf [a, b] != 0) = false) : a = 0 ∧ b = 0 := by
  have h : firstOf [a, b] = 0 := by simpa using h
  simp only [firstOf] at h
  cases ha : a != 0 with
  | true => rw [ha] at h; have h : a = 0 := h; rw [h] at ha; cases ha
  | false =>
    rw [ha] at h
    have h : br (b != 0) b 0 = 0 := h
    cases hb : b != 0 with
    | true => rw [hb] at h; have h : b = 0 := h; rw [h] at hb; cases hb
    | false => exact ⟨by simpa using ha, by simpa using hb⟩
theorem okSig_of {lines : Int} {l : List Int} (h1 : lines ≤ 16) (h : ckSig lines l = 0) : okSig l := by
  unfold ckSig at h
  obtain ⟨q1, h⟩ := br_zeroH h (by decide)
  have q2 : anyOut lines l = false := by
    cases hb : anyOut lines l with
    | false => rfl
    | true => rw [hb] at h; exact absurd h (by decide)
  have hp := pow_le16 lines h1
  refine ⟨by simp at q1; omega, fun x hx => ?_⟩
  have := outside_ok (by simpa using List.any_eq_false.1 q2 x hx : outside x 0 (2 ^ lines.toNat - 1) = false)
  omega
theorem c23 (lines : Int) (c : Cond) (hf : c.fits) (hL : (lvs c).length ≤ 2 ^ 20) (nl : Bool) (l : List Int) : calV U 23 [.int .i64 lines, encC c, encS nl (ints l)] = some (hldP lines c l) := by
  refine pure_go k23 (by kernel_rfl) (by simp [stills, still_encC, still_encS, still]) ?_
  unfold hldP
  cases hw : within lines 1 16 != 0 with
  | true =>
    rw [encC_cells]
    simp only [Cond.cells]
    simp (config := { maxSteps := 2000000 }) +contextual only [go_sem, ↓reduceIte, r23, c88, hw, noAgg_encS, cells_encS]
  | false =>
    have hw0 : within lines 1 16 = 0 := by simpa using hw
    have hl2 : 1 ≤ lines ∧ lines ≤ 16 := by
      unfold within at hw0
      cases hb : (decide (lines < 1) || decide (lines > 16)) with
      | true => rw [hb] at hw0; exact absurd hw0 (by decide)
      | false => simp only [Bool.or_eq_false_iff, decide_eq_false_iff_not] at hb; omega
    have hz : stills [.sl 9 0 2 (some 2) 1] = false := rfl
    have c90' := c90 lines c hf 1
    have c91' := c91 nl l lines hl2.1 hl2.2
    rw [encC_cells] at c90' ⊢
    simp only [Cond.cells] at c90' ⊢
    cases hw1 : firstOf [ckP lines c 1, ckSig lines l] != 0 with
    | true =>
      simp (config := { maxSteps := 2000000 }) +contextual only [go_sem, ↓reduceIte, r23, c88, hw, hw0, noAgg_encS, cells_encS, c90', c91', z89 hz, cz89_2, hw1]
    | false =>
      simp (config := { maxSteps := 2000000 }) +contextual only [go_sem, ↓reduceIte, r23, c88, hw, hw0, noAgg_encS, cells_encS, c90', c91', z89 hz, cz89_2, hw1, k92']
      obtain ⟨q1, q2⟩ := first2_zero hw1
      have hc : c.wf := wf_of_ck hl2.1 hl2.2 c 1 (by rw [← ck_eq lines hl2.1 hl2.2]; exact q1)
      have hsig := okSig_of hl2.2 q2
      have hLe : lvsL [c] = lvs c := by simp [lvsL]
      have hne := lvs_ne c hc
      generalize hX : Blk.cells [.str c.kind, .int .i64 c.a, .int .i64 c.b, .int .i64 c.mi, .int .i64 c.ma, .str c.pat, encS c.nl (encL c.kids)] 48 false 0 0 = X
      generalize hY : Blk.cells [.int .i64 (ckP lines c 1), .int .i64 (ckSig lines l)] 26 false 0 0 = Y
      have hg10 : ((((ownSt U).new X).new Y).new X).get 10 = some X := by
        simp +contextual only [go_sem, ↓reduceIte]
      have hnx0 : ((((ownSt U).new X).new Y).new X).next = 11 := by
        simp +contextual only [go_sem, ↓reduceIte]
      have hcr : CRow ((((ownSt U).new X).new Y).new X) (.sl 10 0 1 (some 1) 7) [c] := by
        refine ⟨rfl, fun i h => ?_, rfl, rfl⟩
        have : i = 0 := by simp at h; omega
        subst this
        refine ⟨.ptr 10 0, rfl, fun s' hs' => ?_⟩
        have hg := hs' 10 (by rw [hnx0]; omega)
        rw [hg10, ← hX] at hg
        rw [List.getElem_cons_zero, encC_cells]
        simp only [Cond.cells]
        simp +contextual only [go_sem, ↓reduceIte, hg]
      obtain ⟨s', lv, sv, st, e1, e2, e3, e4, R1, R2, R3⟩ := c92 ((((ownSt U).new X).new Y).new X) (.sl 10 0 1 (some 1) 7) [c] (fun x hx => by rw [List.mem_singleton.1 hx]; exact hc) (by simp) (by rw [hLe]; exact hL) hcr (((Fr.own.new _).new _).new _)
      rw [hnx0] at e3 e4 R1 R2 R3
      rw [e1]
      have na1 := R1.noAgg
      have na2 := R2.noAgg
      have hc10 := (e4 10 (by omega)).trans hg10
      simp (config := { maxSteps := 2000000 }) +contextual only [go_sem, ↓reduceIte, na1, na2, lenL_encS, ints_len]
      have hsm : ∀ (z1 z2 : Blk) j, j < s'.next → ((s'.new z1).put s'.next z2).get j = s'.get j := fun z1 z2 j hj => by rw [get_put, if_neg (by omega), get_new, if_neg (by omega)]
      refine l23 nl l hsig c hc hL _ s'.next 10 ?hmn lv sv ?hm ?gm ?frm ?hk (stv := st) ?hst0 ?_ ?_ ?_ ?_ ?_ ?_ ?_
      case hmn => rw [next_put, next_new]
      case gm => rw [get_put, if_pos rfl]
      case frm => exact (e2.new _).put (by rw [next_new]; omega) _
      case hm =>
        intro s2 hs2 hn2
        have K : ∀ {t : TypeId} {n k : Nat} {cs : List AV} {w : AV}, RowI s' 13 t n k cs w → RowI s2 13 t n k cs w := fun h => h.mono (by omega) fun j _ hj => by rw [hs2 j (by omega), hsm _ _ _ hj]
        have g10 : s2.get 10 = some (.cells c.cells 48 false 0 0) := by rw [hs2 10 (by omega), hsm _ _ _ (by omega), hc10, ← hX]; rfl
        have f1 := frz_cv (d := 35) (cap := some 1) g10
        have f2 := (K R1).frz_agg U ag_48 sz_48 (by omega) encC_agg (d := 38) (fun a => frz_encC _ _ _)
        have f3 := (K R2)
        have f3 : RowI s2 13 234 1 ((lvsL [c]).map stepV).length ((lvsL [c]).map stepV) sv := by rw [List.length_map]; exact f3
        have f3 := f3.frz_one U ag_234 sz_234 (by rw [List.all_eq_true]; intro x hx; obtain ⟨y, _, rfl⟩ := List.mem_map.1 hx; exact stepV_plain y) (d := 38) (frz_steps s2 35 _)
        rw [frz_agg, mapO_cons, f1, mapO_cons, f2, mapO_cons, f3, mapO_nil, hLe, encS_nonempty hne, encS_nonempty hne]
        rfl
      case hk =>
        intro e s v h12 hv
        have hfz := hv.frz_bools 37
        simp (config := { maxSteps := 2000000 }) +contextual only [go_sem, ↓reduceIte, h12, hfz]
      case hst0 =>
        intro s2 hs2 hn2
        have K : RowI s2 13 3 1 ((lvsL [c]).map startI).length (ints ((lvsL [c]).map startI)) st := by
          rw [List.length_map]
          exact R3.mono (by omega) fun j _ hj => by rw [hs2 j (by omega), hsm _ _ _ hj]
        have f := K.frz_ints 38
        rw [f, hLe, ints, encS_nonempty (by simpa using hne)]
      all_goals simp +contextual only [go_sem, ↓reduceIte, lenL_encS, ints_len]
      all_goals rfl
end Go.Am

set_option linter.all false
namespace Go.Am
open Go
variable [MaxLen]

/-! # The plain law of TriggerHolds: the judgement of a condition -/

theorem jdL_eq (f : Cond → Bool) : ∀ (kids : List Cond), (∀ x ∈ kids, ∀ rest, jd x ((lvs x).map f ++ rest) = f x) → ∀ (rest : List Bool) (s a : Bool), jdL kids ((lvsL kids).map f ++ rest) s a = (s || kids.any f, a && kids.all f)
  | [], _, rest, s, a => by simp [jdL]
  | c :: l, h, rest, s, a => by
    have h1 := h c (List.mem_cons_self ..) ((lvsL l).map f ++ rest)
    have e : (lvsL (c :: l)).map f ++ rest = (lvs c).map f ++ ((lvsL l).map f ++ rest) := by rw [lvsL, List.map_append, List.append_assoc]
    have hd : ((lvs c).map f ++ ((lvsL l).map f ++ rest)).drop (lvs c).length = (lvsL l).map f ++ rest := by
      rw [← List.length_map (f := f), List.drop_left]
    rw [e, jdL, h1, hd, jdL_eq f l (fun x hx => h x (List.mem_cons_of_mem _ hx)), List.any_cons, List.all_cons, Bool.or_assoc, Bool.and_assoc]
theorem atRL_any (l : List Int) (t : Nat) : ∀ kids : List Cond, decide (((atRL l t kids : Nat) : Int) > 0) = kids.any (atR l t)
  | [] => by simp [atRL]
  | c :: k => by
    have ih := atRL_any l t k
    rw [atRL, List.any_cons, ← ih]
    cases atR l t c with
    | true => simp; omega
    | false => simp
theorem atRL_le (l : List Int) (t : Nat) : ∀ kids : List Cond, atRL l t kids ≤ kids.length
  | [] => by simp [atRL]
  | c :: k => by
    have ih := atRL_le l t k
    rw [atRL, List.length_cons]
    cases atR l t c <;> simp <;> omega
theorem atRL_all (l : List Int) (t : Nat) : ∀ kids : List Cond, (((atRL l t kids : Nat) : Int) == ((kids.length : Nat) : Int)) = kids.all (atR l t)
  | [] => by simp [atRL]
  | c :: k => by
    have ih := atRL_all l t k
    have hle := atRL_le l t k
    rw [atRL, List.all_cons, ← ih, List.length_cons]
    cases atR l t c with
    | true =>
      simp only [cond_true, Bool.true_and]
      rw [Bool.eq_iff_iff]; simp; omega
    | false =>
      simp only [cond_false, Bool.false_and, Nat.zero_add]
      simp; omega
theorem jd_eq (l : List Int) (t : Nat) : ∀ c : Cond, c.wf → ∀ rest, jd c ((lvs c).map (atR l t) ++ rest) = atR l t c := by
  intro c
  induction c using Cond.ind with
  | h k a b mi ma p nl kids ih =>
  intro h rest
  have hcm := wf_comp h
  have h' := h
  rw [Cond.wf] at h'
  obtain ⟨-, -, -, -, -, -, hkn, hnot, -, hne, -, -, hk⟩ := h'
  have hlf := isComp_kd k hkn
  rw [jd, lvs]
  cases hc : isComp k with
  | false =>
    simp only [cond_false, List.map_cons, List.map_nil, List.cons_append, List.headD_cons]
  | true =>
    have hL := jdL_eq (atR l t) kids (fun x hx => ih x hx (hk x hx)) rest false true
    simp only [cond_true]
    rw [hL, atR]
    rw [hc] at hlf hcm

    generalize kdOf k = d at *
    cases d <;> first | (simp [Kd.leaf] at hlf; done) | (simp [Kd.known] at hkn; done) | skip
    · obtain ⟨x, rfl⟩ := List.length_eq_one_iff.1 (hnot rfl)
      simp [atR1]
    · simp only [reduceCtorEq, decide_false, Bool.false_and, Bool.or_false, Bool.true_and]
      rw [atRL_all]
    · simp only [decide_true, Bool.true_and, Bool.false_or]
      rw [atRL_all, atRL_any]
      cases hall : kids.all (atR l t) with
      | false => simp
      | true =>
        cases kids with
        | nil => exact absurd rfl (hne rfl)
        | cons x y =>
          rw [List.all_cons, Bool.and_eq_true] at hall
          rw [List.any_cons, hall.1]; rfl
end Go.Am

set_option linter.all false
namespace Go.Am
open Go
variable [MaxLen]

/-! # The plain law of TriggerHolds: the states -/

theorem bef_succ (l : List Int) (t : Nat) : befI l ((t + 1 : Nat) : Int) = atI l (t : Int) := by
  unfold befI; congr 1; omega
theorem bef_zero (l : List Int) : befI l ((0 : Nat) : Int) = atI l ((0 : Nat) : Int) := by
  unfold befI; congr 1
theorem hi_lv (n k : Int) : (hiI n k == true) = (bitI n k == 1) ∧ (hiI n k == false) = (bitI n k == 0) := by
  unfold hiI
  rcases bitI_le n k with h | h <;> rw [h] <;> decide
/-- the state of a pulse or a gap behind a sample -/
def invP (l : List Int) (a lev ma : Int) (t : Nat) : Int :=
  bif bitI (atI l (t : Int)) a == lev then (if runN l a t = 0 then ma + 1 else min ((t : Int) + 1 - (runN l a t : Nat)) (ma + 1)) else 0
def levOf (lv : Bool) : Int := bif lv then 1 else 0
theorem hi_lev (lv : Bool) (n k : Int) : (hiI n k == lv) = (bitI n k == levOf lv) := by
  cases lv
  · exact (hi_lv n k).2
  · exact (hi_lv n k).1
theorem run_succ (l : List Int) (a : Int) (t : Nat) : runN l a (t + 1) = if bitI (atI l (t : Int)) a = bitI (atI l ((t + 1 : Nat) : Int)) a then runN l a t else t + 1 := by
  rw [runN]
  by_cases h : bitI (atI l (t : Int)) a = bitI (atI l ((t + 1 : Nat) : Int)) a
  · rw [if_pos h, h]; simp
  · rw [if_neg h]
    have : (bitI (atI l (t : Int)) a == bitI (atI l ((t + 1 : Nat) : Int)) a) = false := by simpa using h
    rw [this]; rfl
theorem pulse0 (l : List Int) (lv : Bool) (c : Cond) (hM : 0 ≤ c.ma) (st : Int) : runP lv c st (hiI (atI l ((0 : Nat) : Int)) c.a) (hiI (befI l ((0 : Nat) : Int)) c.a) true = (invP l c.a (levOf lv) c.ma 0, false) := by
  rw [bef_zero]
  unfold runP invP
  rw [hi_lev]
  cases bitI (atI l ((0 : Nat) : Int)) c.a == levOf lv with
  | true => simp [runN]
  | false => simp
theorem pulse1 (l : List Int) (lv : Bool) (c : Cond) (hM : 0 ≤ c.ma) (t : Nat) : runP lv c (invP l c.a (levOf lv) c.ma t) (hiI (atI l ((t + 1 : Nat) : Int)) c.a) (hiI (befI l ((t + 1 : Nat) : Int)) c.a) false =
    (invP l c.a (levOf lv) c.ma (t + 1), endIs l c.a (levOf lv) (t + 1) && !outside (((t + 1 : Nat) : Int) - (endFrom l c.a (levOf lv) (t + 1) : Nat)) c.mi c.ma) := by
  rw [bef_succ]
  unfold runP
  rw [hi_lev, hi_lev]
  have hr := runN_le l c.a t
  have hz : (((t + 1 : Nat) : Int) == 0) = false := by simp; omega
  unfold endIs endFrom noEnd invP
  rw [hz, Nat.add_sub_cancel, Bool.false_or]
  have hne : ∀ x y : Int, (x != y) = !(x == y) := fun _ _ => rfl
  rw [hne]
  by_cases hn : bitI (atI l ((t + 1 : Nat) : Int)) c.a = levOf lv
  · by_cases hw : bitI (atI l (t : Int)) c.a = levOf lv
    · have hrs : runN l c.a (t + 1) = runN l c.a t := by rw [run_succ, if_pos (hw.trans hn.symm)]
      rw [hrs]
      simp only [hn, hw, beq_self_eq_true, Bool.not_true, cond_false, cond_true, Bool.true_or, Bool.false_and]
      congr 1
      by_cases h0 : runN l c.a t = 0
      · rw [if_pos h0, if_pos h0]; omega
      · rw [if_neg h0, if_neg h0]; omega
    · have hw' : (bitI (atI l (t : Int)) c.a == levOf lv) = false := by simpa using hw
      have hrs : runN l c.a (t + 1) = t + 1 := by rw [run_succ, if_neg (fun e => hw (e.trans hn))]
      rw [hrs]
      simp only [hn, hw', beq_self_eq_true, Bool.not_true, Bool.not_false, cond_false, cond_true, Bool.true_or, Bool.false_and]
      congr 1
      rw [if_neg (by omega)]; omega
  · have hn' : (bitI (atI l ((t + 1 : Nat) : Int)) c.a == levOf lv) = false := by simpa using hn
    by_cases hw : bitI (atI l (t : Int)) c.a = levOf lv
    · simp only [hn', hw, beq_self_eq_true, Bool.not_true, Bool.not_false, cond_false, cond_true, Bool.false_or, Bool.true_and]
      congr 1
      unfold outside
      by_cases h0 : runN l c.a t = 0
      · rw [if_pos h0, h0]
        rw [Bool.eq_iff_iff]; simp; omega
      · rw [if_neg h0]
        rw [Bool.eq_iff_iff]; simp; omega
    · have hw' : (bitI (atI l (t : Int)) c.a == levOf lv) = false := by simpa using hw
      simp only [hn', hw', Bool.not_false, cond_true, cond_false, Bool.false_or, Bool.false_and]
/-- the state of an idle behind a sample -/
def invI (l : List Int) (a mi : Int) (t : Nat) : Int := min ((t : Int) + 1 - (runN l a t : Nat)) (mi + 1)
theorem idle0 (l : List Int) (c : Cond) (hm : 0 ≤ c.mi) (st : Int) (w : Bool) : idleP c st (hiI (atI l ((0 : Nat) : Int)) c.a) w true = (invI l c.a c.mi 0, (((0 : Nat) : Int) - (runN l c.a 0 : Nat) + 1 == c.mi)) := by
  unfold idleP invI
  simp only [Bool.true_or, cond_true, runN]
  congr 1
  · rw [Bool.eq_iff_iff]; simp; omega
theorem hi_ne (n m k : Int) : (hiI n k != hiI m k) = !(bitI m k == bitI n k) := by
  unfold hiI
  rcases bitI_le n k with h | h <;> rcases bitI_le m k with h' | h' <;> rw [h, h'] <;> decide
theorem idle1 (l : List Int) (c : Cond) (hm : 0 ≤ c.mi) (t : Nat) : idleP c (invI l c.a c.mi t) (hiI (atI l ((t + 1 : Nat) : Int)) c.a) (hiI (befI l ((t + 1 : Nat) : Int)) c.a) false = (invI l c.a c.mi (t + 1), (((t + 1 : Nat) : Int) - (runN l c.a (t + 1) : Nat) + 1 == c.mi)) := by
  rw [bef_succ]
  unfold idleP
  rw [hi_ne, Bool.false_or]
  have hr := runN_le l c.a t
  unfold invI
  rw [run_succ]
  by_cases hb : bitI (atI l (t : Int)) c.a = bitI (atI l ((t + 1 : Nat) : Int)) c.a
  · rw [if_pos hb]
    simp only [hb, beq_self_eq_true, Bool.not_true, cond_false]
    refine Prod.ext (by simp only; omega) ?_
    simp only
    rw [Bool.eq_iff_iff]; simp; omega
  · have hb' : (bitI (atI l (t : Int)) c.a == bitI (atI l ((t + 1 : Nat) : Int)) c.a) = false := by simpa using hb
    rw [if_neg hb]
    simp only [hb', Bool.not_false, cond_true]
    refine Prod.ext (by simp only; omega) ?_
    simp only
    rw [Bool.eq_iff_iff]; simp; omega
end Go.Am

set_option linter.all false
namespace Go.Am
open Go
variable [MaxLen]

def chAt (l : List Int) (a : Int) (u : Nat) : Prop := bitI (atI l (u : Int)) a ≠ bitI (atI l ((u - 1 : Nat) : Int)) a
theorem chg_iff (l : List Int) (a : Int) : ∀ (n u : Nat) (p : Bool), chg l a u n p = true ↔ p = true ∨ ∃ v, u ≤ v ∧ v < u + n ∧ chAt l a v
  | 0, u, p => by
    rw [chg]
    constructor
    · exact .inl
    · rintro (h | ⟨v, h1, h2, _⟩)
      · exact h
      · omega
  | n + 1, u, p => by
    rw [chg, chg_iff l a n (u + 1)]
    have hc : (bitI (atI l (u : Int)) a != bitI (atI l ((u - 1 : Nat) : Int)) a) = true ↔ chAt l a u := by unfold chAt; simp
    rw [Bool.or_eq_true, hc]
    constructor
    · rintro ((h | h) | ⟨v, h1, h2, h3⟩)
      · exact .inl h
      · exact .inr ⟨u, Nat.le_refl _, by omega, h⟩
      · exact .inr ⟨v, by omega, by omega, h3⟩
    · rintro (h | ⟨v, h1, h2, h3⟩)
      · exact .inl (.inl h)
      · by_cases e : v = u
        · subst e; exact .inl (.inr h3)
        · exact .inr ⟨v, by omega, by omega, h3⟩
/-- the state of a setup behind a sample -/
def invS (l : List Int) (a mi : Int) : Nat → Int
  | 0 => mi
  | t + 1 => bif bitI (atI l (t : Int)) a == bitI (atI l ((t + 1 : Nat) : Int)) a then min (invS l a mi t + 1) mi else 0
theorem invS_pos (l : List Int) (a mi : Int) (hm : 0 ≤ mi) : ∀ t, 0 ≤ invS l a mi t
  | 0 => hm
  | t + 1 => by
    have := invS_pos l a mi hm t
    rw [invS]
    cases bitI (atI l (t : Int)) a == bitI (atI l ((t + 1 : Nat) : Int)) a <;> simp only [cond_true, cond_false] <;> omega
theorem invS_lt (l : List Int) (a mi : Int) (hm : 0 ≤ mi) : ∀ (t : Nat) (k : Int), 0 ≤ k → k ≤ mi → (invS l a mi t < k ↔ ∃ v : Nat, 1 ≤ v ∧ (t : Int) - k + 1 ≤ v ∧ v ≤ t ∧ chAt l a v)
  | 0, k, h0, h1 => by
    rw [invS]
    constructor
    · intro h; omega
    · rintro ⟨v, h2, h3, h4, _⟩; omega
  | t + 1, k, h0, h1 => by
    have hp := invS_pos l a mi hm t
    rw [invS]
    by_cases hb : bitI (atI l (t : Int)) a = bitI (atI l ((t + 1 : Nat) : Int)) a
    · have hbb : (bitI (atI l (t : Int)) a == bitI (atI l ((t + 1 : Nat) : Int)) a) = true := by simpa using hb
      rw [hbb, cond_true]
      by_cases hk : k = 0
      · subst hk
        constructor
        · intro h; omega
        · rintro ⟨v, h2, h3, h4, _⟩; omega
      · have ih := invS_lt l a mi hm t (k - 1) (by omega) (by omega)
        constructor
        · intro h
          obtain ⟨v, h2, h3, h4, h5⟩ := ih.1 (by omega)
          exact ⟨v, h2, by omega, by omega, h5⟩
        · rintro ⟨v, h2, h3, h4, h5⟩
          have : v ≠ t + 1 := fun e => by
            subst e
            unfold chAt at h5
            rw [Nat.add_sub_cancel] at h5
            exact h5 hb.symm
          have := ih.2 ⟨v, h2, by omega, by omega, h5⟩
          omega
    · have hbb : (bitI (atI l (t : Int)) a == bitI (atI l ((t + 1 : Nat) : Int)) a) = false := by simpa using hb
      rw [hbb, cond_false]
      constructor
      · intro h
        refine ⟨t + 1, by omega, by omega, by omega, ?_⟩
        unfold chAt
        rw [Nat.add_sub_cancel]
        exact fun e => hb e.symm
      · rintro ⟨v, h2, h3, h4, _⟩; omega
theorem chg_setup (l : List Int) (a mi : Int) (hm : 0 ≤ mi) (t : Nat) : chg l a (setupFrom t mi) (t + 1 - setupFrom t mi) false = decide (invS l a mi t < mi) := by
  rw [Bool.eq_iff_iff, chg_iff, decide_eq_true_iff, invS_lt l a mi hm t mi hm (by omega)]
  have hs : 1 ≤ setupFrom t mi ∧ setupFrom t mi ≤ t + 1 ∧ (t : Int) - mi + 1 ≤ setupFrom t mi ∧ ((setupFrom t mi : Int) = 1 ∨ (setupFrom t mi : Int) = (t : Int) - mi + 1) := by unfold setupFrom; omega
  constructor
  · rintro (h | ⟨v, h1, h2, h3⟩)
    · cases h
    · exact ⟨v, by omega, by omega, by omega, h3⟩
  · rintro ⟨v, h1, h2, h3, h4⟩
    exact .inr ⟨v, by omega, by omega, h4⟩

theorem low_iff (l : List Int) (b : Int) : ∀ (n u : Nat) (p : Bool), low l b u n p = true ↔ p = true ∧ ∀ v, u ≤ v → v < u + n → bitI (atI l (v : Int)) b = 0
  | 0, u, p => by
    rw [low]
    exact ⟨fun h => ⟨h, fun v h1 h2 => by omega⟩, fun h => h.1⟩
  | n + 1, u, p => by
    rw [low]
    cases p with
    | false => simp
    | true =>
      rw [cond_true, low_iff l b n (u + 1)]
      constructor
      · rintro ⟨h1, h2⟩
        refine ⟨rfl, fun v h3 h4 => ?_⟩
        by_cases e : v = u
        · subst e; simpa using h1
        · exact h2 v (by omega) (by omega)
      · rintro ⟨_, h2⟩
        exact ⟨by simpa using h2 u (Nat.le_refl _) (by omega), fun v h3 h4 => h2 v (by omega) (by omega)⟩
/-- the state of a runt behind a sample -/
def invR (l : List Int) (a b : Int) (t : Nat) : Int :=
  bif bitI (atI l (t : Int)) a == 1 then (bif decide (0 < runN l a t) && low l b (runN l a t) (t + 1 - runN l a t) true then 2 else 1) else 0
end Go.Am

set_option linter.all false
namespace Go.Am
open Go
variable [MaxLen]

theorem hi_eq1 (n k : Int) : hiI n k = (bitI n k == 1) := rfl
theorem hi_eq0 (n k : Int) : (!hiI n k) = (bitI n k == 0) := by
  unfold hiI
  rcases bitI_le n k with h | h <;> rw [h] <;> decide
theorem setup0 (l : List Int) (c : Cond) (hm : 0 ≤ c.mi) (hb wb : Bool) : setupP c c.mi (hiI (atI l ((0 : Nat) : Int)) c.a) (hiI (befI l ((0 : Nat) : Int)) c.a) hb wb = (invS l c.a c.mi 0, hb && !wb && decide (invS l c.a c.mi 0 < c.mi)) := by
  rw [bef_zero]
  unfold setupP
  rw [hi_ne]
  simp only [beq_self_eq_true, Bool.not_true, cond_false, invS]
  rw [show min (c.mi + 1) c.mi = c.mi by omega]
  all_goals rfl
theorem setup1 (l : List Int) (c : Cond) (hm : 0 ≤ c.mi) (t : Nat) (hb wb : Bool) : setupP c (invS l c.a c.mi t) (hiI (atI l ((t + 1 : Nat) : Int)) c.a) (hiI (befI l ((t + 1 : Nat) : Int)) c.a) hb wb = (invS l c.a c.mi (t + 1), hb && !wb && decide (invS l c.a c.mi (t + 1) < c.mi)) := by
  rw [bef_succ]
  unfold setupP
  rw [hi_ne, invS]
  cases bitI (atI l (t : Int)) c.a == bitI (atI l ((t + 1 : Nat) : Int)) c.a <;> rfl
theorem low_more (l : List Int) (b : Int) (u t : Nat) (h : u ≤ t) : low l b u (t + 1 + 1 - u) true = (low l b u (t + 1 - u) true && (bitI (atI l ((t + 1 : Nat) : Int)) b == 0)) := by
  rw [Bool.eq_iff_iff, Bool.and_eq_true, low_iff, low_iff]
  constructor
  · rintro ⟨_, h2⟩
    exact ⟨⟨rfl, fun v h3 h4 => h2 v h3 (by omega)⟩, by simpa using h2 (t + 1) (by omega) (by omega)⟩
  · rintro ⟨⟨_, h2⟩, h3⟩
    refine ⟨rfl, fun v h4 h5 => ?_⟩
    by_cases e : v = t + 1
    · subst e; simpa using h3
    · exact h2 v h4 (by omega)
theorem runt0 (l : List Int) (c : Cond) : runtP 0 (hiI (atI l ((0 : Nat) : Int)) c.a) (hiI (befI l ((0 : Nat) : Int)) c.a) (hiI (atI l ((0 : Nat) : Int)) c.b) true = (invR l c.a c.b 0, low l c.b (endFrom l c.a 1 0) (0 - endFrom l c.a 1 0) (endIs l c.a 1 0)) := by
  have he : endIs l c.a 1 0 = false := by unfold endIs noEnd; simp
  rw [bef_zero, he, low_false, hi_eq1]
  unfold runtP invR
  cases bitI (atI l ((0 : Nat) : Int)) c.a == 1 <;> simp [runN]
theorem runt1 (l : List Int) (c : Cond) (t : Nat) : runtP (invR l c.a c.b t) (hiI (atI l ((t + 1 : Nat) : Int)) c.a) (hiI (befI l ((t + 1 : Nat) : Int)) c.a) (hiI (atI l ((t + 1 : Nat) : Int)) c.b) false =
    (invR l c.a c.b (t + 1), low l c.b (endFrom l c.a 1 (t + 1)) (t + 1 - endFrom l c.a 1 (t + 1)) (endIs l c.a 1 (t + 1))) := by
  have hr := runN_le l c.a t
  have hz : (((t + 1 : Nat) : Int) == 0) = false := by simp; omega
  have hne : ∀ x y : Int, (x != y) = !(x == y) := fun _ _ => rfl
  rw [bef_succ, hi_eq1, hi_eq1]
  unfold runtP
  rw [hi_eq0]
  unfold endIs endFrom noEnd invR
  rw [hz, Nat.add_sub_cancel, Bool.false_or, hne]
  by_cases hn : bitI (atI l ((t + 1 : Nat) : Int)) c.a = 1
  · have hnb : (bitI (atI l ((t + 1 : Nat) : Int)) c.a == 1) = true := by simpa using hn
    rw [hnb]
    simp only [Bool.true_or, cond_true, low_false, Bool.not_true, cond_false, Bool.not_false, Bool.true_and]
    by_cases hw : bitI (atI l (t : Int)) c.a = 1
    · have hrs : runN l c.a (t + 1) = runN l c.a t := by rw [run_succ, if_pos (hw.trans hn.symm)]
      have hwb : (bitI (atI l (t : Int)) c.a == 1) = true := by simpa using hw
      rw [hrs, hwb, low_more l c.b _ t hr]
      cases decide (0 < runN l c.a t) <;> cases low l c.b (runN l c.a t) (t + 1 - runN l c.a t) true <;> cases (bitI (atI l ((t + 1 : Nat) : Int)) c.b == 0) <;> rfl
    · have hwb : (bitI (atI l (t : Int)) c.a == 1) = false := by simpa using hw
      have hrs : runN l c.a (t + 1) = t + 1 := by rw [run_succ, if_neg (fun e => hw (e.trans hn))]
      rw [hrs, hwb, show t + 1 + 1 - (t + 1) = 1 by omega]
      have h1 : low l c.b (t + 1) 1 true = (bitI (atI l ((t + 1 : Nat) : Int)) c.b == 0) := rfl
      rw [h1]
      have h2 : decide (0 < t + 1) = true := decide_eq_true (by omega)
      rw [h2]
      cases (bitI (atI l ((t + 1 : Nat) : Int)) c.b == 0) <;> rfl
  · have hnb : (bitI (atI l ((t + 1 : Nat) : Int)) c.a == 1) = false := by simpa using hn
    rw [hnb]
    simp only [Bool.not_false, cond_true, cond_false, Bool.false_or]
    by_cases hw : bitI (atI l (t : Int)) c.a = 1
    · have hwb : (bitI (atI l (t : Int)) c.a == 1) = true := by simpa using hw
      rw [hwb]
      simp only [Bool.not_true, cond_false, cond_true, Bool.true_and]
      cases hd : decide (0 < runN l c.a t) with
      | true => cases hlw : low l c.b (runN l c.a t) (t + 1 - runN l c.a t) true <;> rfl
      | false => rw [low_false]; rfl
    · have hwb : (bitI (atI l (t : Int)) c.a == 1) = false := by simpa using hw
      rw [hwb]
      simp only [Bool.not_false, cond_true, Bool.false_and, low_false]

/-- a leaf's state behind a sample -/
def invL (l : List Int) (c : Cond) (t : Nat) : Int := match kdOf c.kind with
  | .pulse => invP l c.a 1 c.ma t
  | .gap => invP l c.a 0 c.ma t
  | .idle => invI l c.a c.mi t
  | .setup => invS l c.a c.mi t
  | .runt => invR l c.a c.b t
  | _ => 0
def preS (l : List Int) (c : Cond) : Nat → Int
  | 0 => startI c
  | t + 1 => invL l c t
theorem leaf_step (l : List Int) (c : Cond) (hc : c.wf) (hlf : (kdOf c.kind).leaf = true) (i : Nat) : leafStep (atI l (i : Int)) (befI l (i : Int)) ((i : Int) == 0) c (preS l c i) = (invL l c i, atR l i c) := by
  have hs := hc.stp
  have hM := hs.ma.1
  have hm := hs.mi.1
  have hv : ∀ d, kdOf c.kind = d → atR l i c = atR l i (.mk c.kind c.a c.b c.mi c.ma c.pat c.nl c.kids) := fun d _ => by cases c; rfl
  rw [hv _ rfl, atR]
  unfold leafStep invL
  cases i with
  | zero =>
    have h0 : (((0 : Nat) : Int) == 0) = true := rfl
    rw [h0, preS]
    unfold startI
    cases hk : kdOf c.kind <;> rw [hk] at hlf <;> first | cases hlf | skip
    all_goals simp only [stP]
    case zero.low.refl => rw [hi_eq0]
    case zero.rise.refl => rw [hi_eq0, hi_eq1]
    case zero.fall.refl => rw [hi_eq0, hi_eq1]
    case zero.pulse.refl =>
      have := pulse0 l true c hM 0
      have he : endIs l c.a 1 0 = false := by unfold endIs noEnd; simp
      rw [this, he]; rfl
    case zero.gap.refl =>
      have := pulse0 l false c hM 0
      have he : endIs l c.a 0 0 = false := by unfold endIs noEnd; simp
      rw [this, he]; rfl
    case zero.idle.refl => exact idle0 l c hm 0 _
    case zero.setup.refl =>
      rw [setup0 l c hm, chg_setup l c.a c.mi hm, hi_eq0, hi_eq1]
      congr 1
      cases (bitI (atI l ((0 : Nat) : Int)) c.b == 1) <;> cases (bitI (befI l ((0 : Nat) : Int)) c.b == 0) <;> cases decide (invS l c.a c.mi 0 < c.mi) <;> rfl
    case zero.runt.refl => exact runt0 l c
    all_goals rfl
  | succ t =>
    have h0 : (((t + 1 : Nat) : Int) == 0) = false := by simp; omega
    rw [h0, preS]
    unfold invL
    cases hk : kdOf c.kind <;> rw [hk] at hlf <;> first | cases hlf | skip
    all_goals simp only [stP]
    case succ.low.refl => rw [hi_eq0]
    case succ.rise.refl => rw [hi_eq0, hi_eq1]
    case succ.fall.refl => rw [hi_eq0, hi_eq1]
    case succ.pulse.refl => exact pulse1 l true c hM t
    case succ.gap.refl => exact pulse1 l false c hM t
    case succ.idle.refl => exact idle1 l c hm t
    case succ.setup.refl =>
      rw [setup1 l c hm, chg_setup l c.a c.mi hm, hi_eq0, hi_eq1]
      congr 1
      cases (bitI (atI l ((t + 1 : Nat) : Int)) c.b == 1) <;> cases (bitI (befI l ((t + 1 : Nat) : Int)) c.b == 0) <;> cases decide (invS l c.a c.mi (t + 1) < c.mi) <;> rfl
    case succ.runt.refl => exact runt1 l c t
    all_goals rfl
end Go.Am

set_option linter.all false
namespace Go.Am
open Go
variable [MaxLen]

theorem normL_lenH (l : List Cond) : (normL l).length = l.length := by rw [normL_map]; simp
theorem ckR_normH (lines : Int) : ∀ (c : Cond) (d : Int), ckR lines c.norm d = ckR lines c d := by
  intro c
  induction c using Cond.ind with
  | h k a b mi ma pat nl kids ih =>
  intro d
  have hL : ∀ l : List Cond, (∀ x ∈ l, x ∈ kids) → ∀ d, ckRL lines (normL l) d = ckRL lines l d := by
    intro l
    induction l with
    | nil => intro _ d; rfl
    | cons c l ihl =>
      intro hm d
      rw [normL, ckRL, ckRL, ih c (hm c (List.mem_cons_self ..)), ihl fun x hx => hm x (List.mem_cons_of_mem _ hx)]
  rw [Cond.norm, ckR, ckR, normL_lenH, hL kids fun _ h => h]
theorem leaves_normH : ∀ c : Cond, leaves c.norm = leaves c := by
  intro c
  induction c using Cond.ind with
  | h k a b mi ma pat nl kids ih =>
  have hL : ∀ l : List Cond, (∀ x ∈ l, x ∈ kids) → leavesL (normL l) = leavesL l := by
    intro l
    induction l with
    | nil => intro _; rfl
    | cons c l ihl =>
      intro hm
      rw [normL, leavesL, leavesL, ih c (hm c (List.mem_cons_self ..)), ihl fun x hx => hm x (List.mem_cons_of_mem _ hx)]
  rw [Cond.norm, leaves, leaves, hL kids fun _ h => h]
theorem fits_normH : ∀ c : Cond, c.fits → c.norm.fits := by
  intro c
  induction c using Cond.ind with
  | h k a b mi ma pat nl kids ih =>
  intro h
  rw [Cond.fits] at h
  rw [Cond.norm, Cond.fits, normL_lenH]
  refine ⟨h.1, h.2.1, fun x hx => ?_⟩
  rw [normL_map] at hx
  obtain ⟨y, hy, rfl⟩ := List.mem_map.1 hx
  exact ih y hy (h.2.2 y hy)
end Go.Am

set_option linter.all false
namespace Go.Am
open Go
variable [MaxLen]
set_option maxRecDepth 100000
set_option maxHeartbeats 4000000

theorem cz25_2 (a b : Int) (s : St) : calZ U 25 (some [.fz [.int .i64 a, .int .i64 b]]) s = some (.int .i64 (firstOf [a, b]), s) :=
  cz_of (pure_go k25 (by kernel_rfl) (by simp [stills, still]) (g25 [a, b] (by simp))) (by kernel_rfl) (by simp [stills, still]) rfl s
theorem z25 {args : List AV} {s : St} (h : stills args = false) : callK U (calV U 25 args) 25 args s = calZ U 25 (mapO (frz U s 40) args) s := z_of (by kernel_rfl) s h
theorem lvsL_leaves : ∀ {l : List Cond}, (∀ x ∈ l, (lvs x).length ≤ leaves x) → (lvsL l).length ≤ leavesL l
  | [], _ => by simp [lvsL]
  | c :: l, h => by
    rw [lvsL, List.length_append, leavesL]
    have h1 := h c (List.mem_cons_self ..)
    have h2 := lvsL_leaves fun x hx => h x (List.mem_cons_of_mem _ hx)
    omega
theorem lvs_leaves : ∀ c : Cond, (lvs c).length ≤ leaves c := by
  intro c
  induction c using Cond.ind with
  | h k a b mi ma p nl kids ih =>
  rw [lvs, leaves]
  cases isComp k with
  | true => have := lvsL_leaves ih; simp only [cond_true]; omega
  | false => simp

theorem c4 (aw : calV U 16 [] = some (.bool true)) (law : ∀ l c, okSig l → c.wf → holdsP l c.norm = holdsR l c) (lines : Int) (c : Cond) (nl : Bool) (l : List Int) :
    calV U 4 [.int .i64 lines, encC c, encS nl (ints l)] = some (.bool true) := by
  refine pure_go k4 (by kernel_rfl) (by simp [stills, still_encC, still_encS, still]) ?_
  have q21 := c21 c 12
  have q22 := c22 nl l 60
  cases hs : shortC c 12 with
  | false =>
    rw [hs] at q21
    rw [encC_cells] at q21 ⊢
    simp only [Cond.cells] at q21 ⊢
    simp (config := { maxSteps := 2000000 }) +contextual only [go_sem, ↓reduceIte, r4, aw, q21, noAgg_encS, cells_encS]
  | true =>
    cases hss : shortSig l 60 with
    | false =>
      rw [hs] at q21
      rw [hss] at q22
      rw [encC_cells] at q21 ⊢
      simp only [Cond.cells] at q21 ⊢
      simp (config := { maxSteps := 2000000 }) +contextual only [go_sem, ↓reduceIte, r4, aw, q21, q22, noAgg_encS, cells_encS]
    | true =>
      have hs' := hs
      unfold shortC at hs'
      rw [Bool.and_eq_true] at hs'
      have hf := (sc_fits c 1 (by omega) hs'.1).1
      have hlv : (leaves c : Int) ≤ 12 := by simpa using hs'.2
      have hL : (lvs c.norm).length ≤ 2 ^ 20 := by
        have := lvs_leaves c.norm
        rw [leaves_normH] at this
        omega
      have q24 := c24 c hf
      have q23 := c23 lines c.norm (fits_normH c hf) hL nl l
      have q26 := c26 lines
      have q27 := c27 lines c hf 1
      have hz : stills [.sl 14 0 2 (some 2) 1] = false := rfl
      rw [hs] at q21
      rw [hss] at q22
      cases ho : outside lines 1 16 with
      | true =>
        have hw : within lines 1 16 = 3 := by unfold within; unfold outside at ho; rw [ho]; rfl
        have hP : hldP lines c.norm l = .tup [.nils, .int .i64 3] := by unfold hldP; rw [hw]; rfl
        rw [hP] at q23
        rw [ho] at q26
        have hfo : firstOf [3, ckR lines c 1] = 3 := rfl
        rw [encC_cells] at q21 q24 q27 ⊢
        rw [encC_cells] at q23 q24
        simp only [Cond.cells, br_true] at q21 q23 q24 q26 q27 ⊢
        simp (config := { maxSteps := 2000000 }) +contextual only [go_sem, ↓reduceIte, r4, aw, q21, q22, q23, q24, q26, q27, z25 hz, cz25_2, hfo, noAgg_encS, cells_encS]
        try rfl
      | false =>
        have hl2 := outside_ok ho
        have hw : within lines 1 16 = 0 := by unfold within; unfold outside at ho; rw [ho]; rfl
        have q28 := c28 lines hl2.1 hl2.2 nl l
        have hck : ckP lines c.norm 1 = ckR lines c 1 := by rw [ck_eq lines hl2.1 hl2.2, ckR_normH]
        rw [ho] at q26
        cases hd : ckR lines c 1 != 0 with
        | true =>
          have hfo : ∀ x, firstOf [ckR lines c 1, x] = ckR lines c 1 := fun x => by rw [firstOf, hd]; rfl
          have hfo0 : firstOf [0, ckR lines c 1] = ckR lines c 1 := by rw [first_zero, first_one]
          have hd' : (ckR lines c 1 == 0) = false := by simpa [bne] using hd
          have hP : hldP lines c.norm l = .tup [.nils, .int .i64 (ckR lines c 1)] := by unfold hldP; rw [hw, hck, hfo, hd]; rfl
          rw [hP] at q23
          rw [encC_cells] at q21 q24 q27 ⊢
          rw [encC_cells] at q23 q24
          simp only [Cond.cells, br_false] at q21 q23 q24 q26 q27 ⊢
          simp (config := { maxSteps := 2000000 }) +contextual only [go_sem, ↓reduceIte, r4, aw, q21, q22, q23, q24, q26, q27, z25 hz, cz25_2, hfo0, hd, hd', noAgg_encS, cells_encS]
          try simp
        | false =>
          have hd0 : ckR lines c 1 = 0 := by simpa using hd
          rw [hd0] at q27
          have hfo0 : firstOf [0, 0] = 0 := rfl
          cases hg : ckSig lines l != 0 with
          | true =>
            have hg' : (ckSig lines l == 0) = false := by simpa [bne] using hg
            have hP : hldP lines c.norm l = .tup [.nils, .int .i64 (ckSig lines l)] := by unfold hldP; rw [hw, hck, hd0, first_zero, first_one, hg]; rfl
            rw [hP] at q23
            rw [encC_cells] at q21 q24 q27 ⊢
            rw [encC_cells] at q23 q24
            simp only [Cond.cells, br_false] at q21 q23 q24 q26 q27 ⊢
            simp (config := { maxSteps := 2000000 }) +contextual only [go_sem, ↓reduceIte, r4, aw, q21, q22, q23, q24, q26, q27, q28, z25 hz, cz25_2, hfo0, hg, hg', noAgg_encS, cells_encS]
            try simp
          | false =>
            have hg0 : ckSig lines l = 0 := by simpa using hg
            have hc : c.wf := wf_of_ck hl2.1 hl2.2 c 1 hd0
            have hsig := okSig_of hl2.2 hg0
            have hP : hldP lines c.norm l = .tup [encS true (bools (holdsR l c)), .int .i64 0] := by unfold hldP; rw [hw, hck, hd0, hg0, law l c hsig hc]; rfl
            have q30 := c30 nl l hsig c hc
            have q29 := c29 true true (holdsR l c) (holdsR l c) (by have := hsig.1; simp [holdsR]; omega)
            rw [sameB_refl] at q29
            rw [hP] at q23
            rw [hg0] at q28
            rw [encC_cells] at q21 q24 q27 q30 ⊢
            rw [encC_cells] at q23 q24
            simp only [Cond.cells, br_false] at q21 q23 q24 q26 q27 q30 ⊢
            simp (config := { maxSteps := 2000000 }) +contextual only [go_sem, ↓reduceIte, r4, aw, q21, q22, q23, q24, q26, q27, q28, q29, q30, z25 hz, cz25_2, hfo0, noAgg_encS, cells_encS]
            try simp
end Go.Am
