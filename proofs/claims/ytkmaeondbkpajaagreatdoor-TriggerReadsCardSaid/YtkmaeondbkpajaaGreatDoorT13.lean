/- A part of the proof of a statement of this seat: the machine on which the program is read, and what it computes; for every input. -/
import Derived.Test.YtkmaeondbkpajaaGreatDoorT12
set_option linter.all false
set_option linter.all false
namespace Go.Am
open Go
variable [MaxLen]
set_option maxRecDepth 100000
set_option maxHeartbeats 8000000
def bytesK (x : Option (List AV)) (s : St) : Option (AV × St) := match x with
  | some r => match loadBytesA r with
    | some bs => some (.str bs, s)
    | none => none
  | none => none
def convBS (v : Option AV) (s : St) (r : Option (AV × St)) : Option (AV × St) := match v with
  | some (.sl b o len _ _) => bytesK (match cellsOf (s.get b) with | some c => grab len o c | none => none) s
  | some (.fz es) => bytesK (some es) s
  | _ => r
theorem conv_205_9 (ex : Ex) (e : Env) (x : Operand) (s : St) : opA U ex e (.convert 148 9 x) s = convBS (eval U e x) s (opA U ex e (.convert 148 9 x) s) := by
  have h1 : U.und 148 = some (.slice 5) := by kernel_rfl
  have h2 : U.und 9 = some .string := by kernel_rfl
  have h3 : U.und 5 = some (.int .u8) := und_5
  unfold convBS
  split
  · rename_i b o len c z hv
    simp only [opA, hv, convA, h1, h2, h3, ← cells_get, bytesK]
    cases s.cells b with
    | none => rfl
    | some c => simp only; cases grab len o c <;> rfl
  · rename_i es hv
    simp only [opA, hv, convA, h1, h2, h3, bytesK]
    rfl
  · rfl
@[congr] theorem convBS_congr {v v' : Option AV} {s : St} {r : Option (AV × St)} (h : v = v') : convBS v s r = convBS v' s r := by rw [h]
theorem convBS_sl (b o len : Nat) (c : Option Nat) (z : Nat) (s : St) (r : Option (AV × St)) : convBS (some (.sl b o len c z)) s r = bytesK (match cellsOf (s.get b) with | some c => grab len o c | none => none) s := (fun h => h) rfl
theorem bytesK_some (r : List AV) (s : St) : bytesK (some r) s = (match loadBytesA r with | some bs => some (.str bs, s) | none => none) := (fun h => h) rfl
theorem loadBytes_one (c : UInt8) : loadBytesA [.int .u8 (c.toNat : Int)] = some [c] := by
  simp only [loadBytesA, Int.toNat_natCast, UInt8.ofNat_toNat]
attribute [go_sem ↓ high] conv_205_9
attribute [go_sem] convBS_sl bytesK_some loadBytes_one

def digs (n : Nat) : Str := if n < 10 then [UInt8.ofNat (48 + n)] else digs (n / 10) ++ [UInt8.ofNat (48 + n % 10)]
termination_by n
decreasing_by omega
theorem digs_small {n : Nat} (h : n < 10) : digs n = [UInt8.ofNat (48 + n)] := by rw [digs, if_pos h]
theorem digs_big {n : Nat} (h : ¬ n < 10) : digs n = digs (n / 10) ++ [UInt8.ofNat (48 + n % 10)] := by rw [digs, if_neg h]
theorem digs_len : ∀ (k n : Nat), n < 10 ^ (k + 1) → (digs n).length ≤ k + 1 := by
  intro k
  induction k with
  | zero => intro n h; rw [digs_small (by omega)]; simp
  | succ k ih =>
    intro n h
    by_cases hn : n < 10
    · rw [digs_small hn]; simp
    · rw [digs_big hn, List.length_append]
      have := ih (n / 10) (by rw [Nat.pow_succ] at h; omega)
      simp only [List.length_singleton]; omega
def kdStr : Kd → Str
  | .high => [104, 105, 103, 104]
  | .low => [108, 111, 119]
  | .rise => [114, 105, 115, 101]
  | .fall => [102, 97, 108, 108]
  | .pattern => [112, 97, 116, 116, 101, 114, 110]
  | .enter => [101, 110, 116, 101, 114]
  | .pulse => [112, 117, 108, 115, 101]
  | .gap => [103, 97, 112]
  | .idle => [105, 100, 108, 101]
  | .setup => [115, 101, 116, 117, 112]
  | .runt => [114, 117, 110, 116]
  | .not_ => [110, 111, 116]
  | .all_ => [97, 108, 108]
  | .any_ => [97, 110, 121]
  | .other => []

theorem mapO_map {A : Type} {f : AV → Option AV} {g h : A → AV} (H : ∀ a, f (g a) = some (h a)) : ∀ l : List A, mapO f (l.map g) = some (l.map h)
  | [] => rfl
  | a :: l => by rw [List.map_cons, mapO, H a, mapO_map H l, List.map_cons]

/-! # The reference's printer -/

def strO (z : Str) : Option AV := if z.length < 2 ^ 62 then some (.str z) else none
theorem bin_sadd' (X : Cx) (t : TypeId) (c : Bool) (x y : Str) : binA X .add t c (.str x) (.str y) = strO (x ++ y) := by
  simp only [binA, strA, strO, List.length_append]
theorem bndG_strO {X : Cx} {β : Type} (fin : Fl → β) (ks : List K) (base : Nat) (z : Str) (s : St) (d : Option Nat) (l : List RO) (e : Env) :
    bndG X fin ks base (pureO (strO z) s) d l e = br (decide (z.length < 2 ^ 62)) (goO X fin ks base l (setDst e d (.str z)) s) (fin none) := by
  unfold strO
  by_cases h : z.length < 2 ^ 62
  · rw [if_pos h, decide_eq_true h, br_true]; rfl
  · rw [if_neg h, decide_eq_false h, br_false]; exact stuck_eq X fin ks
attribute [go_sem] bin_sadd' bndG_strO

def dg (n : Int) : Str := digs n.toNat
theorem dg_len {n : Int} (h1 : n ≤ 255) : (dg n).length ≤ 3 := digs_len 2 n.toNat (by omega)

def tokOk : Str → Bool
  | c :: _ => !(c == 40 || c == 41 || c == 44 || c == 59)
  | [] => false
theorem kd_str {k : Str} (h : (kdOf k).known = true) : k = kdStr (kdOf k) := by
  obtain ⟨h0, h1, h2, h3, h4, h5, h6, h7, h8, h9, h10, h11, h12, h13, h14⟩ := kd_facts k
  generalize kdOf k = d at *
  cases d <;> simp only [reduceCtorEq, decide_true, decide_false] at h1 h2 h3 h4 h5 h6 h7 h8 h9 h10 h11 h12 h13 h14 <;> first
    | exact eq_of_beq h1 | exact eq_of_beq h2 | exact eq_of_beq h3 | exact eq_of_beq h4 | exact eq_of_beq h5 | exact eq_of_beq h6 | exact eq_of_beq h7 | exact eq_of_beq h8 | exact eq_of_beq h9 | exact eq_of_beq h10 | exact eq_of_beq h11 | exact eq_of_beq h12 | exact eq_of_beq h13 | exact eq_of_beq h14 | cases h
theorem kd_tok {k : Str} (h : (kdOf k).known = true) : k.length ≤ 7 ∧ tokOk k = true := by
  have e := kd_str h
  generalize kdOf k = d at *
  subst e
  cases d <;> first | exact ⟨by decide, by decide⟩ | cases h

/-- what can be printed -/
def Cond.pv : Cond → Prop
  | .mk k a b mi ma pat _ kids => (kdOf k).known = true ∧ (0 ≤ a ∧ a ≤ 255) ∧ (0 ≤ b ∧ b ≤ 255) ∧ (0 ≤ mi ∧ mi ≤ 255) ∧ (0 ≤ ma ∧ ma ≤ 255) ∧ pat.length ≤ 40 ∧ ((usesOf (kdOf k)).pat = true → tokOk pat = true) ∧ kids.length ≤ 8 ∧ ∀ x ∈ kids, x.pv

mutual
def prR : Cond → Str
  | .mk k a b mi ma p _ kids => k ++ ((bif (usesOf (kdOf k)).a then 32 :: dg a else []) ++ ((bif (usesOf (kdOf k)).b then 32 :: dg b else []) ++ ((bif (usesOf (kdOf k)).mi then 32 :: dg mi else []) ++ ((bif (usesOf (kdOf k)).ma then 32 :: dg ma else []) ++ ((bif (usesOf (kdOf k)).pat then 32 :: p else []) ++ (prRL true kids ++ (bif (usesOf (kdOf k)).kids then [41] else [])))))))
def prRL : Bool → List Cond → Str
  | _, [] => []
  | f, c :: l => (bif f then [40] else [44, 32]) ++ (prR c ++ prRL false l)
end
theorem bif_len {p : Bool} {l : Str} {n : Nat} (h : l.length ≤ n) : (bif p then l else []).length ≤ n := by
  cases p
  · exact Nat.zero_le _
  · exact h
theorem prR_len : ∀ c : Cond, c.pv → (prR c).length + 2 ≤ 100 * leaves c := by
  intro c
  induction c using Cond.ind with
  | h k a b mi ma pat nl kids ih =>
  intro h
  rw [Cond.pv] at h
  obtain ⟨h1, ⟨_, h2⟩, ⟨_, h3⟩, ⟨_, h4⟩, ⟨_, h5⟩, h6, h7, h8, h9⟩ := h
  have hk := (kd_tok h1).1
  have hl : ∀ l : List Cond, (∀ x ∈ l, x ∈ kids) → ∀ f, (prRL f l).length ≤ 100 * leavesL l := by
    intro l
    induction l with
    | nil => intro _ f; simp [prRL]
    | cons c l ihl =>
      intro hm f
      have a1 := ihl (fun x hx => hm x (List.mem_cons_of_mem _ hx)) false
      have a2 := ih c (hm c (List.mem_cons_self ..)) (h9 c (hm c (List.mem_cons_self ..)))
      rw [prRL, leavesL, List.length_append, List.length_append]
      have : (bif f then ([40] : Str) else [44, 32]).length ≤ 2 := by cases f <;> decide
      omega
  have hkl := hl kids (fun _ h => h) true
  have b1 : (bif (usesOf (kdOf k)).a then 32 :: dg a else []).length ≤ 4 := bif_len (by have := dg_len h2; simp only [List.length_cons]; omega)
  have b2 : (bif (usesOf (kdOf k)).b then 32 :: dg b else []).length ≤ 4 := bif_len (by have := dg_len h3; simp only [List.length_cons]; omega)
  have b3 : (bif (usesOf (kdOf k)).mi then 32 :: dg mi else []).length ≤ 4 := bif_len (by have := dg_len h4; simp only [List.length_cons]; omega)
  have b4 : (bif (usesOf (kdOf k)).ma then 32 :: dg ma else []).length ≤ 4 := bif_len (by have := dg_len h5; simp only [List.length_cons]; omega)
  have b5 : (bif (usesOf (kdOf k)).pat then 32 :: pat else []).length ≤ 41 := bif_len (by simp only [List.length_cons]; omega)
  have b6 : (bif (usesOf (kdOf k)).kids then ([41] : Str) else []).length ≤ 1 := bif_len (by decide)
  rw [prR, leaves]
  simp only [List.length_append]
  omega
end Go.Am
set_option linter.all false
namespace Go.Am
open Go
variable [MaxLen]
set_option maxRecDepth 100000
set_option maxHeartbeats 8000000
def prS (s : Step) : Str := 32 :: (prR s.cond ++ ((bif s.times != 1 then [32, 116, 105, 109, 101, 115, 32] ++ dg s.times else []) ++ ((bif s.within != 0 then [32, 119, 105, 116, 104, 105, 110, 32] ++ dg s.within else []) ++ [59])))
def prSL : List Step → Str
  | [] => []
  | s :: l => prS s ++ prSL l
def textR (p : Prog) : Str := [108, 105, 110, 101, 115, 32] ++ (dg p.lines ++ (59 :: prSL p.steps))
def Step.pv (s : Step) : Prop := s.cond.pv ∧ leaves s.cond < 1048576 ∧ (0 ≤ s.times ∧ s.times ≤ 255) ∧ (0 ≤ s.within ∧ s.within ≤ 255)
def Prog.pv (p : Prog) : Prop := (0 ≤ p.lines ∧ p.lines ≤ 255) ∧ p.steps.length ≤ 8 ∧ ∀ s ∈ p.steps, s.pv
theorem prS_len {s : Step} (h : s.pv) : (prS s).length ≤ 2 ^ 27 := by
  obtain ⟨h1, h2, ⟨_, h3⟩, ⟨_, h4⟩⟩ := h
  have a1 := prR_len s.cond h1
  have b1 : (bif s.times != 1 then [32, 116, 105, 109, 101, 115, 32] ++ dg s.times else []).length ≤ 10 := bif_len (by have := dg_len h3; simp only [List.length_append, List.length_cons, List.length_nil]; omega)
  have b2 : (bif s.within != 0 then [32, 119, 105, 116, 104, 105, 110, 32] ++ dg s.within else []).length ≤ 11 := bif_len (by have := dg_len h4; simp only [List.length_append, List.length_cons, List.length_nil]; omega)
  rw [prS]
  simp only [List.length_append, List.length_cons, List.length_nil] at b1 b2 ⊢
  omega
theorem prSL_len : ∀ {l : List Step}, (∀ s ∈ l, s.pv) → (prSL l).length ≤ l.length * 2 ^ 27
  | [], _ => by simp [prSL]
  | s :: l, h => by
    have a1 := prS_len (h s (List.mem_cons_self ..))
    have a2 := prSL_len fun x hx => h x (List.mem_cons_of_mem _ hx)
    rw [prSL, List.length_append, List.length_cons, Nat.add_mul]; omega
theorem textR_len {p : Prog} (h : p.pv) : (textR p).length < 2 ^ 31 := by
  obtain ⟨⟨_, h1⟩, h2, h3⟩ := h
  have a1 := dg_len h1
  have a2 := prSL_len h3
  have a3 : p.steps.length * 2 ^ 27 ≤ 8 * 2 ^ 27 := Nat.mul_le_mul_right _ h2
  rw [textR]
  simp only [List.length_append, List.length_cons, List.length_nil]
  omega
def outR (p : Prog) : AV := br (decide (((textR p).length : Int) > 4096)) (.tup [.str [], .int .i64 26]) (.tup [.str (textR p), .int .i64 0])

/-! # The program's tokens -/

/-- a row of strings: made by appends from B on, or a literal from A on -/
def TokI (s : St) (A B : Nat) (ts : List Str) (v : AV) : Prop :=
  ts ≠ [] ∧ ∃ b, b < s.next ∧ s.get b = some (.cells (ts.map AV.str) 9 false 0 0) ∧ ((B ≤ b ∧ v = .sl b 0 ts.length none 1) ∨ (A ≤ b ∧ v = .sl b 0 ts.length (some ts.length) 1))
theorem TokI.lenA {s : St} {A B : Nat} {ts : List Str} {v : AV} (h : TokI s A B ts v) : Go.Am.lenA v = ts.length := by
  obtain ⟨_, b, _, _, ⟨_, rfl⟩ | ⟨_, rfl⟩⟩ := h <;> rfl
theorem TokI.lenL {s : St} {A B : Nat} {ts : List Str} {v : AV} (h : TokI s A B ts v) : lenRL v = some (.int .i64 ts.length) := by
  obtain ⟨_, b, _, _, ⟨_, rfl⟩ | ⟨_, rfl⟩⟩ := h <;> rfl
theorem TokI.noAgg {s : St} {A B : Nat} {ts : List Str} {v : AV} (h : TokI s A B ts v) : noAgg v = true := by
  obtain ⟨_, b, _, _, ⟨_, rfl⟩ | ⟨_, rfl⟩⟩ := h <;> rfl
theorem TokI.mono {s s' : St} {A B : Nat} {ts : List Str} {v : AV} (h : TokI s A B ts v) (hAB : A ≤ B) (hn : s.next ≤ s'.next) (hg : ∀ j, A ≤ j → j < s.next → s'.get j = s.get j) : TokI s' A B ts v := by
  obtain ⟨h0, b, h1, h2, h3⟩ := h
  have hb : A ≤ b := by rcases h3 with ⟨h, _⟩ | ⟨h, _⟩ <;> omega
  exact ⟨h0, b, by omega, by rw [hg b hb h1]; exact h2, h3⟩
theorem strs_noAgg (ts : List Str) : (ts.map AV.str).all Go.Am.noAgg = true := by
  induction ts with
  | nil => rfl
  | cons t ts ih => rw [List.map_cons, List.all_cons, ih]; rfl
theorem strs_frz (s : St) (d : Nat) (ts : List Str) : mapO (frz U s (d + 1)) (ts.map AV.str) = some (ts.map AV.str) := mapO_map (f := frz U s (d + 1)) (g := AV.str) (h := AV.str) (fun _ => rfl) ts
theorem appD_slk {t : TypeId} {n m : Nat} {new : List AV} {b len k : Nat} {s : St} {cs : List AV} {lo hi : Nat} (hg : s.get b = some (.cells cs t false lo hi)) (hl : cs.length = len * n) (hk : ¬ len + m ≤ k) :
    appD t n m new (.sl b 0 len (some k) n) s = some (.sl s.next 0 (len + m) none n, s.new (.cells (cs ++ new) t false 0 0)) := by
  simp only [appD, St.cells, hg]
  rw [← hl, grab_all]
  simp only
  rw [if_neg hk]
theorem TokI.app {s : St} {A B : Nat} {ts : List Str} {v : AV} (h : TokI s A B ts v) (hB : B ≤ s.next) (new : List Str) (hm : new ≠ []) {m : Nat} (hl : new.length = m) :
    ∃ s1 v1, appD 9 1 m (new.map AV.str) v s = some (v1, s1) ∧ s1.next = s.next + 1 ∧ TokI s1 A B (ts ++ new) v1 ∧ (∀ j, j < B → s1.get j = s.get j) ∧ (Fr s → Fr s1) ∧ (∀ j c t lo hi, j < s.next → t ≠ 9 → s.get j = some (.cells c t false lo hi) → s1.get j = some (.cells c t false lo hi)) := by
  subst hl
  have hm0 : 0 < new.length := List.length_pos_iff.2 hm
  obtain ⟨h0, b, h1, h2, ⟨h3, rfl⟩ | ⟨h3, rfl⟩⟩ := h
  · refine ⟨(s.put b .gone).new (.cells (ts.map AV.str ++ new.map AV.str) 9 false 0 0), .sl s.next 0 (ts.length + new.length) none 1, by rw [appD_sl, h2, appS_cells (by simp) (by omega) (strs_noAgg _)], rfl, ⟨by simp [h0], s.next, by rw [next_new, next_put]; omega, ?_, .inl ⟨hB, by rw [List.length_append]⟩⟩, fun j hj => ?_, fun hf => (hf.put h1 _).new _, fun j c t lo hi hj ht hg => ?_⟩
    · rw [get_new, next_put, if_pos rfl, List.map_append]
    · rw [get_new, next_put, if_neg (by omega), get_put, if_neg (by omega)]
    · have : b ≠ j := by rintro rfl; rw [h2] at hg; cases hg; exact ht rfl
      rw [get_new, next_put, if_neg (by omega), get_put, if_neg this]; exact hg
  · refine ⟨s.new (.cells (ts.map AV.str ++ new.map AV.str) 9 false 0 0), .sl s.next 0 (ts.length + new.length) none 1, by rw [appD_slk h2 (by simp) (by omega)], rfl, ⟨by simp [h0], s.next, by rw [next_new]; omega, ?_, .inl ⟨hB, by rw [List.length_append]⟩⟩, fun j hj => ?_, fun hf => hf.new _, fun j c t lo hi hj ht hg => ?_⟩
    · rw [get_new, if_pos rfl, List.map_append]
    · rw [get_new, if_neg (by omega)]
    · rw [get_new, if_neg (by omega)]; exact hg
theorem TokI.frz {s : St} {A B : Nat} {ts : List Str} {v : AV} (h : TokI s A B ts v) (d : Nat) : frz U s (d + 2) v = some (.fz (ts.map AV.str)) := by
  have key : ∀ b c, s.get b = some (.cells (ts.map AV.str) 9 false 0 0) → Go.Am.frz U s (d + 2) (.sl b 0 ts.length c 1) = some (.fz (ts.map AV.str)) := fun b c hg => by
    have hl : ts.length = (ts.map AV.str).length := by simp
    rw [frz_sl, hg, frzS_cells, Nat.mul_one, hl, grab_all, ag_9, sz_9, frzT_one, if_pos (strs_noAgg ts), chunks_all, strs_frz, fzK_some]
  obtain ⟨_, b, _, h2, ⟨_, rfl⟩ | ⟨_, rfl⟩⟩ := h
  · exact key b _ h2
  · exact key b _ h2
theorem source_fz (ts : List Str) (s : St) : sourceA 1 (.fz (ts.map AV.str)) s = some (ts.length, ts.map AV.str) := by
  have h1 : (ts.map AV.str).all (fun x => x.cells.length == 1) = true := by
    induction ts with
    | nil => rfl
    | cons t ts ih => rw [List.map_cons, List.all_cons, ih]; rfl
  have h2 : (ts.map AV.str).flatMap AV.cells = ts.map AV.str := by
    clear h1
    induction ts with
    | nil => rfl
    | cons t ts ih => rw [List.map_cons, List.flatMap_cons, ih]; rfl
  simp only [sourceA, h1, h2, List.length_map]
  rfl
attribute [go_sem] source_fz

def numsT : List (Bool × Int) → List Str
  | [] => []
  | f :: l => (bif f.1 then [dg f.2] else []) ++ numsT l
def flatF (fs : List (Bool × Int)) : List AV := fs.flatMap fun f => [.bool f.1, .int .i64 f.2]
theorem grab_flat : ∀ (i : Nat) (fs : List (Bool × Int)) (f : Bool × Int), fs[i]? = some f → grab 2 (i * 2) (flatF fs) = some [.bool f.1, .int .i64 f.2]
  | 0, g :: l, f, h => by
    cases h
    show grab 2 0 (.bool g.1 :: .int .i64 g.2 :: flatF l) = _
    simp [grab]
  | i + 1, g :: l, f, h => by
    have := grab_flat i l f (by simpa using h)
    rw [Nat.succ_mul]
    exact this
  | 0, [], f, h => by cases h
  | i + 1, [], f, h => by cases h

def T128 (cs kc : List AV) (ts : List Str) (e : Env) (s : St) : Prop :=
  Env.get e 1 = .ptr 8 0 ∧ Env.get e 4 = .ptr 14 0 ∧ 16 < s.next ∧ Fr s ∧ s.get 8 = some (.cells cs 78 false 0 0) ∧ s.get 14 = some (.cells kc 220 false 0 0) ∧ ∃ v, Env.get e 3 = v ∧ TokI s 9 17 ts v
theorem numsT_len : ∀ fs, (numsT fs).length ≤ fs.length
  | [] => Nat.le_refl _
  | f :: l => by
    have := numsT_len l
    rw [numsT, List.length_append, List.length_cons]
    have : (bif f.1 then [dg f.2] else []).length ≤ 1 := by cases f.1 <;> simp
    omega

theorem l128a (c127 : ∀ n : Int, 0 ≤ n → n ≤ 255 → calV U 75 [.int .i64 n] = some (.str (dg n))) {cs kc : List AV} {fs : List (Bool × Int)} (hfs : fs.length = 4) (hr : ∀ f ∈ fs, 0 ≤ f.2 ∧ f.2 ≤ 255) (ts0 : List Str) (N : Nat) (hN : N ≤ 2000000000) (hb : ts0.length ≤ N) {e : Env} {s : St} {ks : List K} {r : Option AV}
    (hT : T128 cs kc ts0 e s) (h36 : Env.get e 36 = .sl 16 0 4 (some 4) 2) (h37 : Env.get e 37 = .int .i64 4) (h38 : Env.get e 38 = .int .i64 0) (hs16 : s.get 16 = some (.cells (flatF fs) 225 false 0 0))
    (hk : ∀ e' s', T128 cs kc (ts0 ++ numsT fs) e' s' → goX U (finP U [.tmp 2]) ks 0 e' s' = r) : goL U (finP U [.tmp 2]) ks r128_l0 e s = r := by
  refine loop_to (σ := Nat × List Str) (fun x => 4 - x.1) (fun _ => r) (fun x e s => x.1 ≤ 4 ∧ x.2.length ≤ N + x.1 ∧ x.2 ++ numsT (fs.drop x.1) = ts0 ++ numsT fs ∧ T128 cs kc x.2 e s ∧ Env.get e 36 = .sl 16 0 4 (some 4) 2 ∧ Env.get e 37 = .int .i64 4 ∧ Env.get e 38 = .int .i64 x.1 ∧ s.get 16 = some (.cells (flatF fs) 225 false 0 0)) (0, ts0) ?_ rfl ⟨Nat.zero_le _, hb, by simp, hT, h36, h37, h38, hs16⟩
  clear hT h36 h37 h38 hs16 e s
  rintro L ⟨i, ts⟩ e s ⟨hi, hl, hE, ⟨h1, h4, hn, hfr, hs8, hs14, v, h3, hv⟩, h36, h37, h38, hs16⟩ IH
  simp only at hi hl hE h1 h4 hn hfr hs8 hs14 h3 hv h36 h37 h38 hs16 IH ⊢
  have h37' : Env.get e 37 = .int .i64 ((4 : Nat) : Int) := h37
  have ne : ∀ a k, a ≤ 16 → (s.next + k = a) = False := fun a k ha => by simp; omega
  have ne' : ∀ a, a ≤ 16 → (s.next = a) = False := fun a ha => by simp; omega
  by_cases hd : i < 4
  · have hdf : i < fs.length := by omega
    have hx : fs[i]? = some fs[i] := List.getElem?_eq_getElem hdf
    have hgr := grab_flat i fs _ hx
    have hw := wrap_succ hd (by omega)
    have hri := hr fs[i] (List.getElem_mem hdf)
    have h127 := c127 fs[i].2 hri.1 hri.2
    have hla := hv.lenA
    have hna := hv.noAgg
    have hb1 : (ts.length + 1) * 16 ≤ 1099511627776 := by omega
    have hb2 : ts.length + 1 ≤ 1099511627776 := by omega
    rw [List.drop_eq_getElem_cons hdf, numsT] at hE
    cases hu : fs[i].1
    · rw [hu] at hE hgr
      simp +contextual only [go_sem, ↓reduceIte, r128_l0, h1, h3, h4, h36, h37', h38, hs16, nat_lt_dec, hd, hgr, ne, ne', hw]
      refine IH (i + 1, ts) _ _ (by simp only; omega) ⟨by simp only; omega, by simp only; omega, ?_, ⟨?_, ?_, ?_, ?_, ?_, ?_, v, ?_, ?_⟩, ?_, ?_, ?_, ?_⟩
      case refine_9 => exact hv.mono (by omega) (by rw [next_put, next_new]; omega) fun j _ hj => by rw [get_put, get_new, if_neg (by omega), if_neg (by omega)]
      case refine_5 => exact (hfr.new _).put (by rw [next_new]; omega) _
      case refine_1 => simpa using hE
      all_goals simp +contextual only [go_sem, ↓reduceIte, h1, h3, h4, h36, h37, h38, hs8, hs14, hs16, ne, ne', hw]
      all_goals omega
    · rw [hu] at hE hgr
      simp +contextual only [go_sem, ↓reduceIte, r128_l0, h1, h3, h4, h36, h37', h38, hs16, nat_lt_dec, hd, hgr, ne, ne', hw, h127, appK_some, Nat.reducePow, Nat.one_mul, hla, hna, hb1, hb2]
      have hv0 : ∀ x y, TokI (((s.new x).put s.next y).new (.cells [.str (dg fs[i].2)] 9 false 0 0)) 9 17 ts v := fun x y => hv.mono (by omega) (by rw [next_new, next_put, next_new]; omega) fun j _ hj => by rw [get_new, next_put, next_new, if_neg (by omega), get_put, get_new, if_neg (by omega), if_neg (by omega)]
      obtain ⟨s1, v1, e1, e2, e3, e4, e5, e6⟩ := (hv0 (.cells [.bool false, .int .i64 0] 225 false 0 0) (.cells [.bool true, .int .i64 fs[i].2] 225 false 0 0)).app (by rw [next_new, next_put, next_new]; omega) [dg fs[i].2] (by simp) (m := 1) rfl
      simp only [List.map_cons, List.map_nil] at e1
      rw [e1]
      have k8 := e4 8 (by omega)
      have k14 := e4 14 (by omega)
      have k16 := e4 16 (by omega)
      simp only [get_put, get_new, next_put, next_new, Nat.add_assoc, ne, ne', ↓reduceIte, hs8, hs14, hs16, Nat.reduceLeDiff] at k8 k14 k16 e2
      simp +contextual only [go_sem, ↓reduceIte, h38, hw]
      refine IH (i + 1, ts ++ [dg fs[i].2]) _ _ (by simp only; omega) ⟨by simp only; omega, by simp only [List.length_append, List.length_singleton]; omega, ?_, ⟨?_, ?_, ?_, ?_, ?_, ?_, v1, ?_, e3⟩, ?_, ?_, ?_, ?_⟩
      case refine_5 => exact e5 (((hfr.new _).put (by rw [next_new]; omega) _).new _)
      case refine_1 => simpa using hE
      all_goals simp +contextual only [go_sem, ↓reduceIte, h1, h3, h4, h36, h37, h38, k8, k14, k16, hw, e2]
      all_goals first | omega | skip
  · have : i = 4 := by omega
    subst this
    rw [List.drop_eq_nil_of_le (by omega), numsT, List.append_nil] at hE
    subst hE
    simp +contextual only [go_sem, ↓reduceIte, r128_l0, h37', h38, nat_lt_dec, Nat.lt_irrefl]
    refine hk _ _ ⟨?_, ?_, hn, hfr, hs8, hs14, v, ?_, hv⟩
    all_goals simp +contextual only [go_sem, ↓reduceIte, h1, h3, h4]
mutual
def tkP : Cond → List Str
  | .mk k a b mi ma p _ kids => k :: (numsT [((usesOf (kdOf k)).a, a), ((usesOf (kdOf k)).b, b), ((usesOf (kdOf k)).mi, mi), ((usesOf (kdOf k)).ma, ma)] ++ ((bif (usesOf (kdOf k)).pat then [p] else []) ++ (tkPL true kids ++ (bif (usesOf (kdOf k)).kids then [[41]] else []))))
def tkPL : Bool → List Cond → List Str
  | _, [] => []
  | f, c :: l => (bif f then [40] else [44]) :: (tkP c ++ tkPL false l)
end
theorem tkP_len : ∀ c : Cond, (tkP c).length + 1 ≤ 20 * leaves c := by
  intro c
  induction c using Cond.ind with
  | h k a b mi ma pat nl kids ih =>
  have hl : ∀ l : List Cond, (∀ x ∈ l, x ∈ kids) → ∀ f, (tkPL f l).length ≤ 20 * leavesL l := by
    intro l
    induction l with
    | nil => intro _ f; simp [tkPL]
    | cons c l ihl =>
      intro hm f
      have a1 := ihl (fun x hx => hm x (List.mem_cons_of_mem _ hx)) false
      have a2 := ih c (hm c (List.mem_cons_self ..))
      rw [tkPL, leavesL, List.length_cons, List.length_append]
      omega
  have hkl := hl kids (fun _ h => h) true
  have b1 := numsT_len [((usesOf (kdOf k)).a, a), ((usesOf (kdOf k)).b, b), ((usesOf (kdOf k)).mi, mi), ((usesOf (kdOf k)).ma, ma)]
  have b5 : (bif (usesOf (kdOf k)).pat then [pat] else []).length ≤ 1 := by cases (usesOf (kdOf k)).pat <;> simp
  have b6 : (bif (usesOf (kdOf k)).kids then ([[41]] : List Str) else []).length ≤ 1 := by cases (usesOf (kdOf k)).kids <;> simp
  rw [tkP, leaves]
  simp only [List.length_append, List.length_cons, List.length_nil] at b1 ⊢
  omega
theorem tkP_ne (c : Cond) : tkP c ≠ [] := by cases c; rw [tkP]; simp

theorem l128b {nl : Bool} {kids : List Cond} (hkids : ∀ x ∈ kids, calV U 76 [encC x] = some (.fz ((tkP x).map AV.str))) {cs kc : List AV} (h8 : kids.length ≤ 8) (ts0 : List Str) (hb : (ts0 ++ tkPL true kids).length ≤ 1100000000) {e : Env} {s : St} {ks : List K} {r : Option AV}
    (hT : T128 cs kc ts0 e s) (h59 : Env.get e 59 = encS nl (encL kids)) (h60 : Env.get e 60 = .int .i64 kids.length) (h61 : Env.get e 61 = .int .i64 0)
    (hk : ∀ e' s', T128 cs kc (ts0 ++ tkPL true kids) e' s' → goX U (finP U [.tmp 2]) ks 2 e' s' = r) : goL U (finP U [.tmp 2]) ks r128_l1 e s = r := by
  refine loop_to (σ := Nat × List Str) (fun x => kids.length - x.1) (fun _ => r) (fun x e s => x.1 ≤ kids.length ∧ x.2 ++ tkPL (Nat.beq x.1 0) (kids.drop x.1) = ts0 ++ tkPL true kids ∧ T128 cs kc x.2 e s ∧ Env.get e 59 = encS nl (encL kids) ∧ Env.get e 60 = .int .i64 kids.length ∧ Env.get e 61 = .int .i64 x.1) (0, ts0) ?_ rfl ⟨Nat.zero_le _, rfl, hT, h59, h60, h61⟩
  clear hT h59 h60 h61 e s
  rintro L ⟨i, ts⟩ e s ⟨hi, hE, ⟨h1, h4, hn, hfr, hs8, hs14, v, h3, hv⟩, h59, h60, h61⟩ IH
  simp only at hi hE h1 h4 hn hfr hs8 hs14 h3 hv h59 h60 h61 IH ⊢
  have ne : ∀ a k, a ≤ 16 → (s.next + k = a) = False := fun a k ha => by simp; omega
  have ne' : ∀ a, a ≤ 16 → (s.next = a) = False := fun a ha => by simp; omega
  by_cases hd : i < kids.length
  · have hx : (encL kids)[i]? = some (encC kids[i]) := by rw [encL_get, List.getElem?_eq_getElem hd]; rfl
    have hc := hkids kids[i] (List.getElem_mem hd)
    have htn := tkP_ne kids[i]
    have hm0 : ((tkP kids[i]).length = 0) = False := by simp [htn]
    rw [encC_cells] at hx hc
    simp only [Cond.cells] at hx hc
    rw [List.drop_eq_getElem_cons hd, tkPL] at hE
    have hl := congrArg List.length hE
    simp only [List.length_append, List.length_cons] at hl hb
    have hw := wrap_succ hd (by omega)
    rw [encS_ne (encL_ne hd)] at h59
    generalize tkP kids[i] = tk at *
    have hla := hv.lenA
    have hna := hv.noAgg
    have hb1 : (ts.length + 1) * 16 ≤ 1099511627776 := by omega
    have hb2 : ts.length + 1 ≤ 1099511627776 := by omega
    have hb3 : ∀ x : Str, ((ts ++ [x]).length + tk.length) * 16 ≤ 1099511627776 := fun x => by rw [List.length_append, List.length_singleton]; omega
    have hb4 : ∀ x : Str, (ts ++ [x]).length + tk.length ≤ 1099511627776 := fun x => by rw [List.length_append, List.length_singleton]; omega
    have hmin : min (i : Int) 1 = bif Nat.beq i 0 then 0 else 1 := by
      cases i with
      | zero => rfl
      | succ n =>
        show min ((n + 1 : Nat) : Int) 1 = 1
        omega
    generalize hbb : Nat.beq i 0 = bb at *
    have hv0 : ∀ x y z w, TokI ((((s.new x).put s.next y).new z).new w) 9 17 ts v := fun x y z w => hv.mono (by omega) (by rw [next_new, next_new, next_put, next_new]; omega) fun j _ hj => by rw [get_new, next_new, next_put, next_new, if_neg (by omega), get_new, next_put, next_new, if_neg (by omega), get_put, get_new, if_neg (by omega), if_neg (by omega)]
    cases bb
    all_goals simp only [cond_true, cond_false] at hmin hE
    all_goals simp +contextual only [go_sem, ↓reduceIte, r128_l1, h1, h3, h4, h59, h60, h61, nat_lt_dec, hd, hx, hmin, ne, ne', hw, appK_some, Nat.reducePow, Nat.one_mul, hla, hna, hb1, hb2, noAgg_encS]
    · obtain ⟨s1, v1, e1, e2, e3, e4, e5, e6⟩ := (hv0 (.cells [.str [], .int .i64 0, .int .i64 0, .int .i64 0, .int .i64 0, .str [], .nils] 78 false 0 0) (.cells kids[i].cells 78 false 0 0) (.cells [.str [40], .str [44]] 9 false 0 0) (.cells [.str [44]] 9 false 0 0)).app (by simp only [next_new, next_put]; omega) [[44]] (by simp) (m := 1) rfl
      simp only [List.map_cons, List.map_nil, Cond.cells] at e1
      rw [e1]
      have k8 := e4 8 (by omega)
      have k14 := e4 14 (by omega)
      have kn := e6 s.next _ 78 0 0 (by simp only [next_new, next_put]; omega) (by decide) (by rw [get_new, if_neg (by simp only [next_new, next_put]; omega), get_new, if_neg (by simp only [next_new, next_put]; omega), get_put, if_pos rfl])
      simp only [next_new, next_put] at e2
      simp only [get_put, get_new, next_put, next_new, Nat.add_assoc, ne, ne', ↓reduceIte, hs8, hs14, Nat.reduceLeDiff, Nat.reduceAdd, Cond.cells] at k8 k14 e2 kn
      have hl1 := e3.lenA
      have hn1 := e3.noAgg
      have hfr1 := e5 ((((hfr.new _).put (by rw [next_new]; omega) _).new _).new _)
      simp +contextual only [go_sem, ↓reduceIte, h61, hw, kn, hc, hl1, hn1, appK_some, hm0, Nat.reducePow, Nat.one_mul, hb3, hb4, List.length_map, Nat.mul_one, not_false_eq_true]
      obtain ⟨s2, v2, f1, f2, f3, f4, f5, f6⟩ := e3.app (by rw [e2]; omega) tk htn (m := tk.length) rfl
      rw [f1]
      have m8 := f4 8 (by omega)
      have m14 := f4 14 (by omega)
      rw [k8] at m8
      rw [k14] at m14
      simp +contextual only [go_sem, ↓reduceIte, h61, hw]
      refine IH (i + 1, _) _ _ (by simp only; omega) ⟨by simp only; omega, ?_, ⟨?_, ?_, ?_, f5 hfr1, m8, m14, v2, ?_, f3⟩, ?_, ?_, ?_⟩
      case refine_1 => simp only [Nat.beq, List.append_assoc, List.cons_append, List.nil_append]; rw [← hE]
      all_goals simp +contextual only [go_sem, ↓reduceIte, h1, h4, h59, h60, h61, hw, f2, e2, encS_ne (encL_ne hd)]
      all_goals first | omega | skip
    · obtain ⟨s1, v1, e1, e2, e3, e4, e5, e6⟩ := (hv0 (.cells [.str [], .int .i64 0, .int .i64 0, .int .i64 0, .int .i64 0, .str [], .nils] 78 false 0 0) (.cells kids[i].cells 78 false 0 0) (.cells [.str [40], .str [44]] 9 false 0 0) (.cells [.str [40]] 9 false 0 0)).app (by simp only [next_new, next_put]; omega) [[40]] (by simp) (m := 1) rfl
      simp only [List.map_cons, List.map_nil, Cond.cells] at e1
      rw [e1]
      have k8 := e4 8 (by omega)
      have k14 := e4 14 (by omega)
      have kn := e6 s.next _ 78 0 0 (by simp only [next_new, next_put]; omega) (by decide) (by rw [get_new, if_neg (by simp only [next_new, next_put]; omega), get_new, if_neg (by simp only [next_new, next_put]; omega), get_put, if_pos rfl])
      simp only [next_new, next_put] at e2
      simp only [get_put, get_new, next_put, next_new, Nat.add_assoc, ne, ne', ↓reduceIte, hs8, hs14, Nat.reduceLeDiff, Nat.reduceAdd, Cond.cells] at k8 k14 e2 kn
      have hl1 := e3.lenA
      have hn1 := e3.noAgg
      have hfr1 := e5 ((((hfr.new _).put (by rw [next_new]; omega) _).new _).new _)
      simp +contextual only [go_sem, ↓reduceIte, h61, hw, kn, hc, hl1, hn1, appK_some, hm0, Nat.reducePow, Nat.one_mul, hb3, hb4, List.length_map, Nat.mul_one, not_false_eq_true]
      obtain ⟨s2, v2, f1, f2, f3, f4, f5, f6⟩ := e3.app (by rw [e2]; omega) tk htn (m := tk.length) rfl
      rw [f1]
      have m8 := f4 8 (by omega)
      have m14 := f4 14 (by omega)
      rw [k8] at m8
      rw [k14] at m14
      simp +contextual only [go_sem, ↓reduceIte, h61, hw]
      refine IH (i + 1, _) _ _ (by simp only; omega) ⟨by simp only; omega, ?_, ⟨?_, ?_, ?_, f5 hfr1, m8, m14, v2, ?_, f3⟩, ?_, ?_, ?_⟩
      case refine_1 => simp only [Nat.beq, List.append_assoc, List.cons_append, List.nil_append]; rw [← hE]
      all_goals simp +contextual only [go_sem, ↓reduceIte, h1, h4, h59, h60, h61, hw, f2, e2, encS_ne (encL_ne hd)]
      all_goals first | omega | skip
  · have : i = kids.length := by omega
    subst this
    rw [List.drop_length, tkPL, List.append_nil] at hE
    subst hE
    simp +contextual only [go_sem, ↓reduceIte, r128_l1, h60, h61, nat_lt_dec, Nat.lt_irrefl]
    refine hk _ _ ⟨?_, ?_, hn, hfr, hs8, hs14, v, ?_, hv⟩
    all_goals simp +contextual only [go_sem, ↓reduceIte, h1, h3, h4]

theorem c128 (c127 : ∀ n : Int, 0 ≤ n → n ≤ 255 → calV U 75 [.int .i64 n] = some (.str (dg n))) : ∀ c : Cond, c.pv → leaves c < 1048576 → calV U 76 [encC c] = some (.fz ((tkP c).map AV.str)) := by
  intro c
  induction c using Cond.ind with
  | h k a b mi ma pat nl kids ih =>
  intro h hlv
  have hlen := tkP_len (.mk k a b mi ma pat nl kids)
  rw [Cond.pv] at h
  obtain ⟨h1, h2, h3, h4, h5, h6, h7, h8, h9⟩ := h
  rw [leaves] at hlv hlen
  have hkids : ∀ x ∈ kids, calV U 76 [encC x] = some (.fz ((tkP x).map AV.str)) := fun x hx => ih x hx (h9 x hx) (by have := leavesL_mem hx; omega)
  refine pure_go k128 (by kernel_rfl) (by simp [stills, still_encC]) ?_
  have hlk := lookup_kinds0 k
  rw [encC]
  rw [tkP] at hlen ⊢
  have hs : stills [kSize (kdOf k), kStart (kdOf k), kStep (kdOf k)] = true := by cases kdOf k <;> rfl
  have hn : noAgg (kSize (kdOf k)) = true ∧ noAgg (kStart (kdOf k)) = true ∧ noAgg (kStep (kdOf k)) = true := by cases kdOf k <;> exact ⟨rfl, rfl, rfl⟩
  have hcl : (kSize (kdOf k)).cells = [kSize (kdOf k)] ∧ (kStart (kdOf k)).cells = [kStart (kdOf k)] ∧ (kStep (kdOf k)).cells = [kStep (kdOf k)] := by cases kdOf k <;> exact ⟨rfl, rfl, rfl⟩
  rw [kindV] at hlk
  obtain ⟨n1, n2, n3⟩ := hn
  generalize kSize (kdOf k) = A1 at *
  generalize kStart (kdOf k) = A2 at *
  generalize kStep (kdOf k) = A3 at *
  generalize hu : usesOf (kdOf k) = u at *
  obtain ⟨ua, ub, um, ux, up, uk⟩ := u
  simp only at hlk hlen h7 ⊢
  simp (config := { maxSteps := 2000000 }) +contextual only [go_sem, ↓reduceIte, r128, c156, hlk, cells_encS, noAgg_encS, n1, n2, n3]
  refine l128a c127 (fs := [(ua, a), (ub, b), (um, mi), (ux, ma)]) (cs := [.str k, .int .i64 a, .int .i64 b, .int .i64 mi, .int .i64 ma, .str pat, encS nl (encL kids)]) (kc := [.bool ua, .bool ub, .bool um, .bool ux, .bool up, .bool uk, A1, A2, A3]) rfl ?_ [k] 1 (by omega) (Nat.le_refl _) ⟨?_, ?_, ?_, ?_, ?_, ?_, .sl 9 0 1 (some 1) 1, ?_, by simp, 9, ?_, ?_, .inr ⟨Nat.le_refl _, rfl⟩⟩ ?_ ?_ ?_ ?_ ?_
  case refine_1 =>
    intro f hf
    simp only [List.mem_cons, List.not_mem_nil, or_false] at hf
    rcases hf with rfl | rfl | rfl | rfl
    · exact h2
    · exact h3
    · exact h4
    · exact h5
  case refine_5 =>
    repeat first | exact Fr.own | apply Fr.new | apply Fr.put | apply Fr.upto
    all_goals simp +contextual only [go_sem, ↓reduceIte]
  case refine_15 =>
    rintro e s ⟨q1, q4, qn, qfr, q8, q14, v, q3, qv⟩
    have ne : ∀ a k, a ≤ 16 → (s.next + k = a) = False := fun a k ha => by simp; omega
    have ne' : ∀ a, a ≤ 16 → (s.next = a) = False := fun a ha => by simp; omega
    have hla := qv.lenA
    have hna := qv.noAgg
    obtain ⟨ts, hts⟩ : ∃ ts : List Str, ts = [k] ++ numsT [(ua, a), (ub, b), (um, mi), (ux, ma)] := ⟨_, rfl⟩
    have hwhole : ∀ R : List Str, k :: (numsT [(ua, a), (ub, b), (um, mi), (ux, ma)] ++ R) = ts ++ R := fun R => by rw [hts]; rfl
    rw [hwhole] at hlen ⊢
    rw [← hts] at qv hla
    clear hts hwhole
    simp only [List.length_append] at hlen
    have hb1 : (ts.length + 1) * 16 ≤ 1099511627776 := by omega
    have hb2 : ts.length + 1 ≤ 1099511627776 := by omega
    cases up
    · simp only [cond_false, List.nil_append, List.length_nil] at hlen ⊢
      simp +contextual only [go_sem, ↓reduceIte, q1, q3, q4, q8, q14, lenL_encS, encL_len]
      refine l128b (nl := nl) hkids h8 ts (by rw [List.length_append]; omega) ⟨?_, ?_, qn, qfr, q8, q14, v, ?_, qv⟩ ?_ ?_ ?_ ?_
      case refine_7 =>
        rintro e2 s2 ⟨w1, w4, wn, wfr, w8, w14, v2, w3, wv⟩
        have ne2 : ∀ a k, a ≤ 16 → (s2.next + k = a) = False := fun a k ha => by simp; omega
        have ne2' : ∀ a, a ≤ 16 → (s2.next = a) = False := fun a ha => by simp; omega
        have hla2 := wv.lenA
        have hna2 := wv.noAgg
        have hfz := wv.frz 3998
        cases uk
        · simp +contextual only [go_sem, ↓reduceIte, w1, w3, w4, w8, w14, hfz]
          try simp
        · have hb3 : ((ts ++ tkPL true kids).length + 1) * 16 ≤ 1099511627776 := by simp only [List.length_append, List.length_singleton]; omega
          have hb4 : (ts ++ tkPL true kids).length + 1 ≤ 1099511627776 := by simp only [List.length_append, List.length_singleton]; omega
          simp +contextual only [go_sem, ↓reduceIte, w1, w3, w4, w8, w14, ne2, ne2', appK_some, Nat.reducePow, Nat.one_mul, hla2, hna2, hb3, hb4]
          obtain ⟨s3, v3, f1, f2, f3, f4, f5, f6⟩ := (wv.mono (s' := s2.new (.cells [.str [41]] 9 false 0 0)) (by omega) (by rw [next_new]; omega) fun j _ hj => by rw [get_new, if_neg (by omega)]).app (by rw [next_new]; omega) [[41]] (by simp) (m := 1) rfl
          simp only [List.map_cons, List.map_nil] at f1
          rw [f1]
          have hfz3 := f3.frz 3998
          simp +contextual only [go_sem, ↓reduceIte, hfz3]
          try simp
      all_goals simp +contextual only [go_sem, ↓reduceIte, q1, q3, q4]
      all_goals rfl
    · simp only [cond_true, List.length_cons, List.length_nil] at hlen ⊢
      simp +contextual only [go_sem, ↓reduceIte, q1, q3, q4, q8, q14, lenL_encS, encL_len, ne, ne', appK_some, Nat.reducePow, Nat.one_mul, hla, hna, hb1, hb2]
      obtain ⟨s1, v1, e1, e2, e3, e4, e5, e6⟩ := (qv.mono (s' := s.new (.cells [.str pat] 9 false 0 0)) (by omega) (by rw [next_new]; omega) fun j _ hj => by rw [get_new, if_neg (by omega)]).app (by rw [next_new]; omega) [pat] (by simp) (m := 1) rfl
      simp only [List.map_cons, List.map_nil] at e1
      rw [e1]
      have k8 := e4 8 (by omega)
      have k14 := e4 14 (by omega)
      rw [get_new, if_neg (by omega), q8] at k8
      rw [get_new, if_neg (by omega), q14] at k14
      rw [next_new] at e2
      have hl1 := e3.lenA
      have hn1 := e3.noAgg
      simp +contextual only [go_sem, ↓reduceIte, q1, q4, k8, k14, lenL_encS, encL_len]
      refine l128b (nl := nl) hkids h8 (ts ++ [pat]) (by rw [List.length_append, List.length_append, List.length_singleton]; omega) ⟨?_, ?_, by omega, e5 (qfr.new _), k8, k14, v1, ?_, e3⟩ ?_ ?_ ?_ ?_
      case refine_7 =>
        rintro e2 s2 ⟨w1, w4, wn, wfr, w8, w14, v2, w3, wv⟩
        have ne2 : ∀ a k, a ≤ 16 → (s2.next + k = a) = False := fun a k ha => by simp; omega
        have ne2' : ∀ a, a ≤ 16 → (s2.next = a) = False := fun a ha => by simp; omega
        have hla2 := wv.lenA
        have hna2 := wv.noAgg
        have hfz := wv.frz 3998
        cases uk
        · simp +contextual only [go_sem, ↓reduceIte, w1, w3, w4, w8, w14, hfz]
          try simp
        · have hb3 : ((ts ++ [pat] ++ tkPL true kids).length + 1) * 16 ≤ 1099511627776 := by simp only [List.length_append, List.length_singleton]; omega
          have hb4 : (ts ++ [pat] ++ tkPL true kids).length + 1 ≤ 1099511627776 := by simp only [List.length_append, List.length_singleton]; omega
          simp +contextual only [go_sem, ↓reduceIte, w1, w3, w4, w8, w14, ne2, ne2', appK_some, Nat.reducePow, Nat.one_mul, hla2, hna2, hb3, hb4]
          obtain ⟨s3, v3, f1, f2, f3, f4, f5, f6⟩ := (wv.mono (s' := s2.new (.cells [.str [41]] 9 false 0 0)) (by omega) (by rw [next_new]; omega) fun j _ hj => by rw [get_new, if_neg (by omega)]).app (by rw [next_new]; omega) [[41]] (by simp) (m := 1) rfl
          simp only [List.map_cons, List.map_nil] at f1
          rw [f1]
          have hfz3 := f3.frz 3998
          simp +contextual only [go_sem, ↓reduceIte, hfz3]
          try simp
      all_goals simp +contextual only [go_sem, ↓reduceIte, q1, q4]
      all_goals rfl
  all_goals simp +contextual only [go_sem, ↓reduceIte]
  all_goals rfl
end Go.Am
set_option linter.all false
namespace Go.Am
open Go
variable [MaxLen]
set_option maxRecDepth 100000
set_option maxHeartbeats 4000000
/-! # The tokens, joined, are the reference's text -/

def cont (t : Str) : Bool := t == [41] || (t == [44] || (t == [59] || t == [40]))
def jn : Bool → List Str → Str
  | _, [] => []
  | b, t :: l => (bif b || cont t then t else 32 :: t) ++ jn (t == [40]) l
theorem tokOk_cont {t : Str} (h : tokOk t = true) : cont t = false ∧ (t == [40]) = false := by
  cases t with
  | nil => cases h
  | cons c l =>
    simp only [tokOk, Bool.not_eq_true', Bool.or_eq_false_iff, beq_eq_false_iff_ne] at h
    obtain ⟨⟨⟨h1, h2⟩, h3⟩, h4⟩ := h
    have e : ∀ d : UInt8, c ≠ d → (c :: l == [d]) = false := fun d hd => by
      rw [beq_eq_false_iff_ne]; intro hh; exact hd (List.cons.inj hh).1
    refine ⟨?_, e 40 h1⟩
    rw [cont, e 41 h2, e 44 h3, e 59 h4, e 40 h1]; rfl
theorem jn_tok {t : Str} (h : tokOk t = true) (b : Bool) (l : List Str) : jn b (t :: l) = (bif b then t else 32 :: t) ++ jn false l := by
  obtain ⟨h1, h2⟩ := tokOk_cont h
  rw [jn, h1, h2, Bool.or_false]
theorem digs_tok (n : Nat) : tokOk (digs n) = true := by
  induction n using Nat.strongRecOn with
  | ind n ih =>
  by_cases h : n < 10
  · rw [digs_small h]
    have : ∀ k : Fin 10, tokOk [UInt8.ofNat (48 + k.val)] = true := by decide
    exact this ⟨n, h⟩
  · rw [digs_big h]
    have := ih (n / 10) (by omega)
    cases hd : digs (n / 10) with
    | nil => rw [hd] at this; cases this
    | cons c l => rw [hd] at this; exact this
theorem dg_tok (n : Int) : tokOk (dg n) = true := digs_tok _
def numsR : List (Bool × Int) → Str
  | [] => []
  | f :: l => (bif f.1 then 32 :: dg f.2 else []) ++ numsR l
theorem jn_nums : ∀ (fs : List (Bool × Int)) (l : List Str), jn false (numsT fs ++ l) = numsR fs ++ jn false l
  | [], l => rfl
  | f :: fs, l => by
    rw [numsT, numsR, List.append_assoc, List.append_assoc]
    cases f.1
    · exact jn_nums fs l
    · show jn false (dg f.2 :: (numsT fs ++ l)) = _
      rw [jn_tok (dg_tok _), jn_nums fs l]; rfl
theorem jn_close (l : List Str) : jn false ([41] :: l) = 41 :: jn false l := rfl
theorem jn_semi (l : List Str) : jn false ([59] :: l) = 59 :: jn false l := rfl
theorem jn_open (l : List Str) : jn false ([40] :: l) = 40 :: jn true l := rfl
theorem jn_comma (l : List Str) : jn false ([44] :: l) = 44 :: jn false l := rfl
theorem jn_cond : ∀ c : Cond, c.pv → ∀ (b : Bool) (l : List Str), jn b (tkP c ++ l) = (bif b then [] else [32]) ++ (prR c ++ jn false l) := by
  intro c
  induction c using Cond.ind with
  | h k a b mi ma pat nl kids ih =>
  intro h b0 l
  rw [Cond.pv] at h
  obtain ⟨h1, _, _, _, _, _, h7, _, h9⟩ := h
  have hk : ∀ ks : List Cond, (∀ x ∈ ks, x ∈ kids) → ∀ (f : Bool) (l : List Str), jn false (tkPL f ks ++ l) = prRL f ks ++ jn false l := by
    intro ks
    induction ks with
    | nil => intro _ f l; rfl
    | cons c ks ihk =>
      intro hm f l
      have hc := ih c (hm c (List.mem_cons_self ..)) (h9 c (hm c (List.mem_cons_self ..)))
      have hr := ihk fun x hx => hm x (List.mem_cons_of_mem _ hx)
      rw [tkPL, prRL]
      cases f
      · show jn false ([44] :: (tkP c ++ tkPL false ks ++ l)) = _
        rw [jn_comma, List.append_assoc, hc, hr]
        simp [List.append_assoc]
      · show jn false ([40] :: (tkP c ++ tkPL false ks ++ l)) = _
        rw [jn_open, List.append_assoc, hc, hr]
        simp [List.append_assoc]
  rw [tkP, prR, List.cons_append, jn_tok (kd_tok h1).2]
  simp only [List.append_assoc]
  rw [jn_nums]
  have hp : ∀ l : List Str, jn false ((bif (usesOf (kdOf k)).pat then [pat] else []) ++ l) = (bif (usesOf (kdOf k)).pat then 32 :: pat else []) ++ jn false l := fun l => by
    cases hu : (usesOf (kdOf k)).pat
    · rfl
    · show jn false (pat :: l) = _
      rw [jn_tok (h7 hu)]; rfl
  have hcl : ∀ l : List Str, jn false ((bif (usesOf (kdOf k)).kids then [[41]] else []) ++ l) = (bif (usesOf (kdOf k)).kids then [41] else []) ++ jn false l := fun l => by
    cases (usesOf (kdOf k)).kids
    · rfl
    · exact jn_close l
  rw [hp, hk kids (fun _ h => h), hcl]
  cases b0 <;> simp [numsR, List.append_assoc]
def tkS (s : Step) : List Str := tkP s.cond ++ ((bif s.times != 1 then [[116, 105, 109, 101, 115], dg s.times] else []) ++ ((bif s.within != 0 then [[119, 105, 116, 104, 105, 110], dg s.within] else []) ++ [[59]]))
def tkSL : List Step → List Str
  | [] => []
  | s :: l => tkS s ++ tkSL l
def toksP (p : Prog) : List Str := [108, 105, 110, 101, 115] :: dg p.lines :: [59] :: tkSL p.steps
theorem jn_steps : ∀ l : List Step, (∀ s ∈ l, s.pv) → jn false (tkSL l) = prSL l
  | [], _ => rfl
  | s :: l, h => by
    have hc := jn_cond s.cond (h s (List.mem_cons_self ..)).1
    have hr := jn_steps l fun x hx => h x (List.mem_cons_of_mem _ hx)
    rw [tkSL, prSL, tkS, prS, List.append_assoc, hc]
    cases s.times != 1 <;> cases s.within != 0 <;> simp only [cond_true, cond_false, List.append_assoc, List.cons_append, List.nil_append, List.append_nil]
    · rw [jn_semi, hr]
    · rw [jn_tok (by rfl), jn_tok (dg_tok _), jn_semi, hr]; simp [List.append_assoc]
    · rw [jn_tok (by rfl), jn_tok (dg_tok _), jn_semi, hr]; simp [List.append_assoc]
    · rw [jn_tok (by rfl), jn_tok (dg_tok _), jn_tok (by rfl), jn_tok (dg_tok _), jn_semi, hr]; simp [List.append_assoc]
theorem jn_prog {p : Prog} (h : p.pv) : jn true (toksP p) = textR p := by
  rw [toksP, textR, jn_tok (by rfl), jn_tok (dg_tok _), jn_semi, jn_steps _ h.2.2]; simp [List.append_assoc]
end Go.Am
