/- A part of the proof of a statement of this seat: the machine on which the program is read, and what it computes; for every input. -/
import Derived.Test.YtaoeblefgefgpaaGreatDoorC05
import Derived.Test.YtaoeblefgefgpaaGreatDoorC06
import Derived.Test.YtaoeblefgefgpaaGreatDoorC03
import Derived.Test.YtaoeblefgefgpaaGreatDoorC04
set_option linter.all false
set_option linter.all false
namespace Go.Am
open Go Go.Proofs
set_option maxRecDepth 100000
noncomputable instance seatStat : Stat := { ok := fun m c => ∃ n, n ≤ m ∧ okC W0 n c = true ∧ noRF c = true, spec := fun t => Nat.beq t 354, count := false, w := W0 }
theorem gbU_ge {n : Nat} (h : 10 ≤ n) : gbU n = none := by
  unfold gbU gcell
  split
  · rename_i h1
    split at h1
    · omega
    · cases h1
  · rfl
theorem U_und (t : TypeId) : U.und t = Tryz.prog.underlying t := by unfold U; rfl
theorem U_inf (t : TypeId) : U.inf t = Tryz.prog.info? t := by unfold U; rfl
theorem U_ext (f : FuncId) : U.ext f = extU f := by unfold U; rfl
theorem U_pure (f : FuncId) : U.pure f = pures.contains f := by unfold U; rfl
theorem U_gbase (g : Nat) : U.gbase g = gbU g := by unfold U; rfl
theorem U_glob : U.glob = 10 := by unfold U; rfl
theorem U_fn (f : FuncId) : U.fn f = Tryz.prog.funcs[f]? := by unfold U; rfl

/-- a function's body, resolved, and where its results stand -/
noncomputable def fnRC (f : FuncId) : Option (List ResultVar × RC) := match U.fn f with
  | some fn => match fn.body with
    | some c => some (fn.results.toList, rc U c)
    | none => none
  | none => none
theorem fnRC_some {f : FuncId} {rs : List ResultVar} {r : RC} (h : fnRC f = some (rs, r)) : ∃ fn c, U.fn f = some fn ∧ fn.body = some c ∧ fn.results.toList = rs ∧ rc U c = r := by
  unfold fnRC at h
  split at h
  · rename_i fn hf
    split at h
    · rename_i c hb
      cases h
      exact ⟨fn, c, hf, hb, rfl, rfl⟩
    · cases h
  · cases h
noncomputable def isPure (f : FuncId) : Bool := pures.contains f && (extU f).isNone
noncomputable def isKept (f : FuncId) : Bool := !pures.contains f && (extU f).isNone
theorem isPure_of {f : FuncId} (h : isPure f = true) : U.pure f = true ∧ U.ext f = none := by
  rw [isPure, Bool.and_eq_true, Option.isNone_iff_eq_none] at h
  rw [U_pure, U_ext]; exact h
theorem isKept_of {f : FuncId} (h : isKept f = true) : U.pure f = false ∧ U.ext f = none := by
  rw [isKept, Bool.and_eq_true, Option.isNone_iff_eq_none] at h
  rw [U_pure, U_ext]; exact ⟨by have := h.1; simpa using this, h.2⟩

/-- a call in a state of its own, of values that nobody writes -/
theorem pure_go {f : FuncId} {rs : List ResultVar} {r : RC} (h : fnRC f = some (rs, r)) (hp : isPure f = true) {args : List AV} (hst : stills args = true) {v : AV}
    (hg : go U (finP U rs) [] r (bindArgs 0 args .nil) (ownSt U) = some v) : calV U f args = some v := by
  obtain ⟨fn, c, h1, h2, h3, h4⟩ := fnRC_some h
  obtain ⟨p1, p2⟩ := isPure_of hp
  exact calV_pure U p2 p1 h1 h2 h3 h4 hst hg
/-- a call in the state at hand -/
theorem kept_go {f : FuncId} {rs : List ResultVar} {r : RC} (h : fnRC f = some (rs, r)) (hp : isKept f = true) {args : List AV} {s : St} {x : AV × St}
    (hg : go U (finB U rs) [] r (bindArgs 0 args .nil) s = some x) : cal U f args s = some x := by
  obtain ⟨fn, c, h1, h2, h3, h4⟩ := fnRC_some h
  obtain ⟨p1, p2⟩ := isKept_of hp
  unfold cal callF
  rw [p2, p1]
  exact callB_go U h1 h2 h3 h4 hg
/-- with what stands in memory -/
theorem z_of {f : FuncId} (hp : isPure f = true) {args : List AV} (s : St) (hst : stills args = false) : callK U (calV U f args) f args s = calZ U f (mapO (frz U s 4000) args) s :=
  cal_calZ U s (isPure_of hp).2 (isPure_of hp).1 hst
def gateZ (p : Bool) (x : Option (AV × St)) (s : St) : Option (AV × St) := bif p then x else some (undef, s)
theorem gateZ_some (p : Bool) (v : AV) (s : St) : gateZ p (some (v, s)) s = some (bif p then v else undef, s) := by cases p <;> rfl
theorem gateZ_true (x : Option (AV × St)) (s : St) : gateZ true x s = x := (fun h => h) rfl
theorem gateZ_false (x : Option (AV × St)) (s : St) : gateZ false x s = some (undef, s) := (fun h => h) rfl
theorem zg_of {f : FuncId} (hp : isPure f = true) {p : Bool} {args : List AV} (s : St) (hst : stills args = false) : gateC U p (calV U f args) f args s = gateZ p (calZ U f (mapO (frz U s 4000) args) s) s := by
  unfold gateC gateZ
  rw [z_of hp s hst]
theorem flat_frz (s : St) : ∀ (d : Nat) (v v' : AV), frz U s d v = some v' → flat v' = true → v = v' := by
  intro d
  induction d with
  | zero => intro v v' h; simp [frz] at h
  | succ d ih =>
    intro v v' h hf
    have hl : ∀ (l l' : List AV), mapO (frz U s d) l = some l' → flats l' = true → l = l' := by
      intro l
      induction l with
      | nil => intro l' h _; simp only [mapO] at h; cases h; rfl
      | cons x l ihl =>
        intro l' h hf
        simp only [mapO] at h
        split at h
        · rename_i y r h1 h2
          cases h
          simp only [flats, Bool.and_eq_true] at hf
          rw [ih _ _ h1 hf.1, ihl _ h2 hf.2]
        · cases h
    cases v with
    | ptr b o =>
      rw [frz_ptr] at h
      unfold frzP at h
      split at h
      · simp only [fpK, Option.map_eq_some_iff] at h
        obtain ⟨_, _, rfl⟩ := h
        simp [flat] at hf
      · cases h
    | sl b o len cap esz =>
      rw [frz_sl] at h
      unfold frzS frzT fzK at h
      split at h
      · split at h
        · split at h
          · simp only [Option.map_eq_some_iff] at h
            obtain ⟨_, _, rfl⟩ := h
            simp [flat] at hf
          · cases h
        · cases h
      · cases h
    | map r =>
      simp only [frz] at h
      split at h
      · split at h
        · cases h; simp [flat] at hf
        · cases h
      · cases h
    | fn f x y =>
      simp only [frz] at h
      split at h
      · split at h
        · rename_i x' y' h1 h2
          cases h
          simp only [flat, Bool.and_eq_true] at hf
          rw [hl _ _ h1 hf.1.2, hl _ _ h2 hf.2]
        · cases h
      · cases h
    | iface t x =>
      simp only [frz] at h
      split at h
      · rename_i x' h1
        cases h
        simp only [flat] at hf
        rw [ih _ _ h1 hf]
      · cases h
    | agg cs =>
      simp only [frz] at h
      split at h
      · rename_i x' h1
        cases h
        simp only [flat] at hf
        rw [hl _ _ h1 hf]
      · cases h
    | tup cs =>
      simp only [frz] at h
      split at h
      · rename_i x' h1
        cases h
        simp only [flat] at hf
        rw [hl _ _ h1 hf]
      · cases h
    | chan r => simp [frz] at h
    | _ => simp only [frz] at h; cases h; rfl
/-- the calls that the machine runs by itself -/
theorem v_of_q {f : FuncId} (hp : isPure f = true) {args : List AV} (hst : stills args = true) {v : AV} (h : callQ U (execL U) f args true = some v) : calV U f args = some v := by
  refine calV_of fun s => ?_
  obtain ⟨p1, p2⟩ := isPure_of hp
  unfold cal callF
  rw [p2]
  simp only [p1, if_true, callP, frzArgs, hst, h]
theorem und_3 : U.und 3 = some (.int .i64) := by kernel_rfl
theorem und_4 : U.und 4 = some (.bool) := by kernel_rfl
theorem und_5 : U.und 5 = some (.int .u8) := by kernel_rfl
theorem und_9 : U.und 9 = some (.string) := by kernel_rfl
theorem und_27 : U.und 27 = some (.int .i64) := by kernel_rfl
theorem ag_3 : isAggT U 3 = some false := by kernel_rfl
theorem sz_3 : size U 3 = some 1 := by kernel_rfl
theorem ag_4 : isAggT U 4 = some false := by kernel_rfl
theorem sz_4 : size U 4 = some 1 := by kernel_rfl
theorem ag_5 : isAggT U 5 = some false := by kernel_rfl
theorem sz_5 : size U 5 = some 1 := by kernel_rfl
theorem ag_9 : isAggT U 9 = some false := by kernel_rfl
theorem sz_9 : size U 9 = some 1 := by kernel_rfl
theorem ag_27 : isAggT U 27 = some false := by kernel_rfl
theorem sz_27 : size U 27 = some 1 := by kernel_rfl
theorem ag_22 : isAggT U 22 = some false := by kernel_rfl
theorem sz_22 : size U 22 = some 1 := by kernel_rfl
theorem ag_23 : isAggT U 23 = some false := by kernel_rfl
theorem sz_23 : size U 23 = some 1 := by kernel_rfl
theorem ag_30 : isAggT U 30 = some false := by kernel_rfl
theorem sz_30 : size U 30 = some 1 := by kernel_rfl
theorem ag_34 : isAggT U 34 = some false := by kernel_rfl
theorem sz_34 : size U 34 = some 1 := by kernel_rfl
theorem ag_79 : isAggT U 79 = some false := by kernel_rfl
theorem sz_79 : size U 79 = some 1 := by kernel_rfl
theorem ag_159 : isAggT U 159 = some false := by kernel_rfl
theorem sz_159 : size U 159 = some 1 := by kernel_rfl
theorem ag_191 : isAggT U 191 = some false := by kernel_rfl
theorem sz_191 : size U 191 = some 1 := by kernel_rfl
theorem ag_203 : isAggT U 203 = some false := by kernel_rfl
theorem sz_203 : size U 203 = some 1 := by kernel_rfl
theorem ag_42 : isAggT U 42 = some true := by kernel_rfl
theorem sz_42 : size U 42 = some 5 := by kernel_rfl
theorem ag_43 : isAggT U 43 = some true := by kernel_rfl
theorem sz_43 : size U 43 = some 5 := by kernel_rfl
theorem ag_85 : isAggT U 85 = some true := by kernel_rfl
theorem sz_85 : size U 85 = some 2 := by kernel_rfl
theorem ag_99 : isAggT U 99 = some true := by kernel_rfl
theorem sz_99 : size U 99 = some 2 := by kernel_rfl
theorem ag_193 : isAggT U 193 = some true := by kernel_rfl
theorem sz_193 : size U 193 = some 2 := by kernel_rfl
attribute [go_sem ↓] gateZ_true gateZ_false
attribute [go_sem] gateZ_some Int.reduceBEq Int.reduceBNe Int.reduceAdd U_glob und_3 und_4 und_5 und_9 und_27 ag_3 sz_3 ag_4 sz_4 ag_5 sz_5 ag_9 sz_9 ag_27 sz_27 ag_22 sz_22 ag_23 sz_23 ag_30 sz_30 ag_34 sz_34 ag_79 sz_79 ag_159 sz_159 ag_191 sz_191 ag_203 sz_203 ag_42 sz_42 ag_43 sz_43 ag_85 sz_85 ag_99 sz_99 ag_193 sz_193
end Go.Am
set_option linter.all false
namespace Go.Am
open Go Go.Proofs
set_option maxRecDepth 100000
theorem ld_42 (a : AV) (s : St) : loadA U 42 a s = ldn 5 a s := loadA_n U ag_42 sz_42 a s
theorem ld_43 (a : AV) (s : St) : loadA U 43 a s = ldn 5 a s := loadA_n U ag_43 sz_43 a s
theorem ld_85 (a : AV) (s : St) : loadA U 85 a s = ldn 2 a s := loadA_n U ag_85 sz_85 a s
theorem ld_99 (a : AV) (s : St) : loadA U 99 a s = ldn 2 a s := loadA_n U ag_99 sz_99 a s
theorem ld_193 (a : AV) (s : St) : loadA U 193 a s = ldn 2 a s := loadA_n U ag_193 sz_193 a s
theorem gateV_false (x : Option AV) (s : St) : gateV false x s = some (undef, s) := (fun h => h) rfl
theorem gateC_false (X : Cx) (x : Option AV) (f : FuncId) (args : List AV) (s : St) : gateC X false x f args s = some (undef, s) := (fun h => h) rfl
theorem gateV_true (x : Option AV) (s : St) : gateV true x s = pureO x s := (fun h => h) rfl
theorem gateC_true (X : Cx) (x : Option AV) (f : FuncId) (args : List AV) (s : St) : gateC X true x f args s = callK X x f args s := (fun h => h) rfl
def St.upto (s : St) (k : Nat) : St := { s with next := k }
theorem upto_get (s : St) (k j : Nat) : (s.upto k).get j = s.get j := (fun h => h) rfl
theorem upto_next (s : St) (k : Nat) : (s.upto k).next = k := (fun h => h) rfl
theorem go_drw_upto {X : Cx} {β : Type} (fin : Fl → β) (ks : List K) (e : Env) (s : St) (n : Nat) (l : List RO) : go X fin ks (.drw n l) e s = bif noneR s.next s l then goD' X fin ks s.next l e (s.upto (s.next + n)) else stuck X fin ks := go_drw X fin ks e s n l
theorem gb_none {n : Nat} (h : 10 ≤ n) : U.gbase n = none := by
  rw [U_gbase]; exact gbU_ge h
/-- no block stands yet from the counter on -/
def Fr (s : St) : Prop := ∀ j, s.next ≤ j → s.get j = none
theorem Fr.at {s : St} (h : Fr s) (k : Nat) : s.get (s.next + k) = none := h _ (by omega)
theorem Fr.own : Fr (ownSt U) := fun j hj => by
  rw [own_get]; rw [own_next, U_glob] at hj; exact gb_none hj
theorem Fr.new {s : St} (h : Fr s) (x : Blk) : Fr (s.new x) := fun j hj => by
  rw [next_new] at hj; rw [get_new, if_neg (by omega)]; exact h j (by omega)
theorem Fr.put {s : St} (h : Fr s) {k : Nat} (hk : k < s.next) (x : Blk) : Fr (s.put k x) := fun j hj => by
  rw [next_put] at hj; rw [get_put, if_neg (by omega)]; exact h j (by omega)
theorem Fr.upto {s : St} (h : Fr s) {k : Nat} (hk : s.next ≤ k) : Fr (s.upto k) := fun j hj => by
  rw [upto_next] at hj; rw [upto_get]; exact h j (by omega)
attribute [go_sem ↓ high] go_drw_upto
attribute [go_sem ↓] upto_get upto_next
attribute [go_sem] Option.isNone_none gb_none
attribute [go_sem ↓] gateV_false gateC_false gateV_true gateC_true
attribute [go_sem] ld_42 ld_43 ld_85 ld_99 ld_193
end Go.Am
set_option linter.all false
namespace Go.Am
open Go
set_option maxRecDepth 100000
/-! # Rows that grow by append -/
section
variable (X : Cx)
def srcG (len : Nat) (x : Option (List AV)) : Option (Nat × List AV) := match x with
  | some r => some (len, r)
  | none => none
def srcK (len k o : Nat) (x : Option (List AV)) : Option (Nat × List AV) := match x with
  | some c => srcG len (grab k o c)
  | none => none
theorem srcG_some (len : Nat) (r : List AV) : srcG len (some r) = some (len, r) := (fun h => h) rfl
theorem srcK_some (len k o : Nat) (c : List AV) : srcK len k o (some c) = srcG len (grab k o c) := (fun h => h) rfl
theorem source_sl (n b o len : Nat) (cap : Option Nat) (z : Nat) (s : St) : sourceA n (.sl b o len cap z) s = srcK len (len * n) o (cellsOf (s.get b)) := by
  simp only [sourceA, ← cells_get, srcK, srcG]
  rfl
theorem source_nils (n : Nat) (s : St) : sourceA n .nils s = some (0, []) := (fun h => h) rfl
theorem source_str (n : Nat) (l : List UInt8) (s : St) : sourceA n (.str l) s = some (l.length, l.map fun c => .int .u8 c.toNat) := (fun h => h) rfl

def appS (t : TypeId) (n m : Nat) (new : List AV) (b o len : Nat) (esz : Nat) (s : St) (x : Option Blk) : Option (AV × St) := match x with
  | some (.cells c e0 false flo fhi) => match grab (len * n) o c with
    | some old => if esz = n ∧ fhi ≤ o + len * n ∧ e0 = t ∧ new.all noAgg = true then
        some (.sl s.next 0 (len + m) none n, (s.put b .gone).new (.cells (old ++ new) t false (flo - o) (fhi - o)))
      else none
    | none => none
  | _ => none
def appD (t : TypeId) (n m : Nat) (new : List AV) (d : AV) (s : St) : Option (AV × St) := match d with
  | .nils => some (.sl s.next 0 m none n, s.new (.cells new t false 0 0))
  | .sl b o len cap esz => match s.cells b with
    | some c => match grab (len * n) o c with
      | some old =>
        match cap with
        | some k => if len + m ≤ k then
            if esz = n then match writeCells s b (o + len * n) new with
              | some s' => some (.sl b o (len + m) (some k) n, s')
              | none => none
            else none
          else some (.sl s.next 0 (len + m) none n, s.new (.cells (old ++ new) t false 0 0))
        | none => match s.get b with
          | some (.cells _ e0 false flo fhi) =>
            if esz = n ∧ fhi ≤ o + len * n ∧ e0 = t ∧ new.all noAgg = true then
              some (.sl s.next 0 (len + m) none n, (s.put b .gone).new (.cells (old ++ new) t false (flo - o) (fhi - o)))
            else none
          | _ => none
      | none => none
    | none => none
  | _ => none
def app0 (d : AV) (s : St) : Option (AV × St) := match d with
  | .nils => some (d, s)
  | .sl .. => some (d, s)
  | .fz _ => some (d, s)
  | _ => none
def appK (t : TypeId) (n bytes : Nat) (d : AV) (x : Option (Nat × List AV)) (s : St) : Option (AV × St) := match x with
  | some (m, new) =>
    if new.length ≠ m * n ∨ (lenA d + m) * bytes > 2 ^ 47 ∨ lenA d + m > 2 ^ 47 then none
    else if m = 0 then app0 d s else appD t n m new d s
  | none => none
theorem app_eq (t : TypeId) (n bytes : Nat) (d x : AV) (s : St) : appR t n bytes d x s = appK t n bytes d (sourceA n x s) s := by
  unfold appR appK appD app0
  rfl
theorem appK_some {t : TypeId} {n bytes : Nat} {d : AV} {m : Nat} {new : List AV} {s : St} (h1 : new.length = m * n) (h2 : (lenA d + m) * bytes ≤ 2 ^ 47) (h3 : lenA d + m ≤ 2 ^ 47) (h4 : m ≠ 0) :
    appK t n bytes d (some (m, new)) s = appD t n m new d s := by
  simp only [appK]
  rw [if_neg (by omega), if_neg h4]
theorem appD_nils (t : TypeId) (n m : Nat) (new : List AV) (s : St) : appD t n m new .nils s = some (.sl s.next 0 m none n, s.new (.cells new t false 0 0)) := (fun h => h) rfl
theorem appD_sl (t : TypeId) (n m : Nat) (new : List AV) (b o len esz : Nat) (s : St) : appD t n m new (.sl b o len none esz) s = appS t n m new b o len esz s (s.get b) := by
  simp only [appD, appS, St.cells]
  cases s.get b with
  | none => rfl
  | some x =>
    cases x <;> simp only
    rename_i c e0 ro lo hi
    cases ro <;> simp only
    cases grab (len * n) o c <;> rfl
theorem appS_cells {t : TypeId} {n m : Nat} {new : List AV} {b len : Nat} {s : St} {cs : List AV} {lo hi : Nat} (hl : cs.length = len * n) (hh : hi ≤ len * n) (hna : new.all noAgg = true) :
    appS t n m new b 0 len n s (some (.cells cs t false lo hi)) = some (.sl s.next 0 (len + m) none n, (s.put b .gone).new (.cells (cs ++ new) t false lo hi)) := by
  simp only [appS]
  rw [← hl, grab_all]
  simp only [true_and]
  rw [if_pos ⟨by omega, hna⟩]
  simp
theorem lenA_nils : lenA .nils = 0 := (fun h => h) rfl
theorem lenA_sl (b o n : Nat) (c : Option Nat) (z : Nat) : lenA (.sl b o n c z) = n := (fun h => h) rfl
theorem lenA_fz (l : List AV) : lenA (.fz l) = l.length := (fun h => h) rfl

/-- a row made by appends: its cells cs, i elements of n cells; its block lies from B on -/
def RowI (s : St) (B : Nat) (t : TypeId) (n i : Nat) (cs : List AV) (v : AV) : Prop :=
  (i = 0 ∧ v = .nils ∧ cs = []) ∨ (0 < i ∧ cs.length = i * n ∧ ∃ b, B ≤ b ∧ b < s.next ∧ v = .sl b 0 i none n ∧ s.get b = some (.cells cs t false 0 0))
theorem RowI.nil (s : St) (B : Nat) (t : TypeId) (n : Nat) : RowI s B t n 0 [] .nils := .inl ⟨rfl, rfl, rfl⟩
theorem RowI.noAgg {s : St} {B : Nat} {t : TypeId} {n i : Nat} {cs : List AV} {v : AV} (h : RowI s B t n i cs v) : noAgg v = true := by
  rcases h with ⟨_, rfl, _⟩ | ⟨_, _, b, _, _, rfl, _⟩ <;> rfl
theorem RowI.cells {s : St} {B : Nat} {t : TypeId} {n i : Nat} {cs : List AV} {v : AV} (h : RowI s B t n i cs v) : v.cells = [v] := by
  rcases h with ⟨_, rfl, _⟩ | ⟨_, _, b, _, _, rfl, _⟩ <;> rfl
theorem RowI.len {s : St} {B : Nat} {t : TypeId} {n i : Nat} {cs : List AV} {v : AV} (h : RowI s B t n i cs v) : lenRL v = some (.int .i64 i) := by
  rcases h with ⟨rfl, rfl, _⟩ | ⟨_, _, b, _, _, rfl, _⟩ <;> rfl

theorem RowI.lenA {s : St} {B : Nat} {t : TypeId} {n i : Nat} {cs : List AV} {v : AV} (h : RowI s B t n i cs v) : Go.Am.lenA v = i := by
  rcases h with ⟨rfl, rfl, _⟩ | ⟨_, _, b, _, _, rfl, _⟩ <;> rfl
theorem RowI.mono {s s' : St} {B : Nat} {t : TypeId} {n i : Nat} {cs : List AV} {v : AV} (h : RowI s B t n i cs v) (hn : s.next ≤ s'.next) (hg : ∀ j, B ≤ j → j < s.next → s'.get j = s.get j) : RowI s' B t n i cs v := by
  rcases h with ⟨h0, h1, h2⟩ | ⟨h0, h1, b, h2, h3, h4, h5⟩
  · exact .inl ⟨h0, h1, h2⟩
  · exact .inr ⟨h0, h1, b, h2, by omega, h4, by rw [hg b h2 h3]; exact h5⟩
/-- one append more -/
theorem RowI.app {s : St} {B : Nat} {t : TypeId} {n i : Nat} {cs : List AV} {v : AV} (h : RowI s B t n i cs v) (hB : B ≤ s.next) {m : Nat} {new : List AV} (hm : m ≠ 0) (hl : new.length = m * n) (hna : new.all Go.Am.noAgg = true) :
    ∃ s1, appD t n m new v s = some (.sl s.next 0 (i + m) none n, s1) ∧ s1.next = s.next + 1 ∧ RowI s1 B t n (i + m) (cs ++ new) (.sl s.next 0 (i + m) none n) ∧ (∀ j, j < B → s1.get j = s.get j) ∧ (Fr s → Fr s1) := by
  rcases h with ⟨rfl, rfl, rfl⟩ | ⟨h0, h1, b, h2, h3, rfl, h5⟩
  · refine ⟨s.new (.cells new t false 0 0), by rw [appD_nils, Nat.zero_add], rfl, .inr ⟨by omega, by rw [Nat.zero_add, List.nil_append]; exact hl, s.next, hB, by rw [next_new]; omega, rfl, by rw [get_new, if_pos rfl]; rfl⟩, fun j hj => by rw [get_new, if_neg (by omega)], fun hf => hf.new _⟩
  · refine ⟨(s.put b .gone).new (.cells (cs ++ new) t false 0 0), by rw [appD_sl, h5, appS_cells h1 (by omega) hna], rfl, .inr ⟨by omega, by rw [List.length_append, h1, hl, Nat.add_mul], s.next, hB, by rw [next_new, next_put]; omega, rfl, ?_⟩, fun j hj => ?_, fun hf => (hf.put h3 _).new _⟩
    · rw [get_new, next_put, if_pos rfl]
    · rw [get_new, next_put, if_neg (by omega), get_put, if_neg (by omega)]
/-- elements of n cells each, written out -/
theorem chunks_enc {A : Type} (enc : A → AV) (n : Nat) (hc : ∀ a, ∃ c, enc a = .agg c ∧ c.length = n) : ∀ l : List A, chunksA true n l.length (l.flatMap fun a => (enc a).cells) = l.map enc
  | [] => rfl
  | a :: l => by
    obtain ⟨c, h1, h2⟩ := hc a
    have ih := chunks_enc enc n hc l
    rw [List.length_cons, chunks_agg, List.flatMap_cons, h1, cells_agg, List.map_cons, h1]
    rw [show (c ++ l.flatMap fun a => (enc a).cells).take n = c from by rw [← h2, List.take_left], show (c ++ l.flatMap fun a => (enc a).cells).drop n = l.flatMap fun a => (enc a).cells from by rw [← h2, List.drop_left], ih]
theorem mapO_self {f : AV → Option AV} : ∀ {l : List AV}, (∀ x ∈ l, f x = some x) → mapO f l = some l
  | [], _ => rfl
  | x :: l, h => by
    rw [mapO, h x (List.mem_cons_self ..), mapO_self fun y hy => h y (List.mem_cons_of_mem _ hy)]
theorem flatEnc_len {A : Type} (enc : A → AV) (n : Nat) (hc : ∀ a, ∃ c, enc a = .agg c ∧ c.length = n) : ∀ l : List A, (l.flatMap fun a => (enc a).cells).length = l.length * n
  | [] => by simp
  | a :: l => by
    obtain ⟨c, h1, h2⟩ := hc a
    rw [List.flatMap_cons, List.length_append, flatEnc_len enc n hc l, h1, cells_agg, h2, List.length_cons, Nat.add_mul]; omega
theorem RowI.frz_agg {s : St} {B : Nat} {t : TypeId} {n : Nat} {A : Type} {enc : A → AV} {l : List A} {v : AV} (h : RowI s B t n l.length (l.flatMap fun a => (enc a).cells) v) (hag : isAggT X t = some true) (hsz : size X t = some n) (hn : n ≠ 0)
    (hc : ∀ a, ∃ c, enc a = .agg c ∧ c.length = n) {d : Nat} (hf : ∀ a, frz X s d (enc a) = some (enc a)) : frz X s (d + 1) v = some (encS true (l.map enc)) := by
  rcases h with ⟨h0, rfl, _⟩ | ⟨h0, h1, b, _, _, rfl, hg⟩
  · have : l = [] := List.length_eq_zero_iff.1 h0
    subst this; rfl
  · rw [frz_sl, hg, frzS_cells, ← h1, grab_all, hag, hsz]
    cases n with
    | zero => exact absurd rfl hn
    | succ n =>
      rw [frzT_agg, chunks_enc enc (n + 1) hc, mapO_self (fun x hx => ?_), fzK_some]
      · cases l with
        | nil => simp at h0
        | cons a l => rfl
      · obtain ⟨a, _, rfl⟩ := List.mem_map.1 hx
        exact hf a
theorem RowI.frz_one {s : St} {B : Nat} {t : TypeId} {l : List AV} {v : AV} (h : RowI s B t 1 l.length l v) (hag : isAggT X t = some false) (hsz : size X t = some 1) (hna : l.all Go.Am.noAgg = true)
    {d : Nat} {r : List AV} (hf : mapO (frz X s d) l = some r) : frz X s (d + 1) v = some (encS true r) := by
  rcases h with ⟨h0, rfl, _⟩ | ⟨h0, h1, b, _, _, rfl, hg⟩
  · have : l = [] := List.length_eq_zero_iff.1 h0
    subst this
    simp only [mapO] at hf; cases hf; rfl
  · rw [frz_sl, hg, frzS_cells, Nat.mul_one, grab_all, hag, hsz, frzT_one, if_pos hna, chunks_all, hf, fzK_some]
    cases r with
    | nil =>
      exfalso
      cases l with
      | nil => simp at h0
      | cons a l =>
        simp only [mapO] at hf
        split at hf <;> cases hf
    | cons a r => rfl
end
attribute [go_sem] srcG_some srcK_some source_sl source_nils source_str app_eq appD_nils appD_sl lenA_nils lenA_sl lenA_fz
end Go.Am
set_option linter.unusedSimpArgs false
set_option linter.unusedVariables false
set_option linter.unusedSectionVars false
namespace Go.Am
open Go
/-! # Drawn regions with reads whose place among the writes is open: such a read is looked at in each state that it may find -/

/-- a read to be looked at again: in the states lo to hi, with its value -/
structure Pb where
  lo : Nat
  hi : Nat
  e : Env
  op : ROp
  v : AV

def pb1 (v : AV) (x : Option (AV × St)) : Bool := match x with
  | some (u, _) => same u v
  | none => false

section
variable (X : Cx)
noncomputable def pbL (base : Nat) (e : Env) (op : ROp) (v : AV) : List St → Bool
  | [] => true
  | s :: l => pb1 v (rop X base none e s op) && pbL base e op v l
noncomputable def pbsOk (base : Nat) (H : List St) : List Pb → Bool
  | [] => true
  | p :: P => pbL X base p.e p.op p.v ((H.take (p.hi + 1)).drop p.lo) && pbsOk base H P

abbrev ROC := RO × Option (Nat × Nat)
def noneC (base : Nat) (s : St) (l : List ROC) : Bool := noneR base s (l.map Prod.fst)
def addP (c : Option (Nat × Nat)) (e : Env) (op : ROp) (v : AV) (P : List Pb) : List Pb := match c with
  | some (lo, hi) => ⟨lo, hi, e, op, v⟩ :: P
  | none => P

noncomputable def ropsC (base : Nat) : List ROC → Env → St → List St → List Pb → Option (Env × St)
  | [], e, s, H, P => bif pbsOk X base H P then some (e, s) else none
  | (o, c) :: l, e, s, H, P => match (bif wantR e o.g then rop X base o.at_ e s o.op else some (undef, s)) with
    | some (v, s') => bif !o.w || noneC base s' l then ropsC base l (setDst e o.d v) s' (bif o.w then H ++ [s'] else H) (addP c e o.op v P) else none
    | none => none

def calmI (ops : Array Oper) (i : Nat) : Bool :=
  (aIdx X 0 ops.toList).all (fun k => !decide (k < i) || bef ops k i) && (wIdx X ops 0 ops.toList).all (fun k => bef ops k i || bef ops i k)
def opC (ops : Array Oper) (i : Nat) : Option (Nat × Nat) := match ops[i]? with
  | some o => if ((cls X o.op).isR || (match cls X o.op with | .q => true | _ => false)) && !calmI X ops i then
      some (countL (fun j => bef ops j i) (wIdx X ops 0 ops.toList), countL (fun j => !bef ops i j) (wIdx X ops 0 ops.toList)) else none
  | none => none
def csD (ops : Array Oper) : List (Option (Nat × Nat)) := (List.range ops.size).map (opC X ops)
def openD (ops : Array Oper) : Bool :=
  !lateReg X ops && (List.range ops.size).all fun i => match ops[i]? with
    | some o => !((cls X o.op).isR || (match cls X o.op with | .q => true | _ => false)) || calmI X ops i ||
      ((cls X o.op).isR && (o.guard.isNone && (aIdx X 0 ops.toList).all fun k => !bef ops k i))
    | none => true

def rcDrc : Code → Option (Nat × List ROC)
  | .region _ ops d => if d && openD X ops && okD X ops then match rcOps X ops true 0 ops.toList with
      | some l => some (ops.size, l.zip (csD X ops))
      | none => none
      else none
  | _ => none
end

section
variable [Stat]
variable {X : Cx} {ops : Array Oper} {base : Nat}

theorem rcOps_length {b : Bool} : ∀ (l : List Oper) (i : Nat) (r : List RO), rcOps X ops b i l = some r → r.length = l.length
  | [], i, r, h => by simp only [rcOps] at h; cases h; rfl
  | o :: l, i, r, h => by
    simp only [rcOps] at h
    split at h
    · rename_i g r' h1 h2
      cases h
      simp [rcOps_length l (i + 1) r' h2]
    · cases h

theorem ropsC_D {r : Env × St} : ∀ (l : List ROC) (e : Env) (s : St) (H : List St) (P : List Pb), ropsC X base l e s H P = some r → ropsD X base (l.map Prod.fst) e s = some r
  | [], e, s, H, P, h => by
    simp only [ropsC] at h
    cases hb : pbsOk X base H P with
    | true => rw [hb] at h; exact h
    | false => rw [hb] at h; cases h
  | (o, c) :: l, e, s, H, P, h => by
    simp only [ropsC] at h
    simp only [List.map_cons, ropsD]
    split at h
    · rename_i v s' hv
      rw [hv]
      simp only
      cases hb : (!o.w || noneC base s' l) with
      | false => rw [hb] at h; cases h
      | true =>
        rw [hb] at h
        rw [if_pos (by exact hb)]
        exact ropsC_D l _ _ _ _ h
    · cases h

/-- the resolved step is the step -/
theorem roStep {i : Nat} {o : Oper} {g : Option (Nat × Bool)} {e : Env} {s s1 : St} {v : AV} (h1 : rcG ops o.guard = some g)
    (hr : (bif wantR e g then rop X base (if true && (cls X o.op).isA then some i else none) e s (rcOp X o.op) else some (undef, s)) = some (v, s1)) :
    stepD X (execL X) ops base i o e s = some (setDst e o.dst v, s1) := by
  have hwant := rcG_spec h1 e
  cases hw : wantR e g with
  | false =>
    rw [hw] at hr hwant
    simp only [cond_false] at hr
    cases hr
    simp only [stepD, ← hwant, Bool.false_eq_true, if_false]
  | true =>
    rw [hw] at hr hwant
    simp only [cond_true, Bool.true_and] at hr
    simp only [stepD, ← hwant, if_true]
    by_cases ha : (cls X o.op).isA = true
    · rw [if_pos ha] at hr
      obtain ⟨s2, e1, e2⟩ := rop_at (isA_iff.1 ha) hr
      rw [isA_iff.1 ha]
      simp only [e1, e2]
    · rw [if_neg ha] at hr
      have := rop_spec hr
      cases hk : cls X o.op <;> rw [hk] at ha <;> first | exact absurd rfl ha | simp only [this]

theorem addA_no {i m : Nat} {tr : List (Env × St)} {s : St} : ∀ (l : List Nat), (∀ k ∈ l, bef ops k i = false) → addA ops base i m tr l s = s
  | [], _ => rfl
  | j :: l, h => by
    unfold addA
    rw [if_neg (by simp [h j (List.mem_cons_self ..)])]
    exact addA_no l fun k hk => h k (List.mem_cons_of_mem _ hk)

theorem pbsOk_mem {H : List St} : ∀ (P : List Pb), pbsOk X base H P = true → ∀ p ∈ P, pbL X base p.e p.op p.v ((H.take (p.hi + 1)).drop p.lo) = true
  | [], _, p, hp => by simp at hp
  | q :: P, h, p, hp => by
    simp only [pbsOk, Bool.and_eq_true] at h
    rcases List.mem_cons.1 hp with rfl | hp
    · exact h.1
    · exact pbsOk_mem P h.2 p hp

theorem pbL_mem {e : Env} {op : ROp} {v : AV} : ∀ (l : List St), pbL X base e op v l = true → ∀ s ∈ l, pb1 v (rop X base none e s op) = true
  | [], _, s, hs => by simp at hs
  | x :: l, h, s, hs => by
    simp only [pbL, Bool.and_eq_true] at h
    rcases List.mem_cons.1 hs with rfl | hs
    · exact h.1
    · exact pbL_mem l h.2 s hs

theorem probes (hlr : lateReg X ops = false) : ∀ (l : List Oper) (i : Nat) (l' : List ROC) (e : Env) (s : St) (H : List St) (P : List Pb) (r : Env × St) (tr : List (Env × St)),
    rcOps X ops true i l = some (l'.map Prod.fst) → ropsC X base l' e s H P = some r → goD X (execL X) ops base i l e s = some tr →
    ∃ P', pbsOk X base (H ++ (wIdx X ops i l).map (fun j => trS tr (j + 1 - i))) P' = true ∧ (∀ p ∈ P, p ∈ P') ∧
      ∀ (k : Nat) o q lo hi, l[k]? = some o → l'[k]? = some (q, some (lo, hi)) → o.guard = none → cls X o.op = .r →
        ∃ v, opA X (execL X) (trE tr k) o.op (trS tr k) = some (v, trS tr (k + 1)) ∧ (⟨lo, hi, trE tr k, rcOp X o.op, v⟩ : Pb) ∈ P'
  | [], i, l', e, s, H, P, r, tr, h1, h2, h3 => by
    have hl' : l' = [] := by
      simp only [rcOps] at h1
      cases l' with
      | nil => rfl
      | cons x y => simp at h1
    subst hl'
    simp only [ropsC] at h2
    refine ⟨P, ?_, fun p hp => hp, fun k o q lo hi hk => by simp at hk⟩
    simp only [wIdx, List.map_nil, List.append_nil]
    cases hb : pbsOk X base H P with
    | true => rfl
    | false => rw [hb] at h2; cases h2
  | o :: l, i, l', e, s, H, P, r, tr, h1, h2, h3 => by
    simp only [rcOps] at h1
    split at h1
    · rename_i g r' e1 e2
      cases l' with
      | nil => simp at h1
      | cons x l2 =>
        obtain ⟨ro, c⟩ := x
        simp only [List.map_cons, Option.some.injEq, List.cons.injEq] at h1
        obtain ⟨rfl, rfl⟩ := h1
        simp only [ropsC] at h2
        split at h2
        · rename_i v s1 hv
          have hst := roStep e1 hv
          simp only [goD, hst] at h3
          split at h3
          · rename_i tr' g1
            cases h3
            cases hb : (!(true && (cls X o.op).isW) || noneC base s1 l2) with
            | false => rw [hb] at h2; cases h2
            | true =>
              rw [hb] at h2
              simp only [cond_true] at h2
              obtain ⟨P', q1, q2, q3⟩ := probes hlr l (i + 1) l2 _ s1 _ _ r tr' e2 h2 g1
              obtain ⟨k1, k2, _⟩ := goD_spec _ _ _ _ _ g1
              have hts : ∀ n, trS ((e, s) :: tr') (n + 1) = trS tr' n := fun n => by simp [trS]
              have hte : ∀ n, trE ((e, s) :: tr') (n + 1) = trE tr' n := fun n => by simp [trE]
              have hs1 : trS tr' 0 = s1 := by simp [trS, k2]
              have hmap : (wIdx X ops (i + 1) l).map (fun j => trS ((e, s) :: tr') (j + 1 - i)) = (wIdx X ops (i + 1) l).map (fun j => trS tr' (j + 1 - (i + 1))) := by
                refine List.map_congr_left fun j hj => ?_
                obtain ⟨k, _, _, hjk, _⟩ := (wIdx_mem l (i + 1) j).1 hj
                rw [show j + 1 - i = (j + 1 - (i + 1)) + 1 by omega, hts]
              refine ⟨P', ?_, fun p hp => q2 p (by unfold addP; split <;> simp [hp]), fun k o' q lo hi hk1 hk2 hg hc => ?_⟩
              · have hlt : late X ops i = false := by simp [late, hlr]
                simp only [wIdx, hlt, Bool.not_false, Bool.and_true]
                cases hw : (cls X o.op).isW with
                | true =>
                  rw [hw] at q1
                  simp only [if_true, List.map_cons]
                  rw [hmap, show i + 1 - i = 0 + 1 by omega, hts, hs1]
                  simpa using q1
                | false =>
                  rw [hw] at q1
                  simp only [Bool.false_eq_true, if_false]
                  rw [hmap]
                  simpa using q1
              · cases k with
                | zero =>
                  simp at hk1 hk2
                  obtain ⟨_, rfl⟩ := hk2
                  subst hk1
                  have hgn : g = none := by rw [hg] at e1; simp [rcG] at e1; exact e1.symm
                  subst hgn
                  simp only [wantR, cond_true, hc, Cls.isA, Bool.and_false, Bool.false_eq_true, if_false] at hv
                  have := rop_spec hv
                  refine ⟨v, ?_, ?_⟩
                  · rw [hts, hs1]; exact this
                  · exact q2 _ (by simp [addP, trE])
                | succ k =>
                  obtain ⟨v', w1, w2⟩ := q3 k o' q lo hi (by simpa using hk1) (by simpa using hk2) hg hc
                  refine ⟨v', ?_, ?_⟩
                  · rw [hte, hts, hts]; exact w1
                  · rw [hte]; exact w2
          · cases h3
        · cases h2
    · cases h1

theorem drc_spec {l : List RO} {e : Env} {s : St} {r : Env × St} (hrc : rcOps X ops true 0 ops.toList = some l) (hopen : openD X ops = true) (hokd : okD X ops = true) (hn : noneR s.next s l = true)
    (hrC : ropsC X s.next (l.zip (csD X ops)) e { s with next := s.next + ops.size } [{ s with next := s.next + ops.size }] [] = some r) : drawA X (execL X) ops e s = some r := by
  have hok := okD_ok hokd
  have hlen : l.length = ops.size := by rw [rcOps_length _ _ _ hrc]; simp
  have hz1 : (l.zip (csD X ops)).map Prod.fst = l := by rw [List.map_fst_zip]; rw [hlen]; simp [csD]
  have hr : ropsD X s.next l e { s with next := s.next + ops.size } = some r := by
    have := ropsC_D _ _ _ _ _ hrC
    rw [hz1] at this; exact this
  unfold openD at hopen
  simp only [Bool.and_eq_true, Bool.not_eq_true', List.all_eq_true, List.mem_range] at hopen
  obtain ⟨hlr, hall⟩ := hopen
  obtain ⟨tr, g1, g2, g3⟩ := ropsD_go _ _ _ _ _ hrc hr
  obtain ⟨P', hP1, _, hP2⟩ := probes hlr ops.toList 0 (l.zip (csD X ops)) e _ _ [] r tr (by rw [hz1]; exact hrc) hrC g1
  obtain ⟨k1, k2, k3⟩ := goD_spec _ _ _ _ _ g1
  have k1 : tr.length = ops.size + 1 := by simpa using k1
  have ht : Tr0 X (execL X) ops s.next (trE tr) (trS tr) := ⟨fun i o ho => by
    have := k3 i o (by simpa using ho)
    simpa using this⟩
  have hS0 : trS tr 0 = { s with next := s.next + ops.size } := by simp [trS, k2]
  have hlate : ∀ i, late X ops i = false := fun i => by simp [late, hlr]
  have wmem : ∀ j, j ∈ wIdx X ops 0 ops.toList ↔ ∃ o, ops[j]? = some o ∧ cls X o.op = .w := by
    intro j
    rw [wIdx_mem]
    constructor
    · rintro ⟨k, o, h1, rfl, h3⟩
      simp only [Bool.and_eq_true] at h3
      exact ⟨o, by simpa using h1, isW_iff.1 h3.1⟩
    · rintro ⟨o, h1, h3⟩
      exact ⟨j, o, by simpa using h1, by omega, by simp [isW_iff.2 h3, hlate]⟩
  have amem : ∀ j, kA X ops j → j ∈ aIdx X 0 ops.toList := by
    have : ∀ (l : List Oper) (i k : Nat) o, l[k]? = some o → cls X o.op = .a → i + k ∈ aIdx X i l := by
      intro l
      induction l with
      | nil => intro i k o h; simp at h
      | cons x l ih =>
        intro i k o h hc
        unfold aIdx
        cases k with
        | zero => simp at h; subst h; rw [if_pos (isA_iff.2 hc)]; exact List.mem_cons_self ..
        | succ k =>
          have := ih (i + 1) k o (by simpa using h) hc
          rw [show i + (k + 1) = i + 1 + k by omega]
          split
          · exact List.mem_cons_of_mem _ this
          · exact this
    rintro j ⟨o, ho, hc⟩
    have := this ops.toList 0 j o (by simpa using ho) hc
    simpa using this
  have hsts := statesD_ok (tr := tr) (wIdx X ops 0 ops.toList) fun j hj => by
    obtain ⟨o, ho, _⟩ := (wmem j).1 hj
    have := (Array.getElem?_eq_some_iff.1 ho).1
    omega
  unfold drawA
  rw [g1]
  simp only [hsts]
  -- no block stands where one is to be made
  have hnoneM : ∀ m, m = 0 ∨ (∃ j, m = j + 1 ∧ j ∈ wIdx X ops 0 ops.toList) → ∀ i, m ≤ i → kA X ops i → (trS tr m).get (s.next + i) = none := by
    rintro m (rfl | ⟨j, rfl, hj⟩) i hi ⟨o, ho, hc⟩
    · rw [hS0]
      have := noneR_start _ _ _ hrc hn i o (by simpa using ho) (isA_iff.2 hc)
      rw [Nat.zero_add] at this
      exact this
    · obtain ⟨oj, hoj, hcj⟩ := (wmem j).1 hj
      have := g3 j oj (by simpa using hoj) (isW_iff.2 hcj) i (by omega) o (by simpa using ho) (isA_iff.2 hc)
      simpa using this
  have hss : ∀ m s1, (m, s1) ∈ (0, ({ s with next := s.next + ops.size } : St)) :: ((wIdx X ops 0 ops.toList).map fun j => (j + 1, trS tr (j + 1))) → (m = 0 ∨ ∃ j, m = j + 1 ∧ j ∈ wIdx X ops 0 ops.toList) ∧ s1 = trS tr m := by
    intro m s1 hm
    rcases List.mem_cons.1 hm with e | hm
    · cases e; exact ⟨.inl rfl, hS0.symm⟩
    · obtain ⟨j, hj, e⟩ := List.mem_map.1 hm
      cases e
      exact ⟨.inr ⟨j, rfl, hj⟩, rfl⟩
  have hnA : noneAll X ops s.next ((0, ({ s with next := s.next + ops.size } : St)) :: ((wIdx X ops 0 ops.toList).map fun j => (j + 1, trS tr (j + 1)))) = true := noneAll_of _ fun m s1 hm i hi hk => by
    obtain ⟨h1, rfl⟩ := hss m s1 hm
    exact hnoneM m h1 i hi hk
  have hchk : checkR X (execL X) ops s.next (wIdx X ops 0 ops.toList) (aIdx X 0 ops.toList) ((0, ({ s with next := s.next + ops.size } : St)) :: ((wIdx X ops 0 ops.toList).map fun j => (j + 1, trS tr (j + 1)))) tr 0 ops.toList tr = true := by
    refine checkR_of _ _ _ fun i o es ho htr hw => ?_
    have ho' : ops[i]? = some o := by simpa using ho
    have hi : i < ops.size := (Array.getElem?_eq_some_iff.1 ho').1
    have hes : es = (trE tr i, trS tr i) := by simp [trE, trS, htr]
    subst hes
    simp only at hw
    rw [Nat.zero_add]
    -- the step
    have hop : cls X o.op ≠ .a → ∃ v, opA X (execL X) (trE tr i) o.op (trS tr i) = some (v, trS tr (i + 1)) := fun hne => by
      rcases stepD_cases (ht.step i o ho') with ⟨h1, _⟩ | ⟨_, v, _, ⟨hc, _⟩ | ⟨_, h3⟩⟩
      · rw [hw] at h1; cases h1
      · exact absurd (isA_iff.1 hc) hne
      · exact ⟨v, h3⟩
    -- the one state
    have hone : (cls X o.op = .r ∨ cls X o.op = .q) → calmI X ops i = true → ∃ m, rangeR ops (wIdx X ops 0 ops.toList) ((0, ({ s with next := s.next + ops.size } : St)) :: ((wIdx X ops 0 ops.toList).map fun j => (j + 1, trS tr (j + 1)))) i = [(m, trS tr m)] ∧
        addA ops s.next i m tr (aIdx X 0 ops.toList) (trS tr m) = trS tr i := by
      intro hk hst'
      unfold calmI at hst'
      rw [Bool.and_eq_true] at hst'
      obtain ⟨ha, hwb⟩ := hst'
      rw [List.all_eq_true] at ha hwb
      have hab : ∀ k, k < i → kA X ops k → bef ops k i = true := fun k hki hka => by
        have := ha k (amem k hka)
        simpa [hki] using this
      have hbw : ∀ k ∈ wIdx X ops 0 ops.toList, (bef ops k i = true ↔ k < i) ∧ (bef ops i k = true ↔ i < k) := by
        intro k hkm
        have := hwb k hkm
        simp only [Bool.or_eq_true] at this
        rcases this with h1 | h1
        · have := hok.bef_lt i k h1
          refine ⟨⟨fun _ => this, fun _ => h1⟩, ⟨fun h2 => ?_, fun h2 => by omega⟩⟩
          have := hok.bef_lt k i h2; omega
        · have := hok.bef_lt k i h1
          refine ⟨⟨fun h2 => ?_, fun h2 => by omega⟩, ⟨fun _ => this, fun _ => h1⟩⟩
          have := hok.bef_lt i k h2; omega
      have hne : ∀ k ∈ wIdx X ops 0 ops.toList, k ≠ i := fun k hkm e => by
        obtain ⟨o2, ho2, hc2⟩ := (wmem k).1 hkm
        rw [e, ho'] at ho2; cases ho2
        rcases hk with hk | hk <;> rw [hk] at hc2 <;> cases hc2
      have hcnt : countL (fun j => !bef ops i j) (wIdx X ops 0 ops.toList) = countL (fun j => bef ops j i) (wIdx X ops 0 ops.toList) := by
        refine Nat.le_antisymm (countL_mono _ fun x hx h => ?_) (countL_mono _ fun x hx h => ?_)
        · have h1 : bef ops i x = false := by simpa using h
          refine ((hbw x hx).1).2 (Nat.lt_of_not_le fun hle => ?_)
          have := ((hbw x hx).2).2 (by have := hne x hx; omega)
          rw [h1] at this; cases this
        · have h1 := ((hbw x hx).1).1 h
          simp only [Bool.not_eq_true']
          cases hb : bef ops i x with
          | false => rfl
          | true => have := ((hbw x hx).2).1 hb; omega
      unfold rangeR
      rw [hcnt]
      -- how many stand ahead
      generalize hq : countL (fun j => bef ops j i) (wIdx X ops 0 ops.toList) = q
      have hsort := List.pairwise_iff_getElem.1 (wIdx_sorted (X := X) (ops := ops) ops.toList 0)
      have hql : q ≤ (wIdx X ops 0 ops.toList).length := by
        rw [← hq]
        generalize wIdx X ops 0 ops.toList = L
        induction L with
        | nil => exact Nat.le_refl _
        | cons x L ih => simp only [countL, List.length_cons]; split <;> omega
      -- the first q are those ahead of i
      have hfirst : ∀ n (hn : n < (wIdx X ops 0 ops.toList).length), (n < q ↔ (wIdx X ops 0 ops.toList)[n] < i) := by
        -- the point where they part
        obtain ⟨p, hp1, hp2, hp3⟩ : ∃ p, p ≤ (wIdx X ops 0 ops.toList).length ∧ (∀ n (hn : n < (wIdx X ops 0 ops.toList).length), n < p → (wIdx X ops 0 ops.toList)[n] < i) ∧ (∀ n (hn : n < (wIdx X ops 0 ops.toList).length), p ≤ n → ¬ (wIdx X ops 0 ops.toList)[n] < i) := by
          rcases last_of (fun n => ∃ hn : n < (wIdx X ops 0 ops.toList).length, (wIdx X ops 0 ops.toList)[n] < i) (wIdx X ops 0 ops.toList).length with h | ⟨n0, h1, ⟨h2, h3⟩, h4⟩
          · exact ⟨0, Nat.zero_le _, fun n _ hn => by omega, fun n hn _ hlt => h n hn ⟨hn, hlt⟩⟩
          · refine ⟨n0 + 1, h1, fun n hn hlt => ?_, fun n hn hle hlt => h4 n (by omega) hn ⟨hn, hlt⟩⟩
            by_cases e : n = n0
            · subst e; exact h3
            · have := hsort n n0 hn h2 (by omega); omega
        have hpq : p = q := by
          rw [← hq]
          refine (countL_split _ p hp1 (fun x hx => ?_) (fun x hx => ?_)).symm
          · obtain ⟨n, hn, rfl⟩ := List.mem_iff_getElem.1 hx
            rw [List.getElem_take]
            have hn' : n < p ∧ n < (wIdx X ops 0 ops.toList).length := by rw [List.length_take] at hn; omega
            exact ((hbw _ (List.getElem_mem hn'.2)).1).2 (hp2 n hn'.2 hn'.1)
          · obtain ⟨n, hn, rfl⟩ := List.mem_iff_getElem.1 hx
            rw [List.getElem_drop]
            rw [List.length_drop] at hn
            have := hp3 (p + n) (by omega) (by omega)
            cases hb : bef ops (wIdx X ops 0 ops.toList)[p + n] i with
            | false => rfl
            | true => exact absurd (((hbw _ (List.getElem_mem (by omega))).1).1 hb) this
        subst hpq
        exact fun n hn => ⟨hp2 n hn, fun hlt => Nat.lt_of_not_le fun hle => hp3 n hn hle hlt⟩
      have fin : ∀ m, (m = 0 ∨ ∃ j, m = j + 1 ∧ j ∈ wIdx X ops 0 ops.toList) → m ≤ i → (∀ k ∈ wIdx X ops 0 ops.toList, k < i → k < m) →
          addA ops s.next i m tr (aIdx X 0 ops.toList) (trS tr m) = trS tr i := fun m hm hmi hwm =>
        addA_here ht k1 hok hi hmi (fun k ok h1 h2 hok' hc => by
          have := hwm k ((wmem k).2 ⟨ok, hok', hc⟩) h2; omega) hab (fun k h1 h2 => hnoneM m hm k h1 h2)
      cases q with
      | zero =>
        refine ⟨0, by simp [hS0], fin 0 (.inl rfl) (Nat.zero_le _) fun k hkm hki => ?_⟩
        obtain ⟨n, hn, rfl⟩ := List.mem_iff_getElem.1 hkm
        have := (hfirst n hn).2 hki; omega
      | succ q =>
        have hqn : q < (wIdx X ops 0 ops.toList).length := by omega
        have hqi := (hfirst q hqn).1 (by omega)
        refine ⟨(wIdx X ops 0 ops.toList)[q] + 1, ?_, fin _ (.inr ⟨_, rfl, List.getElem_mem _⟩) (by omega) fun k hkm hki => ?_⟩
        · rw [List.drop_take]
          rw [show q + 1 + 1 - (q + 1) = 1 by omega, List.drop_succ_cons, List.drop_eq_getElem_cons (by simpa using hqn)]
          simp
        · obtain ⟨n, hn, rfl⟩ := List.mem_iff_getElem.1 hkm
          have hnq := (hfirst n hn).2 hki
          by_cases e : n = q
          · subst e; omega
          · have := hsort n q hn hqn (by omega); omega
    have hcase := hall i hi
    rw [ho'] at hcase
    simp only at hcase
    refine ⟨fun hk => ?_, fun hk => ?_⟩
    · cases hcm : calmI X ops i with
      | true =>
        obtain ⟨v, hv⟩ := hop (by rw [hk]; simp)
        obtain ⟨m, hm1, hm2⟩ := hone (.inl hk) hcm
        refine ⟨v, _, hv, ?_⟩
        rw [hm1]
        simp only [readsSame, hm2, hv, same_refl, Bool.and_self]
      | false =>
        rw [hk, hcm] at hcase
        simp only [Cls.isR, Bool.true_or, Bool.not_true, Bool.false_or, Bool.true_and, Bool.and_eq_true, Option.isNone_iff_eq_none, List.all_eq_true, Bool.not_eq_true'] at hcase
        obtain ⟨hgn, hno⟩ := hcase
        have hcs : (l.zip (csD X ops))[i]? = some ((l[i]'(by omega)), some (countL (fun j => bef ops j i) (wIdx X ops 0 ops.toList), countL (fun j => !bef ops i j) (wIdx X ops 0 ops.toList))) := by
          rw [List.getElem?_zip_eq_some]
          refine ⟨by simp [List.getElem?_eq_getElem (show i < l.length by omega)], ?_⟩
          simp only [csD, List.getElem?_map, List.getElem?_range hi, Option.map_some, opC, ho', hk, hcm, Cls.isR]
          rfl
        obtain ⟨v, hv, hmem⟩ := hP2 i o _ _ _ (by simpa using ho') hcs hgn hk
        refine ⟨v, _, hv, ?_⟩
        have hpl := pbsOk_mem _ hP1 _ hmem
        simp only at hpl
        -- the states
        have hrng : ∀ x ∈ rangeR ops (wIdx X ops 0 ops.toList) ((0, ({ s with next := s.next + ops.size } : St)) :: ((wIdx X ops 0 ops.toList).map fun j => (j + 1, trS tr (j + 1)))) i, pb1 v (rop X s.next none (trE tr i) x.2 (rcOp X o.op)) = true := by
          intro x hx
          refine pbL_mem _ hpl x.2 ?_
          have : (([{ s with next := s.next + ops.size }] : List St) ++ (wIdx X ops 0 ops.toList).map (fun j => trS tr (j + 1 - 0))) = ((0, ({ s with next := s.next + ops.size } : St)) :: ((wIdx X ops 0 ops.toList).map fun j => (j + 1, trS tr (j + 1)))).map Prod.snd := by
            simp [Function.comp_def]
          rw [this, ← List.map_take, ← List.map_drop]
          exact List.mem_map_of_mem hx
        generalize rangeR ops (wIdx X ops 0 ops.toList) ((0, ({ s with next := s.next + ops.size } : St)) :: ((wIdx X ops 0 ops.toList).map fun j => (j + 1, trS tr (j + 1)))) i = L at hrng
        induction L with
        | nil => rfl
        | cons x L ih =>
          obtain ⟨m, s1⟩ := x
          have h0 := hrng (m, s1) (List.mem_cons_self ..)
          simp only [readsSame]
          rw [addA_no _ hno]
          unfold pb1 at h0
          split at h0
          · rename_i u s2 hu
            simp only at hu
            simp only [rop_spec hu, h0, Bool.true_and]
            exact ih fun x hx => hrng x (List.mem_cons_of_mem _ hx)
          · cases h0
    · cases hcm : calmI X ops i with
      | true =>
        obtain ⟨v, hv⟩ := hop (by rw [hk]; simp)
        obtain ⟨m, hm1, hm2⟩ := hone (.inr hk) hcm
        obtain ⟨_, c, vs, us, e1, e2, e3, _⟩ := cls_c hk hv
        refine ⟨c, vs, us, e1, e2, e3, ?_⟩
        rw [hm1]
        simp only [argsSame, hm2, e3, sames_refl, Bool.and_self]
      | false =>
        rw [hk, hcm] at hcase
        simp [Cls.isR] at hcase
  rw [lateIds_nil hlr]
  simp only [lateOk, hchk, hnA, Bool.and_self, if_true]
  exact g2


end

/-! ### Read by simp -/

section
variable (X : Cx) {β : Type} (back : β) (fin : Fl → β) (ks : List K)

noncomputable def goC (base : Nat) (l : List ROC) (e : Env) (s : St) (H : List St) (P : List Pb) : β := match ropsC X base l e s H P with
  | some (e, s) => goN X fin ks e s
  | none => back
noncomputable def bndC (base : Nat) (x : Option (AV × St)) (d : Option Nat) (w : Bool) (c : Option (Nat × Nat)) (op : ROp) (l : List ROC) (e : Env) (H : List St) (P : List Pb) : β := match x with
  | some (v, s) => bif !w || noneC base s l then goC X back fin ks base l (setDst e d v) s (bif w then H ++ [s] else H) (addP c e op v P) else back
  | none => back
/-- the code itself, left unread -/
noncomputable def backC (c : Code) (e : Env) (s : St) : β := pop X fin ks (execL X c e s)

variable (base : Nat) (e : Env) (s : St) (H : List St) (P : List Pb) (l : List ROC)
theorem goC_nil : goC X back fin ks base [] e s H P = bif pbsOk X base H P then goN X fin ks e s else back := by
  simp only [goC, ropsC]
  cases pbsOk X base H P <;> rfl
theorem goC_cons (d : Option Nat) (a : Option Nat) (w : Bool) (op : ROp) (c : Option (Nat × Nat)) :
    goC X back fin ks base ((⟨d, none, a, w, op⟩, c) :: l) e s H P = bndC X back fin ks base (rop X base a e s op) d w c op l e H P := by
  simp only [goC, ropsC, bndC, wantR, cond_true]
  cases rop X base a e s op with
  | none => rfl
  | some x =>
    simp only
    cases (!w || noneC base x.2 l) <;> rfl
theorem goC_consG (d : Option Nat) (t : Nat) (b : Bool) (a : Option Nat) (w : Bool) (op : ROp) (c : Option (Nat × Nat)) :
    goC X back fin ks base ((⟨d, some (t, b), a, w, op⟩, c) :: l) e s H P = bndC X back fin ks base (gateR X (gBool (Env.get e t) b) base a e s op) d w c op l e H P := by
  simp only [goC, ropsC, bndC, gateR]
  have : wantR e (some (t, b)) = gBool (Env.get e t) b := rfl
  rw [this]
  cases (bif gBool (Env.get e t) b then rop X base a e s op else some (undef, s)) with
  | none => rfl
  | some x =>
    simp only
    cases (!w || noneC base x.2 l) <;> rfl
theorem bndC_some0 (v : AV) (d : Option Nat) (op : ROp) : bndC X back fin ks base (some (v, s)) d false none op l e H P = goC X back fin ks base l (setDst e d v) s H P := (fun h => h) rfl
theorem bndC_some0c (v : AV) (d : Option Nat) (lo hi : Nat) (op : ROp) : bndC X back fin ks base (some (v, s)) d false (some (lo, hi)) op l e H P = goC X back fin ks base l (setDst e d v) s H (⟨lo, hi, e, op, v⟩ :: P) := (fun h => h) rfl
theorem bndC_some1 (v : AV) (d : Option Nat) (op : ROp) : bndC X back fin ks base (some (v, s)) d true none op l e H P = bif noneC base s l then goC X back fin ks base l (setDst e d v) s (H ++ [s]) P else back := (fun h => h) rfl
theorem noneC_nil : noneC base s [] = true := (fun h => h) rfl
theorem noneC_cons0 (d : Option Nat) (g : Option (Nat × Bool)) (w : Bool) (op : ROp) (c : Option (Nat × Nat)) : noneC base s ((⟨d, g, none, w, op⟩, c) :: l) = noneC base s l := by
  simp [noneC, noneR]
theorem noneC_cons1 (i : Nat) (d : Option Nat) (g : Option (Nat × Bool)) (w : Bool) (op : ROp) (c : Option (Nat × Nat)) : noneC base s ((⟨d, g, some i, w, op⟩, c) :: l) = ((s.get (base + i)).isNone && noneC base s l) := by
  simp [noneC, noneR]
theorem pbsOk_nil : pbsOk X base H [] = true := (fun h => h) rfl
theorem pbsOk_cons (lo hi : Nat) (op : ROp) (v : AV) : pbsOk X base H (⟨lo, hi, e, op, v⟩ :: P) = (pbL X base e op v ((H.take (hi + 1)).drop lo) && pbsOk X base H P) := (fun h => h) rfl
theorem pbL_nil (op : ROp) (v : AV) : pbL X base e op v [] = true := (fun h => h) rfl
theorem pbL_cons (op : ROp) (v : AV) (L : List St) : pbL X base e op v (s :: L) = (pb1 v (rop X base none e s op) && pbL X base e op v L) := (fun h => h) rfl
def pbO (v : AV) (x : Option AV) : Bool := match x with
  | some u => same u v
  | none => false
theorem pb1_pure (v : AV) (x : Option AV) : pb1 v (pureO x s) = pbO v x := by cases x <;> rfl
theorem pbO_some (u v : AV) : pbO v (some u) = same u v := (fun h => h) rfl
theorem pb_ld1 (v : AV) (x : Opd) : pb1 v (rop X base none e s (.ld1 x)) = pbO v (ld1 (evO e x) s) := pb1_pure s v _
theorem pb_ldn (v : AV) (n : Nat) (x : Opd) : pb1 v (rop X base none e s (.ldn n x)) = pbO v (ldn n (evO e x) s) := pb1_pure s v _
theorem pb_lenL (v : AV) (x : Opd) : pb1 v (rop X base none e s (.lenL x)) = pbO v (lenRL (evO e x)) := pb1_pure s v _
theorem pb_lenS (v : AV) (x : Opd) : pb1 v (rop X base none e s (.lenS x)) = pbO v (lenRS (evO e x)) := pb1_pure s v _
theorem pb_lenM (v : AV) (x : Opd) : pb1 v (rop X base none e s (.lenM x)) = pbO v (lenRM s (evO e x)) := pb1_pure s v _
theorem app_cons {α : Type} (x : α) (l m : List α) : (x :: l) ++ m = x :: (l ++ m) := (fun h => h) rfl
theorem app_nil {α : Type} (m : List α) : ([] : List α) ++ m = m := (fun h => h) rfl

theorem go_drc [Stat] {c : Code} {n : Nat} {l : List ROC} (h : rcDrc X c = some (n, l)) (fin : Fl → β) (ks : List K) (e : Env) (s : St) : go X fin ks (.raw c) e s =
    bif noneC s.next s l then goC X (backC X fin ks c e s) fin ks s.next l e { s with next := s.next + n } [{ s with next := s.next + n }] [] else backC X fin ks c e s := by
  unfold rcDrc at h
  split at h
  · rename_i id ops d
    split at h
    · rename_i hc
      simp only [Bool.and_eq_true] at hc
      split at h
      · rename_i l0 hl
        cases h
        have hz : noneC s.next s (l0.zip (csD X ops)) = noneR s.next s l0 := by
          unfold noneC
          rw [List.map_fst_zip]
          rw [rcOps_length _ _ _ hl]; simp [csD]
        rw [hz]
        cases hn : noneR s.next s l0 with
        | false => rfl
        | true =>
          simp only [cond_true, goC]
          split
          · rename_i e1 s1 h1
            have := drc_spec hl hc.1.2 hc.2 hn h1
            simp only [go, den, goN]
            rw [execL_eq]
            simp only [stepA, hc.1.1, if_true, this]
          · rfl
      · cases h
    · cases h
  · cases h
end

@[congr] theorem bndC_congr {X : Cx} {β : Type} {back : β} {fin : Fl → β} {ks : List K} {base : Nat} {x x' : Option (AV × St)} {d : Option Nat} {w : Bool} {c : Option (Nat × Nat)} {op : ROp} {l : List ROC} {e : Env} {H : List St} {P : List Pb} (h : x = x') : bndC X back fin ks base x d w c op l e H P = bndC X back fin ks base x' d w c op l e H P := by rw [h]

attribute [go_sem ↓] goC_nil goC_cons goC_consG bndC_some0 bndC_some0c bndC_some1 noneC_nil noneC_cons0 noneC_cons1 pbsOk_nil pbsOk_cons pbL_nil pbL_cons pb_ld1 pb_ldn pb_lenL pb_lenS pb_lenM app_cons app_nil List.take_succ_cons List.take_zero List.drop_succ_cons List.drop_zero
attribute [go_sem] pbO_some same_refl

end Go.Am
set_option linter.all false
namespace Go.Am
open Go
set_option maxRecDepth 100000
set_option maxHeartbeats 8000000
/-! # What all walks use -/
/-- the parts of resolved code that are left as they are, in order -/
def raws : RC → List Code
  | .seq a b => raws a ++ raws b
  | .cond _ a b => raws a ++ raws b
  | .block _ b => raws b
  | .loop b => raws b
  | .raw c => [c]
  | _ => []
noncomputable def rawAt (f k : Nat) : Code := match U.fn f with
  | some fn => match fn.body with
    | some c => ((raws (rc U c))[k]?).getD .skip
    | none => .skip
  | none => .skip

theorem br_int (k : IntKind) (p : Bool) (x y : Int) : br p (AV.int k x) (AV.int k y) = .int k (br p x y) := by cases p <;> rfl
theorem br_bool (p x y : Bool) : br p (AV.bool x) (AV.bool y) = .bool (br p x y) := by cases p <;> rfl
theorem br_str (p : Bool) (x y : Str) : br p (AV.str x) (AV.str y) = .str (br p x y) := by cases p <;> rfl
theorem br_tt (p x : Bool) : br p true x = (p || x) := by cases p <;> rfl
theorem br_ff (p x : Bool) : br p false x = (!p && x) := by cases p <;> rfl
attribute [go_sem] br_int br_bool br_str

theorem loop_to {X : Cx} {β : Type} {fin : Fl → β} {ks : List K} [Stat] {b : RC} {σ : Type} (m : σ → Nat) (R : σ → β) (I : σ → Env → St → Prop) (x : σ) {r : β} {e : Env} {s : St}
    (h : ∀ (L : RC) (x : σ) (e : Env) (s : St), I x e s → (∀ (y : σ) (e' : Env) (s' : St), m y < m x → I y e' s' → goL X fin ks L e' s' = R y) → go X fin (.lp L :: ks) b e s = R x)
    (hr : R x = r) (hI : I x e s) : goL X fin ks b e s = r := by
  rw [← hr]; exact loop_rule X fin ks m I R h x hI
theorem ints_len (l : List Int) : (ints l).length = l.length := by simp [ints]
theorem ints_get (l : List Int) (i : Nat) : (ints l)[i]? = (l[i]?).map (.int .i64 ·) := by simp [ints]
theorem ixa_ints {nl : Bool} {l : List Int} {i : Nat} (h : i < l.length) : ixRA 1 (encS nl (ints l)) (.int .i64 (i : Int)) = some (.fp [.int .i64 l[i]] 0) :=
  ixa_encS 1 nl (ints l) .i64 i (.int .i64 l[i]) (by omega) (by rw [Int.toNat_natCast, ints_get, List.getElem?_eq_getElem h]; rfl) rfl (by decide)
theorem bin_slss (X : Cx) (t : TypeId) (c : Bool) (x y : List UInt8) : binA X .lss t c (.str x) (.str y) = some (.bool (bytesLt x y)) := (fun h => h) rfl
theorem bin_sgtr (X : Cx) (t : TypeId) (c : Bool) (x y : List UInt8) : binA X .gtr t c (.str x) (.str y) = some (.bool !(bytesLt x y || x == y)) := (fun h => h) rfl
attribute [go_sem] bin_slss bin_sgtr
theorem nat_lt_dec (a b : Nat) : decide ((a : Int) < (b : Int)) = decide (a < b) := by congr 1; apply propext; omega

theorem calv_fn (X : Cx) (g : FuncId) (x y args : List AV) (s : St) : calv X (.fn (.func g) x y) args s = callK X (calV X g (x ++ args ++ y)) g (x ++ args ++ y) s := by
  rw [← callK_eq]; rfl
attribute [go_sem] calv_fn List.nil_append List.append_nil List.cons_append
theorem noAgg_bools (l : List Bool) : (bools l).all noAgg = true := by
  rw [List.all_eq_true]; intro x hx
  obtain ⟨b, _, rfl⟩ := List.mem_map.1 hx; rfl
theorem noAgg_ints (l : List Int) : (ints l).all noAgg = true := by
  rw [List.all_eq_true]; intro x hx
  obtain ⟨b, _, rfl⟩ := List.mem_map.1 hx; rfl
theorem frz_bools (s : St) (d : Nat) (l : List Bool) : mapO (frz U s (d + 1)) (bools l) = some (bools l) := mapO_self fun x hx => by
  obtain ⟨b, _, rfl⟩ := List.mem_map.1 hx; rfl
theorem frz_ints (s : St) (d : Nat) (l : List Int) : mapO (frz U s (d + 1)) (ints l) = some (ints l) := mapO_self fun x hx => by
  obtain ⟨b, _, rfl⟩ := List.mem_map.1 hx; rfl
theorem bools_len (l : List Bool) : (bools l).length = l.length := by simp [bools]
theorem RowI.frz_bools {s : St} {B : Nat} {l : List Bool} {v : AV} (h : RowI s B 4 1 l.length (bools l) v) (d : Nat) : frz U s (d + 2) v = some (encS true (bools l)) := by
  have h' : RowI s B 4 1 (bools l).length (bools l) v := by rw [bools_len]; exact h
  exact h'.frz_one U ag_4 sz_4 (noAgg_bools l) (Go.Am.frz_bools s d l)
theorem RowI.frz_ints {s : St} {B : Nat} {l : List Int} {v : AV} (h : RowI s B 3 1 l.length (ints l) v) (d : Nat) : frz U s (d + 2) v = some (encS true (ints l)) := by
  have h' : RowI s B 3 1 (ints l).length (ints l) v := by rw [ints_len]; exact h
  exact h'.frz_one U ag_3 sz_3 (noAgg_ints l) (Go.Am.frz_ints s d l)
theorem bools_get (l : List Bool) (i : Nat) : (bools l)[i]? = (l[i]?).map .bool := by simp [bools]
theorem loop_ex {X : Cx} {β : Type} {fin : Fl → β} {ks : List K} [Stat] {b : RC} {σ : Type} {Post : β → Prop} (m : σ → Nat) (I : σ → Env → St → Prop) (x : σ) {e : Env} {s : St}
    (h : ∀ (L : RC) (x : σ) (e : Env) (s : St), I x e s → (∀ (y : σ) (e' : Env) (s' : St), m y < m x → I y e' s' → Post (goL X fin ks L e' s')) → Post (go X fin (.lp L :: ks) b e s))
    (hI : I x e s) : Post (goL X fin ks b e s) := by
  have key : ∀ n (x : σ) (e : Env) (s : St), m x = n → I x e s → Post (goL X fin ks b e s) := by
    intro n
    induction n using Nat.strongRecOn with
    | ind n ih =>
      intro x e s hx hI
      rw [goL_eq]
      exact h b x e s hI fun y e' s' hy hI' => ih (m y) (by omega) y e' s' rfl hI'
  exact key _ x e s rfl hI
theorem RowI.app2 {s : St} {B : Nat} {t : TypeId} {n i : Nat} {cs : List AV} {v : AV} (h : RowI s B t n i cs v) (hB : B ≤ s.next) {m : Nat} {new : List AV} (hm : m ≠ 0) (hl : new.length = m * n) (hna : new.all Go.Am.noAgg = true) :
    ∃ s1, appD t n m new v s = some (.sl s.next 0 (i + m) none n, s1) ∧ s1.next = s.next + 1 ∧ RowI s1 B t n (i + m) (cs ++ new) (.sl s.next 0 (i + m) none n) ∧ (∀ j, j ≠ s.next → v ≠ .sl j 0 i none n → s1.get j = s.get j) ∧ (Fr s → Fr s1) := by
  rcases h with ⟨rfl, rfl, rfl⟩ | ⟨h0, h1, b, h2, h3, rfl, h5⟩
  · refine ⟨s.new (.cells new t false 0 0), by rw [appD_nils, Nat.zero_add], rfl, .inr ⟨by omega, by rw [Nat.zero_add, List.nil_append]; exact hl, s.next, hB, by rw [next_new]; omega, rfl, by rw [get_new, if_pos rfl]; rfl⟩, fun j hj _ => by rw [get_new, if_neg (by omega)], fun hf => hf.new _⟩
  · refine ⟨(s.put b .gone).new (.cells (cs ++ new) t false 0 0), by rw [appD_sl, h5, appS_cells h1 (by omega) hna], rfl, .inr ⟨by omega, by rw [List.length_append, h1, hl, Nat.add_mul], s.next, hB, by rw [next_new, next_put]; omega, rfl, ?_⟩, fun j hj hv => ?_, fun hf => (hf.put h3 _).new _⟩
    · rw [get_new, next_put, if_pos rfl]
    · have : b ≠ j := fun e => hv (by rw [e])
      rw [get_new, next_put, if_neg (by omega), get_put, if_neg this]
theorem RowI.far {s : St} {B : Nat} {t : TypeId} {n i : Nat} {cs : List AV} {v : AV} (h : RowI s B t n i cs v) {j : Nat} (hj : s.next ≤ j ∨ j < B) : v ≠ .sl j 0 i none n := by
  rintro rfl
  rcases h with ⟨_, h, _⟩ | ⟨_, _, b, h1, h2, h3, _⟩
  · cases h
  · cases h3; omega
theorem RowI.other {s : St} {B : Nat} {t : TypeId} {n i : Nat} {cs : List AV} {v : AV} (h : RowI s B t n i cs v) {j : Nat} {c : List AV} {t' : TypeId} {lo hi : Nat} (hj : s.get j = some (.cells c t' false lo hi)) (ht : t' ≠ t) : v ≠ .sl j 0 i none n := by
  rintro rfl
  rcases h with ⟨_, h, _⟩ | ⟨_, _, b, h1, h2, h3, h4⟩
  · cases h
  · cases h3
    rw [hj] at h4
    cases h4; exact ht rfl
theorem go_drcU {β : Type} {c : Code} {n : Nat} {l : List ROC} (h : rcDrc U c = some (n, l)) (fin : Fl → β) (ks : List K) (e : Env) (s : St) : go U fin ks (.raw c) e s =
    bif noneC s.next s l then goC U (backC U fin ks c e s) fin ks s.next l e (s.upto (s.next + n)) [s.upto (s.next + n)] [] else backC U fin ks c e s := go_drc U h fin ks e s
theorem repeatL_one (x : AV) : ∀ n : Nat, repeatL n [x] = List.replicate n x
  | 0 => rfl
  | n + 1 => by rw [repeatL, repeatL_one x n]; rfl
theorem lay_set : ∀ (cs : List AV) (i : Nat) (x : AV), i < cs.length → lay i [x] cs = some (cs.set i x)
  | [], i, x, h => by simp at h
  | c :: cs, 0, x, h => by rw [lay_zero, lay_nil]; rfl
  | c :: cs, i + 1, x, h => by
    rw [lay_succ, lay_set cs i x (by simpa using h)]; rfl
def part {A : Type} (l : List A) (z : A) (n i : Nat) : List A := l.take i ++ List.replicate (n - i) z
theorem part_len {A : Type} (l : List A) (z : A) {n i : Nat} (h : l.length = n) (hi : i ≤ n) : (part l z n i).length = n := by
  simp [part, h]; omega
theorem part_set {A : Type} (l : List A) (z : A) {n i : Nat} (h : l.length = n) (hi : i < n) : (part l z n i).set i (l[i]'(by omega)) = part l z n (i + 1) := by
  unfold part
  have h1 : (l.take i).length = i := by rw [List.length_take]; omega
  rw [List.set_append, if_neg (by omega), h1, Nat.sub_self, show n - i = (n - (i + 1)) + 1 by omega, List.replicate_succ, List.set_cons_zero, List.take_succ_eq_append_getElem (by omega), List.append_assoc]
  rfl
theorem part_full {A : Type} (l : List A) (z : A) {n : Nat} (h : l.length = n) : part l z n n = l := by
  unfold part; rw [Nat.sub_self, List.replicate_zero, List.append_nil, ← h, List.take_length]
theorem part_none {A : Type} (l : List A) (z : A) (n : Nat) : part l z n 0 = List.replicate n z := by unfold part; simp
theorem pre_get (pre l : List AV) (i : Nat) : (pre ++ l)[pre.length + i]? = l[i]? := by
  rw [List.getElem?_append_right (by omega)]; congr 1; omega
theorem pre_get0 (pre l : List AV) : (pre ++ l)[pre.length]? = l[0]? := pre_get pre l 0
theorem grab_pre (l : List AV) (n : Nat) : ∀ pre : List AV, grab n pre.length (pre ++ l) = grab n 0 l
  | [] => rfl
  | x :: pre => by
    cases n with
    | zero => simp [grab]
    | succ n =>
      show grab (n + 1) (pre.length + 1) (x :: (pre ++ l)) = _
      rw [grab, grab_pre l (n + 1) pre]
theorem ck (f : FuncId) (args : List AV) (s : St) : callK U (calV U f args) f args s = cal U f args s := (callK_eq ..).symm
/-- a call's end, whatever the state -/
def okQ (Q : AV → St → Prop) (x : Option (AV × St)) : Prop := ∃ v s', x = some (v, s') ∧ Q v s'
theorem okQ_some (Q : AV → St → Prop) (v : AV) (s : St) : okQ Q (some (v, s)) = Q v s := by
  apply propext
  constructor
  · rintro ⟨v', s', h, k⟩; cases h; exact k
  · intro h; exact ⟨v, s, rfl, h⟩
theorem kept_ex {f : FuncId} {rs : List ResultVar} {r : RC} (h : fnRC f = some (rs, r)) (hp : isKept f = true) {args : List AV} {s : St} {Q : AV → St → Prop}
    (hg : okQ Q (go U (finB U rs) [] r (bindArgs 0 args .nil) s)) : ∃ v s', cal U f args s = some (v, s') ∧ Q v s' := by
  obtain ⟨v, s', h1, h2⟩ := hg
  exact ⟨v, s', kept_go h hp h1, h2⟩
theorem cz_of {f : FuncId} {us : List AV} {v : AV} (h : calV U f us = some v) (hp : isPure f = true) (hst : stills us = true) (hf : flat v = true) (s : St) : calZ U f (some us) s = some (v, s) := by
  have h := calV_eq h (ownSt U)
  obtain ⟨p1, p2⟩ := isPure_of hp
  unfold cal callF at h
  rw [p2] at h
  simp only [p1, if_true, callP, frzArgs, hst] at h
  split at h
  · rename_i w hq
    cases h
    refine calZ_some U s ?_
    unfold callQ at hq ⊢
    split at hq
    · rename_i v0 s' hB
      simp only [if_true] at hq
      have := flat_frz s' _ _ _ hq hf
      subst this

      simp [hf]
    · cases hq
  · cases h
theorem lay_full : ∀ (vs c : List AV), vs.length = c.length → lay 0 vs c = some vs
  | [], [], _ => rfl
  | v :: vs, x :: c, h => by
    simp only [lay]
    rw [lay_full vs c (by simpa using h)]
theorem frzN_slR {s : St} {b d n : Nat} {cap : Option Nat} {t : TypeId} {l r : List AV} (hn : n = l.length) (hg : s.get b = some (.cells l t false 0 0)) (hag : isAggT U t = some false) (hsz : size U t = some 1) (hna : l.all noAgg = true) (hf : mapO (frzN U s d) l = some r) :
    frzN U s (d + 1) (.sl b 0 n cap 1) = some (.fz r) := by
  subst hn
  simp only [frzN, hg, Nat.mul_one, grab_all, hag, hsz]
  rw [if_pos ⟨trivial, by omega, fun _ => ⟨trivial, hna⟩⟩, chunks_all, hf]
theorem frzN_intsV (s : St) (d : Nat) (l : List Int) : mapO (frzN U s (d + 1)) (ints l) = some (ints l) := mapO_self fun x hx => by
  obtain ⟨b, _, rfl⟩ := List.mem_map.1 hx; rfl
theorem frzN_boolsV (s : St) (d : Nat) (l : List Bool) : mapO (frzN U s (d + 1)) (bools l) = some (bools l) := mapO_self fun x hx => by
  obtain ⟨b, _, rfl⟩ := List.mem_map.1 hx; rfl
theorem RowI.frzN_one {s : St} {B : Nat} {t : TypeId} {l : List AV} {v : AV} (h : RowI s B t 1 l.length l v) (hag : isAggT U t = some false) (hsz : size U t = some 1) (hna : l.all Go.Am.noAgg = true)
    {d : Nat} {r : List AV} (hf : mapO (Go.Am.frzN U s d) l = some r) : Go.Am.frzN U s (d + 1) v = some (encS true r) := by
  rcases h with ⟨h0, rfl, _⟩ | ⟨h0, h1, b, _, _, rfl, hg⟩
  · have : l = [] := List.length_eq_zero_iff.1 h0
    subst this
    cases hf
    rfl
  · rw [frzN_slR rfl hg hag hsz hna hf]
    cases r with
    | nil =>
      cases l with
      | nil => simp at h0
      | cons x l =>
        rw [mapO] at hf
        cases h1 : Go.Am.frzN U s d x with
        | none => rw [h1] at hf; cases hf
        | some y =>
          rw [h1] at hf
          cases h2 : mapO (Go.Am.frzN U s d) l with
          | none => rw [h2] at hf; cases hf
          | some z => rw [h2] at hf; cases hf
    | cons x r => rfl
theorem RowI.stay {s s1 : St} {B : Nat} {t t' : TypeId} {n n' i i' : Nat} {cs cs' : List AV} {v v' : AV} (h : RowI s B t n i cs v) (h' : RowI s B t' n' i' cs' v') (ht : t ≠ t') (hn : s.next ≤ s1.next)
    (hg : ∀ j, j < s.next → v' ≠ .sl j 0 i' none n' → s1.get j = s.get j) : RowI s1 B t n i cs v := by
  rcases h with ⟨h0, h1, h2⟩ | ⟨h0, h1, b, h2, h3, h4, h5⟩
  · exact .inl ⟨h0, h1, h2⟩
  · exact .inr ⟨h0, h1, b, h2, by omega, h4, by rw [hg b h3 (h'.other h5 ht)]; exact h5⟩

theorem wrap_succ {i n : Nat} (h : i < n) (hn : n < 2 ^ 62) : IntKind.i64.wrap ((i : Int) + 1) = ((i + 1 : Nat) : Int) := by rw [wrap_i64] <;> omega
theorem brI_some (k : IntKind) (p : Bool) (x y : Int) : some (AV.int k (br p x y)) = br p (some (.int k x)) (some (.int k y)) := by cases p <;> rfl
theorem br_r {β : Type} {p : Bool} {x y y' : β} (h : p = false → y = y') : br p x y = br p x y' := by
  cases p
  · exact h rfl
  · rfl
theorem RowI.notStill {s : St} {B : Nat} {t : TypeId} {n i : Nat} {cs : List AV} {v : AV} (h : RowI s B t n i cs v) (hi : i ≠ 0) : still v = false := by
  rcases h with ⟨h0, _, _⟩ | ⟨_, _, b, _, _, rfl, _⟩
  · exact absurd h0 hi
  · rfl
end Go.Am
set_option linter.all false
namespace Go.Am
open Go
/-! # Comparisons, and rows in order -/
structure CmpOk {A : Type} (cf : A → A → Int) : Prop where
  neg : ∀ x y, cf y x = - cf x y
  tr : ∀ x y z, cf x y ≤ 0 → cf y z ≤ 0 → cf x z ≤ 0
namespace CmpOk
variable {A : Type} {cf : A → A → Int}
theorem refl (h : CmpOk cf) (x : A) : cf x x = 0 := by have := h.neg x x; omega
theorem lt1 (h : CmpOk cf) {x y z : A} (a : cf x y < 0) (b : cf y z ≤ 0) : cf x z < 0 := by
  have h1 := h.tr x y z (by omega) b
  rcases Int.lt_or_eq_of_le h1 with h2 | h2
  · exact h2
  · have h3 := h.neg x z
    have h4 := h.tr y z x b (by omega)
    have h5 := h.neg x y
    omega
theorem lt2 (h : CmpOk cf) {x y z : A} (a : cf x y ≤ 0) (b : cf y z < 0) : cf x z < 0 := by
  have h1 := h.tr x y z a (by omega)
  rcases Int.lt_or_eq_of_le h1 with h2 | h2
  · exact h2
  · have h3 := h.neg x z
    have h4 := h.tr z x y (by omega) a
    have h5 := h.neg y z
    omega
theorem on {B : Type} (h : CmpOk cf) (f : B → A) : CmpOk fun x y => cf (f x) (f y) := ⟨fun _ _ => h.neg _ _, fun _ _ _ => h.tr _ _ _⟩
theorem swo (h : CmpOk cf) : (∀ x, decide (cf x x < 0) = false) ∧ (∀ x y z, decide (cf x y < 0) = true → decide (cf y z < 0) = true → decide (cf x z < 0) = true) ∧ ∀ x y z, decide (cf x y < 0) = false → decide (cf y z < 0) = false → decide (cf x z < 0) = false := by
  refine ⟨fun x => ?_, fun x y z a b => ?_, fun x y z a b => ?_⟩
  · rw [decide_eq_false_iff_not, h.refl]; omega
  · rw [decide_eq_true_eq] at *
    exact h.lt1 a (by omega)
  · rw [decide_eq_false_iff_not] at *
    have h1 := h.neg x y
    have h2 := h.neg y z
    have h3 := h.neg x z
    have := h.tr z y x (by omega) (by omega)
    omega
end CmpOk
theorem or_le {a b : Int} : orI a b ≤ 0 ↔ a < 0 ∨ (a = 0 ∧ b ≤ 0) := by
  unfold orI
  by_cases h : a = 0
  · subst h; simp
  · have : (a == 0) = false := by simpa using h
    rw [this, cond_false]; omega
theorem orI_neg (a b : Int) : orI (-a) (-b) = - orI a b := by
  unfold orI
  by_cases h : a = 0
  · subst h; simp
  · have h1 : (a == 0) = false := by simpa using h
    have h2 : (-a == 0) = false := by simp; omega
    rw [h1, h2]; rfl
theorem CmpOk.or {A : Type} {c1 c2 : A → A → Int} (h1 : CmpOk c1) (h2 : CmpOk c2) : CmpOk fun x y => orI (c1 x y) (c2 x y) := by
  refine ⟨fun x y => by rw [h1.neg x y, h2.neg x y, orI_neg], fun x y z a b => ?_⟩
  rw [or_le] at *
  rcases a with a | ⟨a, a'⟩
  · rcases b with b | ⟨b, _⟩
    · exact .inl (h1.lt1 a (by omega))
    · exact .inl (h1.lt1 a (by omega))
  · rcases b with b | ⟨b, b'⟩
    · exact .inl (h1.lt2 (by omega) b)
    · right
      refine ⟨?_, h2.tr x y z a' b'⟩
      have g1 := h1.tr x y z (by omega) (by omega)
      have g2 := h1.neg x y
      have g3 := h1.neg y z
      have g4 := h1.neg x z
      have g5 := h1.tr z y x (by omega) (by omega)
      omega
theorem cmpI_ok : CmpOk cmpI := by
  have e : ∀ x y : Int, (x < y ∧ cmpI x y = -1) ∨ (x = y ∧ cmpI x y = 0) ∨ (y < x ∧ cmpI x y = 1) := by
    intro x y
    unfold cmpI
    by_cases h : x < y
    · left; rw [decide_eq_true h]; exact ⟨h, rfl⟩
    · right
      rw [decide_eq_false h, cond_false]
      by_cases h' : y < x
      · right; rw [decide_eq_true h']; exact ⟨h', rfl⟩
      · left; rw [decide_eq_false h']; exact ⟨by omega, rfl⟩
  refine ⟨fun x y => ?_, fun x y z a b => ?_⟩
  · have := e x y; have := e y x; omega
  · have := e x y; have := e y z; have := e x z; omega
theorem blt_iff {a b : UInt8} : Nat.blt a.toNat b.toNat = true ↔ a < b := by rw [Nat.blt_eq]; rfl
theorem cmpB_cons (a b : UInt8) (x y : Str) : cmpB (a :: x) (b :: y) = orI (cmpI a.toNat b.toNat) (cmpB x y) := by
  rw [cmpB, cmpI]
  by_cases h : a.toNat < b.toNat
  · rw [show Nat.blt a.toNat b.toNat = true by rw [Nat.blt_eq]; exact h, decide_eq_true (by omega)]; rfl
  · rw [show Nat.blt a.toNat b.toNat = false by rw [Bool.eq_false_iff, ne_eq, Nat.blt_eq]; exact h, decide_eq_false (by omega), cond_false, cond_false]
    by_cases h' : b.toNat < a.toNat
    · rw [show Nat.blt b.toNat a.toNat = true by rw [Nat.blt_eq]; exact h', decide_eq_true (by omega)]; rfl
    · rw [show Nat.blt b.toNat a.toNat = false by rw [Bool.eq_false_iff, ne_eq, Nat.blt_eq]; exact h', decide_eq_false (by omega)]; rfl
theorem cmpB_neg : ∀ x y : Str, cmpB y x = - cmpB x y
  | [], [] => rfl
  | [], _ :: _ => rfl
  | _ :: _, [] => rfl
  | a :: x, b :: y => by rw [cmpB_cons, cmpB_cons, cmpB_neg x y, cmpI_ok.neg, orI_neg]
theorem cmpB_tr : ∀ x y z : Str, cmpB x y ≤ 0 → cmpB y z ≤ 0 → cmpB x z ≤ 0
  | [], _, [], _, _ => by simp [cmpB]
  | [], _, _ :: _, _, _ => by simp [cmpB]
  | _ :: _, [], _, h, _ => by simp [cmpB] at h
  | _ :: _, _ :: _, [], _, h => by simp [cmpB] at h
  | a :: x, b :: y, c :: z, h1, h2 => by
    rw [cmpB_cons, or_le] at *
    rcases h1 with h1 | ⟨h1, g1⟩
    · rcases h2 with h2 | ⟨h2, _⟩
      · exact .inl (cmpI_ok.lt1 h1 (by omega))
      · exact .inl (cmpI_ok.lt1 h1 (by omega))
    · rcases h2 with h2 | ⟨h2, g2⟩
      · exact .inl (cmpI_ok.lt2 (by omega) h2)
      · right
        refine ⟨?_, cmpB_tr x y z g1 g2⟩
        have k1 := cmpI_ok.tr _ _ _ (Int.le_of_eq h1) (Int.le_of_eq h2)
        have k2 := cmpI_ok.neg (a.toNat : Int) b.toNat
        have k3 := cmpI_ok.neg (b.toNat : Int) c.toNat
        have k4 := cmpI_ok.neg (a.toNat : Int) c.toNat
        have k5 := cmpI_ok.tr (c.toNat : Int) b.toNat a.toNat (by omega) (by omega)
        omega
theorem cmpB_ok : CmpOk cmpB := ⟨cmpB_neg, cmpB_tr⟩
theorem cmpI_zero {x y : Int} : cmpI x y = 0 ↔ x = y := by
  unfold cmpI
  by_cases h : x < y
  · rw [decide_eq_true h, cond_true]; omega
  · rw [decide_eq_false h, cond_false]
    by_cases h' : y < x
    · rw [decide_eq_true h', cond_true]; omega
    · rw [decide_eq_false h', cond_false]; omega
theorem orI_zero {a b : Int} : orI a b = 0 ↔ a = 0 ∧ b = 0 := by
  unfold orI
  by_cases h : a = 0
  · subst h; simp
  · have h1 : (a == 0) = false := by simpa using h
    rw [h1, cond_false]; omega
theorem cmpB_zero : ∀ {x y : Str}, cmpB x y = 0 ↔ x = y
  | [], [] => by simp [cmpB]
  | [], _ :: _ => by simp [cmpB]
  | _ :: _, [] => by simp [cmpB]
  | a :: x, b :: y => by
    rw [cmpB_cons, orI_zero, cmpI_zero, cmpB_zero, List.cons.injEq]
    refine and_congr_left fun _ => ?_
    rw [Int.natCast_inj, UInt8.toNat_inj]
theorem cmpK_ok : CmpOk cmpK := (cmpB_ok.on Shot.i).or (cmpI_ok.on Shot.n)
theorem cmpT_ok : CmpOk cmpT := (cmpI_ok.on Shot.t).or cmpK_ok
theorem cmpOf_ok {c : FuncId} {cf : Shot → Shot → Int} (h : cmpOf c = some cf) : CmpOk cf := by
  unfold cmpOf at h
  split at h
  · cases h; exact cmpK_ok
  · cases h; exact cmpT_ok
  · cases h

/-! ### Sorted rows -/
theorem insS_perm (cf : Shot → Shot → Int) (x : Shot) : ∀ l, (insS cf x l).Perm (x :: l)
  | [] => .refl _
  | y :: l => by
    rw [insS]
    cases decide (cf x y < 0)
    · exact ((insS_perm cf x l).cons y).trans (.swap x y l)
    · exact .refl _
theorem sortS_perm (cf : Shot → Shot → Int) : ∀ l, (sortS cf l).Perm l
  | [] => .refl _
  | x :: l => (insS_perm cf x _).trans ((sortS_perm cf l).cons x)
theorem insS_sorted {cf : Shot → Shot → Int} (h : CmpOk cf) (x : Shot) : ∀ {l}, l.Pairwise (fun a b => cf a b ≤ 0) → (insS cf x l).Pairwise fun a b => cf a b ≤ 0
  | [], _ => by simp [insS]
  | y :: l, hl => by
    rw [insS]
    rw [List.pairwise_cons] at hl
    by_cases hd : cf x y < 0
    · rw [decide_eq_true hd, cond_true, List.pairwise_cons]
      refine ⟨fun z hz => ?_, List.pairwise_cons.2 hl⟩
      rcases List.mem_cons.1 hz with rfl | hz
      · omega
      · exact h.tr x y z (by omega) (hl.1 z hz)
    · rw [decide_eq_false hd, cond_false, List.pairwise_cons]
      refine ⟨fun z hz => ?_, insS_sorted h x hl.2⟩
      rcases List.mem_cons.1 ((insS_perm cf x l).mem_iff.1 hz) with rfl | hz
      · have := h.neg z y; omega
      · exact hl.1 z hz
theorem sortS_sorted {cf : Shot → Shot → Int} (h : CmpOk cf) : ∀ l, (sortS cf l).Pairwise fun a b => cf a b ≤ 0
  | [] => .nil
  | x :: l => insS_sorted h x (sortS_sorted h l)
theorem awayS_iff {cf : Shot → Shot → Int} {x : Shot} : ∀ {l}, awayS cf x l = true ↔ ∀ y ∈ l, cf x y ≠ 0
  | [] => by simp [awayS]
  | y :: l => by
    rw [awayS, Bool.and_eq_true, awayS_iff, List.forall_mem_cons]
    simp
theorem distS_iff {cf : Shot → Shot → Int} : ∀ {l : List Shot}, distS cf l = true ↔ l.Pairwise fun a b => cf a b ≠ 0
  | [] => by simp [distS]
  | x :: l => by rw [distS, Bool.and_eq_true, awayS_iff, distS_iff, List.pairwise_cons]
theorem dist_mem {cf : Shot → Shot → Int} (h : CmpOk cf) : ∀ {l : List Shot}, l.Pairwise (fun a b => cf a b ≠ 0) → ∀ {a b}, a ∈ l → b ∈ l → cf a b = 0 → a = b
  | [], _, _, _, ha, _, _ => absurd ha (by simp)
  | x :: l, hl, a, b, ha, hb, h0 => by
    rw [List.pairwise_cons] at hl
    rcases List.mem_cons.1 ha with ea | ha' <;> rcases List.mem_cons.1 hb with eb | hb'
    · rw [ea, eb]
    · subst ea; exact absurd h0 (hl.1 b hb')
    · subst eb
      have := h.neg a b
      exact absurd (by omega) (hl.1 a ha')
    · exact dist_mem h hl.2 ha' hb' h0
/-- there is one such row alone -/
theorem sort_one {cf : Shot → Shot → Int} (h : CmpOk cf) {l d : List Shot} (hd : distS cf l = true) (hp : d.Perm l) (hs : d.Pairwise fun a b => cf a b ≤ 0) : d = sortS cf l := by
  refine List.Perm.eq_of_pairwise (le := fun a b => cf a b ≤ 0) ?_ hs (sortS_sorted h l) (hp.trans (sortS_perm cf l).symm)
  intro a b ha hb h1 h2
  have h3 := h.neg a b
  exact dist_mem h (distS_iff.1 hd) (hp.mem_iff.1 ha) ((sortS_perm cf l).mem_iff.1 hb) (by omega)
end Go.Am
