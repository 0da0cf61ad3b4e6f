/- A part of the proof of a statement of this seat: the machine on which the program is read, and what it computes; for every input. -/
import Derived.Test.YtaoeblefgefgpaaGreatDoorC07
set_option linter.all false
set_option linter.all false
namespace Go.Am.O
open Go Go.Am Go.Proofs
set_option maxRecDepth 100000
set_option maxHeartbeats 8000000
noncomputable def U : Cx := U0
noncomputable def extU : FuncId → Option (List AV → St → Option (AV × St)) := fun _ => none
theorem U_und (t : TypeId) : U.und t = Tryz.prog.underlying t := by unfold U; rfl
theorem U_inf (t : TypeId) : U.inf t = Tryz.prog.info? t := by unfold U; rfl
theorem U_ext (f : FuncId) : U.ext f = extU f := by unfold U; rfl
theorem U_pure (f : FuncId) : U.pure f = pures.contains f := by unfold U; rfl
theorem U_gbase (g : Nat) : U.gbase g = none := by unfold U; rfl
theorem U_glob : U.glob = 10 := by unfold U; rfl
theorem U_fn (f : FuncId) : U.fn f = Tryz.prog.funcs[f]? := by unfold U; rfl

/-- a function's body, resolved, and where its results stand -/
noncomputable def fnRC (f : FuncId) : Option (List ResultVar × RC) := match U.fn f with
  | some fn => match fn.body with
    | some c => some (fn.results.toList, rc U c)
    | none => none
  | none => none
theorem fnRC_some {f : FuncId} {rs : List ResultVar} {r : RC} (h : fnRC f = some (rs, r)) : ∃ fn c, U.fn f = some fn ∧ fn.body = some c ∧ fn.results.toList = rs ∧ rc U c = r := by
  unfold fnRC at h
  split at h
  · rename_i fn hf
    split at h
    · rename_i c hb
      cases h
      exact ⟨fn, c, hf, hb, rfl, rfl⟩
    · cases h
  · cases h
noncomputable def isPure (f : FuncId) : Bool := pures.contains f && (extU f).isNone
noncomputable def isKept (f : FuncId) : Bool := !pures.contains f && (extU f).isNone
theorem isPure_of {f : FuncId} (h : isPure f = true) : U.pure f = true ∧ U.ext f = none := by
  rw [isPure, Bool.and_eq_true, Option.isNone_iff_eq_none] at h
  rw [U_pure, U_ext]; exact h
theorem isKept_of {f : FuncId} (h : isKept f = true) : U.pure f = false ∧ U.ext f = none := by
  rw [isKept, Bool.and_eq_true, Option.isNone_iff_eq_none] at h
  rw [U_pure, U_ext]; exact ⟨by have := h.1; simpa using this, h.2⟩

/-- a call in a state of its own, of values that nobody writes -/
theorem pure_go {f : FuncId} {rs : List ResultVar} {r : RC} (h : fnRC f = some (rs, r)) (hp : isPure f = true) {args : List AV} (hst : stills args = true) {v : AV}
    (hg : go U (finP U rs) [] r (bindArgs 0 args .nil) (ownSt U) = some v) : calV U f args = some v := by
  obtain ⟨fn, c, h1, h2, h3, h4⟩ := fnRC_some h
  obtain ⟨p1, p2⟩ := isPure_of hp
  exact calV_pure U p2 p1 h1 h2 h3 h4 hst hg
/-- a call in the state at hand -/
theorem kept_go {f : FuncId} {rs : List ResultVar} {r : RC} (h : fnRC f = some (rs, r)) (hp : isKept f = true) {args : List AV} {s : St} {x : AV × St}
    (hg : go U (finB U rs) [] r (bindArgs 0 args .nil) s = some x) : cal U f args s = some x := by
  obtain ⟨fn, c, h1, h2, h3, h4⟩ := fnRC_some h
  obtain ⟨p1, p2⟩ := isKept_of hp
  unfold cal callF
  rw [p2, p1]
  exact callB_go U h1 h2 h3 h4 hg
/-- with what stands in memory -/
theorem z_of {f : FuncId} (hp : isPure f = true) {args : List AV} (s : St) (hst : stills args = false) : callK U (calV U f args) f args s = calZ U f (mapO (frz U s 4000) args) s :=
  cal_calZ U s (isPure_of hp).2 (isPure_of hp).1 hst
def gateZ (p : Bool) (x : Option (AV × St)) (s : St) : Option (AV × St) := bif p then x else some (undef, s)
theorem gateZ_some (p : Bool) (v : AV) (s : St) : gateZ p (some (v, s)) s = some (bif p then v else undef, s) := by cases p <;> rfl
theorem gateZ_true (x : Option (AV × St)) (s : St) : gateZ true x s = x := (fun h => h) rfl
theorem gateZ_false (x : Option (AV × St)) (s : St) : gateZ false x s = some (undef, s) := (fun h => h) rfl
theorem zg_of {f : FuncId} (hp : isPure f = true) {p : Bool} {args : List AV} (s : St) (hst : stills args = false) : gateC U p (calV U f args) f args s = gateZ p (calZ U f (mapO (frz U s 4000) args) s) s := by
  unfold gateC gateZ
  rw [z_of hp s hst]
theorem flat_frz (s : St) : ∀ (d : Nat) (v v' : AV), frz U s d v = some v' → flat v' = true → v = v' := by
  intro d
  induction d with
  | zero => intro v v' h; simp [frz] at h
  | succ d ih =>
    intro v v' h hf
    have hl : ∀ (l l' : List AV), mapO (frz U s d) l = some l' → flats l' = true → l = l' := by
      intro l
      induction l with
      | nil => intro l' h _; simp only [mapO] at h; cases h; rfl
      | cons x l ihl =>
        intro l' h hf
        simp only [mapO] at h
        split at h
        · rename_i y r h1 h2
          cases h
          simp only [flats, Bool.and_eq_true] at hf
          rw [ih _ _ h1 hf.1, ihl _ h2 hf.2]
        · cases h
    cases v with
    | ptr b o =>
      rw [frz_ptr] at h
      unfold frzP at h
      split at h
      · simp only [fpK, Option.map_eq_some_iff] at h
        obtain ⟨_, _, rfl⟩ := h
        simp [flat] at hf
      · cases h
    | sl b o len cap esz =>
      rw [frz_sl] at h
      unfold frzS frzT fzK at h
      split at h
      · split at h
        · split at h
          · simp only [Option.map_eq_some_iff] at h
            obtain ⟨_, _, rfl⟩ := h
            simp [flat] at hf
          · cases h
        · cases h
      · cases h
    | map r =>
      simp only [frz] at h
      split at h
      · split at h
        · cases h; simp [flat] at hf
        · cases h
      · cases h
    | fn f x y =>
      simp only [frz] at h
      split at h
      · split at h
        · rename_i x' y' h1 h2
          cases h
          simp only [flat, Bool.and_eq_true] at hf
          rw [hl _ _ h1 hf.1.2, hl _ _ h2 hf.2]
        · cases h
      · cases h
    | iface t x =>
      simp only [frz] at h
      split at h
      · rename_i x' h1
        cases h
        simp only [flat] at hf
        rw [ih _ _ h1 hf]
      · cases h
    | agg cs =>
      simp only [frz] at h
      split at h
      · rename_i x' h1
        cases h
        simp only [flat] at hf
        rw [hl _ _ h1 hf]
      · cases h
    | tup cs =>
      simp only [frz] at h
      split at h
      · rename_i x' h1
        cases h
        simp only [flat] at hf
        rw [hl _ _ h1 hf]
      · cases h
    | chan r => simp [frz] at h
    | _ => simp only [frz] at h; cases h; rfl
/-- the calls that the machine runs by itself -/
theorem v_of_q {f : FuncId} (hp : isPure f = true) {args : List AV} (hst : stills args = true) {v : AV} (h : callQ U (execL U) f args true = some v) : calV U f args = some v := by
  refine calV_of fun s => ?_
  obtain ⟨p1, p2⟩ := isPure_of hp
  unfold cal callF
  rw [p2]
  simp only [p1, if_true, callP, frzArgs, hst, h]
theorem und_3 : U.und 3 = some (.int .i64) := by kernel_rfl
theorem und_4 : U.und 4 = some (.bool) := by kernel_rfl
theorem und_5 : U.und 5 = some (.int .u8) := by kernel_rfl
theorem und_9 : U.und 9 = some (.string) := by kernel_rfl
theorem und_27 : U.und 27 = some (.int .i64) := by kernel_rfl
theorem ag_3 : isAggT U 3 = some false := by kernel_rfl
theorem sz_3 : size U 3 = some 1 := by kernel_rfl
theorem ag_4 : isAggT U 4 = some false := by kernel_rfl
theorem sz_4 : size U 4 = some 1 := by kernel_rfl
theorem ag_5 : isAggT U 5 = some false := by kernel_rfl
theorem sz_5 : size U 5 = some 1 := by kernel_rfl
theorem ag_9 : isAggT U 9 = some false := by kernel_rfl
theorem sz_9 : size U 9 = some 1 := by kernel_rfl
theorem ag_27 : isAggT U 27 = some false := by kernel_rfl
theorem sz_27 : size U 27 = some 1 := by kernel_rfl
theorem ag_22 : isAggT U 22 = some false := by kernel_rfl
theorem sz_22 : size U 22 = some 1 := by kernel_rfl
theorem ag_23 : isAggT U 23 = some false := by kernel_rfl
theorem sz_23 : size U 23 = some 1 := by kernel_rfl
theorem ag_30 : isAggT U 30 = some false := by kernel_rfl
theorem sz_30 : size U 30 = some 1 := by kernel_rfl
theorem ag_34 : isAggT U 34 = some false := by kernel_rfl
theorem sz_34 : size U 34 = some 1 := by kernel_rfl
theorem ag_79 : isAggT U 79 = some false := by kernel_rfl
theorem sz_79 : size U 79 = some 1 := by kernel_rfl
theorem ag_159 : isAggT U 159 = some false := by kernel_rfl
theorem sz_159 : size U 159 = some 1 := by kernel_rfl
theorem ag_191 : isAggT U 191 = some false := by kernel_rfl
theorem sz_191 : size U 191 = some 1 := by kernel_rfl
theorem ag_203 : isAggT U 203 = some false := by kernel_rfl
theorem sz_203 : size U 203 = some 1 := by kernel_rfl
theorem ag_42 : isAggT U 42 = some true := by kernel_rfl
theorem sz_42 : size U 42 = some 5 := by kernel_rfl
theorem ag_43 : isAggT U 43 = some true := by kernel_rfl
theorem sz_43 : size U 43 = some 5 := by kernel_rfl
theorem ag_85 : isAggT U 85 = some true := by kernel_rfl
theorem sz_85 : size U 85 = some 2 := by kernel_rfl
theorem ag_99 : isAggT U 99 = some true := by kernel_rfl
theorem sz_99 : size U 99 = some 2 := by kernel_rfl
theorem ag_193 : isAggT U 193 = some true := by kernel_rfl
theorem sz_193 : size U 193 = some 2 := by kernel_rfl
attribute [go_sem ↓] gateZ_true gateZ_false
attribute [go_sem] gateZ_some Int.reduceBEq Int.reduceBNe Int.reduceAdd U_glob und_3 und_4 und_5 und_9 und_27 ag_3 sz_3 ag_4 sz_4 ag_5 sz_5 ag_9 sz_9 ag_27 sz_27 ag_22 sz_22 ag_23 sz_23 ag_30 sz_30 ag_34 sz_34 ag_79 sz_79 ag_159 sz_159 ag_191 sz_191 ag_203 sz_203 ag_42 sz_42 ag_43 sz_43 ag_85 sz_85 ag_99 sz_99 ag_193 sz_193

theorem ld_42 (a : AV) (s : St) : loadA U 42 a s = ldn 5 a s := loadA_n U ag_42 sz_42 a s
theorem ld_43 (a : AV) (s : St) : loadA U 43 a s = ldn 5 a s := loadA_n U ag_43 sz_43 a s
theorem ld_85 (a : AV) (s : St) : loadA U 85 a s = ldn 2 a s := loadA_n U ag_85 sz_85 a s
theorem ld_99 (a : AV) (s : St) : loadA U 99 a s = ldn 2 a s := loadA_n U ag_99 sz_99 a s
theorem ld_193 (a : AV) (s : St) : loadA U 193 a s = ldn 2 a s := loadA_n U ag_193 sz_193 a s
theorem gateV_false (x : Option AV) (s : St) : gateV false x s = some (undef, s) := (fun h => h) rfl
theorem gateC_false (X : Cx) (x : Option AV) (f : FuncId) (args : List AV) (s : St) : gateC X false x f args s = some (undef, s) := (fun h => h) rfl
theorem gateV_true (x : Option AV) (s : St) : gateV true x s = pureO x s := (fun h => h) rfl
theorem gateC_true (X : Cx) (x : Option AV) (f : FuncId) (args : List AV) (s : St) : gateC X true x f args s = callK X x f args s := (fun h => h) rfl
def St.upto (s : St) (k : Nat) : St := { s with next := k }
theorem upto_get (s : St) (k j : Nat) : (s.upto k).get j = s.get j := (fun h => h) rfl
theorem upto_next (s : St) (k : Nat) : (s.upto k).next = k := (fun h => h) rfl
theorem go_drw_upto {X : Cx} {β : Type} (fin : Fl → β) (ks : List K) (e : Env) (s : St) (n : Nat) (l : List RO) : go X fin ks (.drw n l) e s = bif noneR s.next s l then goD' X fin ks s.next l e (s.upto (s.next + n)) else stuck X fin ks := go_drw X fin ks e s n l
theorem gb_none {n : Nat} (h : 10 ≤ n) : U.gbase n = none := by
  rw [U_gbase]
/-- no block stands yet from the counter on -/
def Fr (s : St) : Prop := ∀ j, s.next ≤ j → s.get j = none
theorem Fr.at {s : St} (h : Fr s) (k : Nat) : s.get (s.next + k) = none := h _ (by omega)
theorem Fr.own : Fr (ownSt U) := fun j hj => by
  rw [own_get]; rw [own_next, U_glob] at hj; exact gb_none hj
theorem Fr.new {s : St} (h : Fr s) (x : Blk) : Fr (s.new x) := fun j hj => by
  rw [next_new] at hj; rw [get_new, if_neg (by omega)]; exact h j (by omega)
theorem Fr.put {s : St} (h : Fr s) {k : Nat} (hk : k < s.next) (x : Blk) : Fr (s.put k x) := fun j hj => by
  rw [next_put] at hj; rw [get_put, if_neg (by omega)]; exact h j (by omega)
theorem Fr.upto {s : St} (h : Fr s) {k : Nat} (hk : s.next ≤ k) : Fr (s.upto k) := fun j hj => by
  rw [upto_next] at hj; rw [upto_get]; exact h j (by omega)
attribute [go_sem ↓ high] go_drw_upto
attribute [go_sem ↓] upto_get upto_next
attribute [go_sem] Option.isNone_none gb_none
attribute [go_sem ↓] gateV_false gateC_false gateV_true gateC_true
attribute [go_sem] ld_42 ld_43 ld_85 ld_99 ld_193


/-! # What all walks use -/
/-- the parts of resolved code that are left as they are, in order -/
def raws : RC → List Code
  | .seq a b => raws a ++ raws b
  | .cond _ a b => raws a ++ raws b
  | .block _ b => raws b
  | .loop b => raws b
  | .raw c => [c]
  | _ => []
noncomputable def rawAt (f k : Nat) : Code := match U.fn f with
  | some fn => match fn.body with
    | some c => ((raws (rc U c))[k]?).getD .skip
    | none => .skip
  | none => .skip

theorem br_int (k : IntKind) (p : Bool) (x y : Int) : br p (AV.int k x) (AV.int k y) = .int k (br p x y) := by cases p <;> rfl
theorem br_bool (p x y : Bool) : br p (AV.bool x) (AV.bool y) = .bool (br p x y) := by cases p <;> rfl
theorem br_str (p : Bool) (x y : Str) : br p (AV.str x) (AV.str y) = .str (br p x y) := by cases p <;> rfl
theorem br_tt (p x : Bool) : br p true x = (p || x) := by cases p <;> rfl
theorem br_ff (p x : Bool) : br p false x = (!p && x) := by cases p <;> rfl
attribute [go_sem] br_int br_bool br_str

theorem loop_to {X : Cx} {β : Type} {fin : Fl → β} {ks : List K} [Stat] {b : RC} {σ : Type} (m : σ → Nat) (R : σ → β) (I : σ → Env → St → Prop) (x : σ) {r : β} {e : Env} {s : St}
    (h : ∀ (L : RC) (x : σ) (e : Env) (s : St), I x e s → (∀ (y : σ) (e' : Env) (s' : St), m y < m x → I y e' s' → goL X fin ks L e' s' = R y) → go X fin (.lp L :: ks) b e s = R x)
    (hr : R x = r) (hI : I x e s) : goL X fin ks b e s = r := by
  rw [← hr]; exact loop_rule X fin ks m I R h x hI
theorem ints_len (l : List Int) : (ints l).length = l.length := by simp [ints]
theorem ints_get (l : List Int) (i : Nat) : (ints l)[i]? = (l[i]?).map (.int .i64 ·) := by simp [ints]
theorem ixa_ints {nl : Bool} {l : List Int} {i : Nat} (h : i < l.length) : ixRA 1 (encS nl (ints l)) (.int .i64 (i : Int)) = some (.fp [.int .i64 l[i]] 0) :=
  ixa_encS 1 nl (ints l) .i64 i (.int .i64 l[i]) (by omega) (by rw [Int.toNat_natCast, ints_get, List.getElem?_eq_getElem h]; rfl) rfl (by decide)
theorem bin_slss (X : Cx) (t : TypeId) (c : Bool) (x y : List UInt8) : binA X .lss t c (.str x) (.str y) = some (.bool (bytesLt x y)) := (fun h => h) rfl
theorem bin_sgtr (X : Cx) (t : TypeId) (c : Bool) (x y : List UInt8) : binA X .gtr t c (.str x) (.str y) = some (.bool !(bytesLt x y || x == y)) := (fun h => h) rfl
attribute [go_sem] bin_slss bin_sgtr
theorem nat_lt_dec (a b : Nat) : decide ((a : Int) < (b : Int)) = decide (a < b) := by congr 1; apply propext; omega

theorem calv_fn (X : Cx) (g : FuncId) (x y args : List AV) (s : St) : calv X (.fn (.func g) x y) args s = callK X (calV X g (x ++ args ++ y)) g (x ++ args ++ y) s := by
  rw [← callK_eq]; rfl
attribute [go_sem] calv_fn List.nil_append List.append_nil List.cons_append
theorem noAgg_bools (l : List Bool) : (bools l).all noAgg = true := by
  rw [List.all_eq_true]; intro x hx
  obtain ⟨b, _, rfl⟩ := List.mem_map.1 hx; rfl
theorem noAgg_ints (l : List Int) : (ints l).all noAgg = true := by
  rw [List.all_eq_true]; intro x hx
  obtain ⟨b, _, rfl⟩ := List.mem_map.1 hx; rfl
theorem frz_bools (s : St) (d : Nat) (l : List Bool) : mapO (frz U s (d + 1)) (bools l) = some (bools l) := mapO_self fun x hx => by
  obtain ⟨b, _, rfl⟩ := List.mem_map.1 hx; rfl
theorem frz_ints (s : St) (d : Nat) (l : List Int) : mapO (frz U s (d + 1)) (ints l) = some (ints l) := mapO_self fun x hx => by
  obtain ⟨b, _, rfl⟩ := List.mem_map.1 hx; rfl
theorem bools_len (l : List Bool) : (bools l).length = l.length := by simp [bools]
theorem RowI.frz_bools {s : St} {B : Nat} {l : List Bool} {v : AV} (h : RowI s B 4 1 l.length (bools l) v) (d : Nat) : frz U s (d + 2) v = some (encS true (bools l)) := by
  have h' : RowI s B 4 1 (bools l).length (bools l) v := by rw [bools_len]; exact h
  exact h'.frz_one U ag_4 sz_4 (noAgg_bools l) (Go.Am.O.frz_bools s d l)
theorem RowI.frz_ints {s : St} {B : Nat} {l : List Int} {v : AV} (h : RowI s B 3 1 l.length (ints l) v) (d : Nat) : frz U s (d + 2) v = some (encS true (ints l)) := by
  have h' : RowI s B 3 1 (ints l).length (ints l) v := by rw [ints_len]; exact h
  exact h'.frz_one U ag_3 sz_3 (noAgg_ints l) (Go.Am.O.frz_ints s d l)
theorem bools_get (l : List Bool) (i : Nat) : (bools l)[i]? = (l[i]?).map .bool := by simp [bools]
theorem loop_ex {X : Cx} {β : Type} {fin : Fl → β} {ks : List K} [Stat] {b : RC} {σ : Type} {Post : β → Prop} (m : σ → Nat) (I : σ → Env → St → Prop) (x : σ) {e : Env} {s : St}
    (h : ∀ (L : RC) (x : σ) (e : Env) (s : St), I x e s → (∀ (y : σ) (e' : Env) (s' : St), m y < m x → I y e' s' → Post (goL X fin ks L e' s')) → Post (go X fin (.lp L :: ks) b e s))
    (hI : I x e s) : Post (goL X fin ks b e s) := by
  have key : ∀ n (x : σ) (e : Env) (s : St), m x = n → I x e s → Post (goL X fin ks b e s) := by
    intro n
    induction n using Nat.strongRecOn with
    | ind n ih =>
      intro x e s hx hI
      rw [goL_eq]
      exact h b x e s hI fun y e' s' hy hI' => ih (m y) (by omega) y e' s' rfl hI'
  exact key _ x e s rfl hI
theorem RowI.app2 {s : St} {B : Nat} {t : TypeId} {n i : Nat} {cs : List AV} {v : AV} (h : RowI s B t n i cs v) (hB : B ≤ s.next) {m : Nat} {new : List AV} (hm : m ≠ 0) (hl : new.length = m * n) (hna : new.all Go.Am.noAgg = true) :
    ∃ s1, appD t n m new v s = some (.sl s.next 0 (i + m) none n, s1) ∧ s1.next = s.next + 1 ∧ RowI s1 B t n (i + m) (cs ++ new) (.sl s.next 0 (i + m) none n) ∧ (∀ j, j ≠ s.next → v ≠ .sl j 0 i none n → s1.get j = s.get j) ∧ (Fr s → Fr s1) := by
  rcases h with ⟨rfl, rfl, rfl⟩ | ⟨h0, h1, b, h2, h3, rfl, h5⟩
  · refine ⟨s.new (.cells new t false 0 0), by rw [appD_nils, Nat.zero_add], rfl, .inr ⟨by omega, by rw [Nat.zero_add, List.nil_append]; exact hl, s.next, hB, by rw [next_new]; omega, rfl, by rw [get_new, if_pos rfl]; rfl⟩, fun j hj _ => by rw [get_new, if_neg (by omega)], fun hf => hf.new _⟩
  · refine ⟨(s.put b .gone).new (.cells (cs ++ new) t false 0 0), by rw [appD_sl, h5, appS_cells h1 (by omega) hna], rfl, .inr ⟨by omega, by rw [List.length_append, h1, hl, Nat.add_mul], s.next, hB, by rw [next_new, next_put]; omega, rfl, ?_⟩, fun j hj hv => ?_, fun hf => (hf.put h3 _).new _⟩
    · rw [get_new, next_put, if_pos rfl]
    · have : b ≠ j := fun e => hv (by rw [e])
      rw [get_new, next_put, if_neg (by omega), get_put, if_neg this]
theorem RowI.far {s : St} {B : Nat} {t : TypeId} {n i : Nat} {cs : List AV} {v : AV} (h : RowI s B t n i cs v) {j : Nat} (hj : s.next ≤ j ∨ j < B) : v ≠ .sl j 0 i none n := by
  rintro rfl
  rcases h with ⟨_, h, _⟩ | ⟨_, _, b, h1, h2, h3, _⟩
  · cases h
  · cases h3; omega
theorem RowI.other {s : St} {B : Nat} {t : TypeId} {n i : Nat} {cs : List AV} {v : AV} (h : RowI s B t n i cs v) {j : Nat} {c : List AV} {t' : TypeId} {lo hi : Nat} (hj : s.get j = some (.cells c t' false lo hi)) (ht : t' ≠ t) : v ≠ .sl j 0 i none n := by
  rintro rfl
  rcases h with ⟨_, h, _⟩ | ⟨_, _, b, h1, h2, h3, h4⟩
  · cases h
  · cases h3
    rw [hj] at h4
    cases h4; exact ht rfl
theorem go_drcU {β : Type} {c : Code} {n : Nat} {l : List ROC} (h : rcDrc U c = some (n, l)) (fin : Fl → β) (ks : List K) (e : Env) (s : St) : go U fin ks (.raw c) e s =
    bif noneC s.next s l then goC U (backC U fin ks c e s) fin ks s.next l e (s.upto (s.next + n)) [s.upto (s.next + n)] [] else backC U fin ks c e s := go_drc U h fin ks e s
theorem repeatL_one (x : AV) : ∀ n : Nat, repeatL n [x] = List.replicate n x
  | 0 => rfl
  | n + 1 => by rw [repeatL, repeatL_one x n]; rfl
theorem lay_set : ∀ (cs : List AV) (i : Nat) (x : AV), i < cs.length → lay i [x] cs = some (cs.set i x)
  | [], i, x, h => by simp at h
  | c :: cs, 0, x, h => by rw [lay_zero, lay_nil]; rfl
  | c :: cs, i + 1, x, h => by
    rw [lay_succ, lay_set cs i x (by simpa using h)]; rfl
def part {A : Type} (l : List A) (z : A) (n i : Nat) : List A := l.take i ++ List.replicate (n - i) z
theorem part_len {A : Type} (l : List A) (z : A) {n i : Nat} (h : l.length = n) (hi : i ≤ n) : (part l z n i).length = n := by
  simp [part, h]; omega
theorem part_set {A : Type} (l : List A) (z : A) {n i : Nat} (h : l.length = n) (hi : i < n) : (part l z n i).set i (l[i]'(by omega)) = part l z n (i + 1) := by
  unfold part
  have h1 : (l.take i).length = i := by rw [List.length_take]; omega
  rw [List.set_append, if_neg (by omega), h1, Nat.sub_self, show n - i = (n - (i + 1)) + 1 by omega, List.replicate_succ, List.set_cons_zero, List.take_succ_eq_append_getElem (by omega), List.append_assoc]
  rfl
theorem part_full {A : Type} (l : List A) (z : A) {n : Nat} (h : l.length = n) : part l z n n = l := by
  unfold part; rw [Nat.sub_self, List.replicate_zero, List.append_nil, ← h, List.take_length]
theorem part_none {A : Type} (l : List A) (z : A) (n : Nat) : part l z n 0 = List.replicate n z := by unfold part; simp
theorem pre_get (pre l : List AV) (i : Nat) : (pre ++ l)[pre.length + i]? = l[i]? := by
  rw [List.getElem?_append_right (by omega)]; congr 1; omega
theorem pre_get0 (pre l : List AV) : (pre ++ l)[pre.length]? = l[0]? := pre_get pre l 0
theorem grab_pre (l : List AV) (n : Nat) : ∀ pre : List AV, grab n pre.length (pre ++ l) = grab n 0 l
  | [] => rfl
  | x :: pre => by
    cases n with
    | zero => simp [grab]
    | succ n =>
      show grab (n + 1) (pre.length + 1) (x :: (pre ++ l)) = _
      rw [grab, grab_pre l (n + 1) pre]
theorem ck (f : FuncId) (args : List AV) (s : St) : callK U (calV U f args) f args s = cal U f args s := (callK_eq ..).symm
/-- a call's end, whatever the state -/
def okQ (Q : AV → St → Prop) (x : Option (AV × St)) : Prop := ∃ v s', x = some (v, s') ∧ Q v s'
theorem okQ_some (Q : AV → St → Prop) (v : AV) (s : St) : okQ Q (some (v, s)) = Q v s := by
  apply propext
  constructor
  · rintro ⟨v', s', h, k⟩; cases h; exact k
  · intro h; exact ⟨v, s, rfl, h⟩
theorem kept_ex {f : FuncId} {rs : List ResultVar} {r : RC} (h : fnRC f = some (rs, r)) (hp : isKept f = true) {args : List AV} {s : St} {Q : AV → St → Prop}
    (hg : okQ Q (go U (finB U rs) [] r (bindArgs 0 args .nil) s)) : ∃ v s', cal U f args s = some (v, s') ∧ Q v s' := by
  obtain ⟨v, s', h1, h2⟩ := hg
  exact ⟨v, s', kept_go h hp h1, h2⟩
theorem cz_of {f : FuncId} {us : List AV} {v : AV} (h : calV U f us = some v) (hp : isPure f = true) (hst : stills us = true) (hf : flat v = true) (s : St) : calZ U f (some us) s = some (v, s) := by
  have h := calV_eq h (ownSt U)
  obtain ⟨p1, p2⟩ := isPure_of hp
  unfold cal callF at h
  rw [p2] at h
  simp only [p1, if_true, callP, frzArgs, hst] at h
  split at h
  · rename_i w hq
    cases h
    refine calZ_some U s ?_
    unfold callQ at hq ⊢
    split at hq
    · rename_i v0 s' hB
      simp only [if_true] at hq
      have := flat_frz s' _ _ _ hq hf
      subst this

      simp [hf]
    · cases hq
  · cases h
theorem lay_full : ∀ (vs c : List AV), vs.length = c.length → lay 0 vs c = some vs
  | [], [], _ => rfl
  | v :: vs, x :: c, h => by
    simp only [lay]
    rw [lay_full vs c (by simpa using h)]
theorem frzN_slR {s : St} {b d n : Nat} {cap : Option Nat} {t : TypeId} {l r : List AV} (hn : n = l.length) (hg : s.get b = some (.cells l t false 0 0)) (hag : isAggT U t = some false) (hsz : size U t = some 1) (hna : l.all noAgg = true) (hf : mapO (frzN U s d) l = some r) :
    frzN U s (d + 1) (.sl b 0 n cap 1) = some (.fz r) := by
  subst hn
  simp only [frzN, hg, Nat.mul_one, grab_all, hag, hsz]
  rw [if_pos ⟨trivial, by omega, fun _ => ⟨trivial, hna⟩⟩, chunks_all, hf]
theorem frzN_intsV (s : St) (d : Nat) (l : List Int) : mapO (frzN U s (d + 1)) (ints l) = some (ints l) := mapO_self fun x hx => by
  obtain ⟨b, _, rfl⟩ := List.mem_map.1 hx; rfl
theorem frzN_boolsV (s : St) (d : Nat) (l : List Bool) : mapO (frzN U s (d + 1)) (bools l) = some (bools l) := mapO_self fun x hx => by
  obtain ⟨b, _, rfl⟩ := List.mem_map.1 hx; rfl
theorem RowI.frzN_one {s : St} {B : Nat} {t : TypeId} {l : List AV} {v : AV} (h : RowI s B t 1 l.length l v) (hag : isAggT U t = some false) (hsz : size U t = some 1) (hna : l.all Go.Am.noAgg = true)
    {d : Nat} {r : List AV} (hf : mapO (Go.Am.frzN U s d) l = some r) : Go.Am.frzN U s (d + 1) v = some (encS true r) := by
  rcases h with ⟨h0, rfl, _⟩ | ⟨h0, h1, b, _, _, rfl, hg⟩
  · have : l = [] := List.length_eq_zero_iff.1 h0
    subst this
    cases hf
    rfl
  · rw [frzN_slR rfl hg hag hsz hna hf]
    cases r with
    | nil =>
      cases l with
      | nil => simp at h0
      | cons x l =>
        rw [mapO] at hf
        cases h1 : Go.Am.frzN U s d x with
        | none => rw [h1] at hf; cases hf
        | some y =>
          rw [h1] at hf
          cases h2 : mapO (Go.Am.frzN U s d) l with
          | none => rw [h2] at hf; cases hf
          | some z => rw [h2] at hf; cases hf
    | cons x r => rfl
theorem RowI.stay {s s1 : St} {B : Nat} {t t' : TypeId} {n n' i i' : Nat} {cs cs' : List AV} {v v' : AV} (h : RowI s B t n i cs v) (h' : RowI s B t' n' i' cs' v') (ht : t ≠ t') (hn : s.next ≤ s1.next)
    (hg : ∀ j, j < s.next → v' ≠ .sl j 0 i' none n' → s1.get j = s.get j) : RowI s1 B t n i cs v := by
  rcases h with ⟨h0, h1, h2⟩ | ⟨h0, h1, b, h2, h3, h4, h5⟩
  · exact .inl ⟨h0, h1, h2⟩
  · exact .inr ⟨h0, h1, b, h2, by omega, h4, by rw [hg b h3 (h'.other h5 ht)]; exact h5⟩

theorem wrap_succ {i n : Nat} (h : i < n) (hn : n < 2 ^ 62) : IntKind.i64.wrap ((i : Int) + 1) = ((i + 1 : Nat) : Int) := by rw [wrap_i64] <;> omega
theorem brI_some (k : IntKind) (p : Bool) (x y : Int) : some (AV.int k (br p x y)) = br p (some (.int k x)) (some (.int k y)) := by cases p <;> rfl
theorem br_r {β : Type} {p : Bool} {x y y' : β} (h : p = false → y = y') : br p x y = br p x y' := by
  cases p
  · exact h rfl
  · rfl
theorem RowI.notStill {s : St} {B : Nat} {t : TypeId} {n i : Nat} {cs : List AV} {v : AV} (h : RowI s B t n i cs v) (hi : i ≠ 0) : still v = false := by
  rcases h with ⟨h0, _, _⟩ | ⟨_, _, b, _, _, rfl, _⟩
  · exact absurd h0 hi
  · rfl

end Go.Am.O
