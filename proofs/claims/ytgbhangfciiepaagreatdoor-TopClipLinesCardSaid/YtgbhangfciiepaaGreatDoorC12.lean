/- A part of the proof of a statement of this seat: the machine on which the program is read, and what it computes; for every input. -/
import Derived.Test.YtgbhangfciiepaaGreatDoorC05
import Derived.Test.YtgbhangfciiepaaGreatDoorC07
import Derived.Test.YtgbhangfciiepaaGreatDoorC01
import Derived.Lib.SmallJoins
import Derived.WalkKit
import Derived.Lib.Bytealg
import Derived.Lib.IndexEntry
import Derived.Laws.Externs
import Derived.ChangeArms
set_option linter.all false
set_option linter.all false
namespace Go.Am
open Go Go.Proofs
variable [MaxLen]
set_option maxRecDepth 100000

/-! # The machine of the seat is sound -/

theorem U_eqOk (t : TypeId) : U.eqOk t = (!Tryz.prog.eqGuardType Tryz.prog.depth t && !Tryz.prog.stoodInHeld t) := by unfold U; rfl
theorem U_spec (t : TypeId) : U.spec t = false := by unfold U; rfl
theorem U_in {f : FuncId} {fn : Func} (h : U.fn f = some fn) : fn ∈ Tryz.prog.funcs.toList := by
  rw [U_fn] at h
  rw [← Array.getElem?_toList] at h
  exact List.mem_of_getElem? h
theorem U_cx : CxOk U Tryz.prog := by
  refine ⟨fun t d h => ?_, fun t d h => ?_, fun t d h => ?_, fun t h => ?_, fun t h => ?_, fun t h => ?_⟩
  · rw [U_und] at h; exact h
  · rw [U_inf] at h; exact h
  · rw [U_fn] at h; exact h
  · rw [U_eqOk] at h
    rw [Bool.and_eq_true, Bool.not_eq_true', Bool.not_eq_true'] at h
    exact h
  · rw [U_spec]; exact h
  · cases h
theorem arr3 {us : Array Value} {a b c : Value} (h : us.toList = [a, b, c]) : us = #[a, b, c] := by
  cases us; simp at h; subst h; rfl
theorem arr2 {us : Array Value} {a b : Value} (h : us.toList = [a, b]) : us = #[a, b] := by
  cases us; simp at h; subst h; rfl
theorem arr1 {us : Array Value} {a : Value} (h : us.toList = [a]) : us = #[a] := by
  cases us; simp at h; subst h; rfl
theorem ok_152 : FnOk U Tryz.prog 152 extIndexByte := by
  intro args s v s' σ w us h H F G hv
  unfold extIndexByte at h
  split at h
  · rename_i l c
    cases h
    obtain ⟨v1, y1, e1, ⟨bs, rfl, hbs⟩, v2, y2, e2, rfl, e3⟩ := hv
    subst e2; rw [e3] at e1
    have := arr2 e1; subst this
    rw [run_callFunc_extern Tryz.func152 (by kernel_rfl) (by kernel_rfl) (by kernel_rfl) (e := Extern.BytealgIndexByte.indexByte) (by kernel_rfl), Lib.run_indexByteString]
    refine ⟨σ, ?_, Good.refl H⟩
    rw [hbs]; rfl
  · cases h
theorem ok_111 : FnOk U Tryz.prog 111 extBits := by
  intro args s v s' σ w us h H F G hv
  unfold extBits at h
  split at h
  · cases h
    obtain ⟨v1, y1, e1, rfl, e3⟩ := hv
    rw [e3] at e1
    have := arr1 e1; subst this
    rw [run_callFunc_extern Tryz.func111 (by kernel_rfl) (by kernel_rfl) (by kernel_rfl) (e := Extern.MathFloatBits.float64bits) (by kernel_rfl)]
    exact ⟨σ, rfl, Good.refl H⟩
  · cases h
theorem ok_114 : FnOk U Tryz.prog 114 extFrom := by
  intro args s v s' σ w us h H F G hv
  unfold extFrom at h
  split at h
  · cases h
    obtain ⟨v1, y1, e1, rfl, e3⟩ := hv
    rw [e3] at e1
    have := arr1 e1; subst this
    rw [run_callFunc_extern Tryz.func114 (by kernel_rfl) (by kernel_rfl) (by kernel_rfl) (e := Extern.MathFloatBits.float64frombits) (by kernel_rfl)]
    exact ⟨σ, rfl, Good.refl H⟩
  · cases h
def eAdd : Array Value → Sem Value := fun args => do
  let (x, y, c) ← Extern.MathBitsCarry.three "Add64" args
  pure (Extern.MathBitsCarry.pair ((x + y + c) % Extern.MathBitsCarry.m64) ((x + y + c) / Extern.MathBitsCarry.m64))
def eSub : Array Value → Sem Value := fun args => do
  let (x, y, b) ← Extern.MathBitsCarry.three "Sub64" args
  pure (Extern.MathBitsCarry.pair ((x + Extern.MathBitsCarry.m64 - y - b) % Extern.MathBitsCarry.m64) (if x < y + b then 1 else 0))
theorem ok_131 : FnOk U Tryz.prog 131 extAdd := by
  intro args s v s' σ w us h H F G hv
  unfold extAdd at h
  split at h
  · rename_i x y c
    cases hc : Nat.ble c.toNat 1
    · rw [hc] at h; cases h
    rw [hc] at h
    cases h
    have hc := Nat.le_of_ble_eq_true hc
    obtain ⟨v1, y1, e1, rfl, v2, y2, e2, rfl, v3, y3, e4, rfl, e5⟩ := hv
    subst e4; rw [e5] at e2; subst e2
    have := arr3 e1; subst this
    rw [run_callFunc_extern Tryz.func131 (by kernel_rfl) (by kernel_rfl) (by kernel_rfl) (e := eAdd) (by kernel_rfl)]
    have hn : ¬ c.toNat > 1 := by omega
    have hr : (eAdd #[.int .u64 x, .int .u64 y, .int .u64 c]).run Tryz.prog w = .ok (Extern.MathBitsCarry.pair ((x.toNat + y.toNat + c.toNat) % Extern.MathBitsCarry.m64) ((x.toNat + y.toNat + c.toNat) / Extern.MathBitsCarry.m64)) w := by
      have h3 : Extern.MathBitsCarry.three "Add64" #[.int .u64 x, .int .u64 y, .int .u64 c] = (do
          if c.toNat > 1 then unsupported (.noEntry ("extern/math/bits." ++ "Add64" ++ ": a carry that is neither 0 nor 1"))
          pure (x.toNat, y.toNat, c.toNat)) := rfl
      simp only [eAdd, h3, hn, if_false, Sem.run_bind, Sem.run_pure, Result.andThen_ok]
    rw [hr]
    exact ⟨σ, ⟨_, rfl, _, _, rfl, rfl, _, _, rfl, rfl, rfl⟩, Good.refl H⟩
  · cases h
theorem ok_151 : FnOk U Tryz.prog 151 extSub := by
  intro args s v s' σ w us h H F G hv
  unfold extSub at h
  split at h
  · rename_i x y c
    cases hc : Nat.ble c.toNat 1
    · rw [hc] at h; cases h
    rw [hc] at h
    cases h
    have hc := Nat.le_of_ble_eq_true hc
    obtain ⟨v1, y1, e1, rfl, v2, y2, e2, rfl, v3, y3, e4, rfl, e5⟩ := hv
    subst e4; rw [e5] at e2; subst e2
    have := arr3 e1; subst this
    rw [run_callFunc_extern Tryz.func151 (by kernel_rfl) (by kernel_rfl) (by kernel_rfl) (e := eSub) (by kernel_rfl)]
    have hn : ¬ c.toNat > 1 := by omega
    have hr : (eSub #[.int .u64 x, .int .u64 y, .int .u64 c]).run Tryz.prog w = .ok (Extern.MathBitsCarry.pair ((x.toNat + Extern.MathBitsCarry.m64 - y.toNat - c.toNat) % Extern.MathBitsCarry.m64) (if x.toNat < y.toNat + c.toNat then 1 else 0)) w := by
      have h3 : Extern.MathBitsCarry.three "Sub64" #[.int .u64 x, .int .u64 y, .int .u64 c] = (do
          if c.toNat > 1 then unsupported (.noEntry ("extern/math/bits." ++ "Sub64" ++ ": a carry that is neither 0 nor 1"))
          pure (x.toNat, y.toNat, c.toNat)) := rfl
      simp only [eSub, h3, hn, if_false, Sem.run_bind, Sem.run_pure, Result.andThen_ok]
    rw [hr]
    have hq : (bif Nat.blt x.toNat (y.toNat + c.toNat) then (1 : Int) else 0) = ((if x.toNat < y.toNat + c.toNat then 1 else 0 : Nat) : Int) := by
      by_cases hb : x.toNat < y.toNat + c.toNat
      · rw [if_pos hb, show Nat.blt x.toNat (y.toNat + c.toNat) = true from by simpa [Nat.blt_eq] using hb]; rfl
      · rw [if_neg hb, show Nat.blt x.toNat (y.toNat + c.toNat) = false from by rw [Bool.eq_false_iff]; intro h; exact hb (by simpa [Nat.blt_eq] using h)]; rfl
    rw [hq]
    exact ⟨σ, ⟨_, rfl, _, _, rfl, rfl, _, _, rfl, rfl, rfl⟩, Good.refl H⟩
  · cases h
theorem enters_by {P : Program} {f : FuncId} {fn : Func} {c : Code} (hf : P.funcs[f]? = some fn) (hname : (fn.name == "runtime.NumGoroutine") = false) (hb : fn.body = some c) (args : Array Value) (w : World) : (callFunc f args).run P w = .ok (.enter f args) w := by
  have h1 : fn.name ≠ "runtime.NumGoroutine" := by simpa using hname
  simp [callFunc, hf, h1, hb]
theorem enters_18 (args : Array Value) (w : World) : (callFunc 18 args).run Tryz.prog w = .ok (.enter 18 args) w := enters_by Tryz.func18 (by kernel_rfl) rfl args w
theorem nan_read {w : Nat} (hf : w % 2 ^ 31 > 255 * 2 ^ 23) : ∃ s p, Ieee.single.read w = .nan s p := by
  have c1 : Ieee.single.signWeight = 2 ^ 31 := rfl
  have c2 : Ieee.single.binade = 2 ^ 23 := rfl
  have c3 : Ieee.single.infRung = 255 * 2 ^ 23 := rfl
  unfold Ieee.Format.read
  simp only [c1, c2, c3]
  rw [if_neg (by omega), if_neg (by omega), if_neg (by omega)]
  exact ⟨_, _, rfl⟩
theorem fin_iff (b : Nat) : fin32 b = true ↔ b % 2 ^ 31 < 255 * 2 ^ 23 := by
  unfold fin32; rw [Nat.blt_eq]
theorem sub_run (b : Nat) (w : World) : ∃ r w1, (binOp .sub 24 (.float .f32 b) (.float .f32 b)).run Tryz.prog w = .ok (.float .f32 r) w1 ∧ (w1 = w ∨ w1 = w.drew) ∧ (Ieee.single.order r 0 == some .eq) = fin32 b := by
  have hb : binOp .sub 24 (.float .f32 b) (.float .f32 b) = (match Ieee.single.sub b b with
    | some r => pure (.float .f32 r)
    | none => do pure (.float .f32 (← choose (.nanBits .f32 b b)))) := rfl
  rw [hb]
  cases hf : fin32 b with
  | true =>
    rw [sub_self32 ((fin_iff b).1 hf)]
    exact ⟨0, w, rfl, .inl rfl, by decide⟩
  | false =>
    rw [sub_self_none (fun h => by rw [(fin_iff b).2 h] at hf; cases hf)]
    refine ⟨_, w.drew, rfl, .inr rfl, ?_⟩
    generalize w.tape w.drawn (.nanBits .f32 b b) = t
    show (Ieee.single.order ((t % 2) * 2 ^ 31 + 0x7f800000 + 1 + (t / 2) % (2 ^ 23 - 1)) 0 == some .eq) = false
    have hx : (t / 2) % (2 ^ 23 - 1) < 2 ^ 23 - 1 := Nat.mod_lt _ (by omega)
    generalize (t / 2) % (2 ^ 23 - 1) = x at *
    generalize t % 2 = a at *
    obtain ⟨s, p, h⟩ := nan_read (w := a * 2 ^ 31 + 0x7f800000 + 1 + x) (by omega)
    unfold Ieee.Format.order
    rw [h]; rfl
set_option maxHeartbeats 2000000 in
theorem fin_calls (b : Nat) (w : World) :
    Calls Tryz.prog 18 #[.float .f32 b] w fun e w' => e = .returned (.bool (fin32 b)) ∧ (w' = w ∨ w' = w.drew) := by
  obtain ⟨r, w1, h1, h2, h3⟩ := sub_run b w
  have h4 : (binOp .eql 24 (.float .f32 r) (.float .f32 0)).run Tryz.prog w1 = .ok (.bool (fin32 b)) w1 := by
    rw [← h3]; rfl
  go_enter Tryz.func18, Tryz.ntmps18
  go_wp2
  go_ret
  exact ⟨rfl, h2⟩
theorem ok_18 : FnOk U Tryz.prog 18 extFin := by
  intro args s v s' σ w us h H F G hv
  unfold extFin at h
  split at h
  · rename_i b
    cases h
    obtain ⟨v1, y1, e1, rfl, e3⟩ := hv
    rw [e3] at e1
    have := arr1 e1; subst this
    rw [enters_18]
    show Calls _ _ _ _ _
    refine (fin_calls b w).mono ?_
    rintro e w' ⟨rfl, rfl | rfl⟩
    · exact ⟨_, rfl, σ, rfl, Good.refl H⟩
    · exact ⟨_, rfl, σ, rfl, (Good.refl H).drew⟩
  · cases h
theorem U_ok' {f : FuncId} {fn : Func} {c : Code} (hf : U.fn f = some fn) (hb : fn.body = some c) : okC U fn.ntmps c = true := by
  have h := List.all_eq_true.1 U_ok fn (U_in hf)
  rw [okAt, hb] at h
  exact h
theorem U_full : Full U Tryz.prog := by
  refine ⟨U_cx, fun _ _ => Iff.rfl, fun f fn c hf hb => U_ok' hf hb, fun f fn hf => ?_, fun f g h => ?_, U_mixed, fun i b h => ?_⟩
  · have h := List.all_eq_true.1 U_nm fn (U_in hf)
    rw [Bool.not_eq_true'] at h
    exact h
  · rw [U_ext] at h
    unfold extU at h
    split at h
    · cases h; exact ok_18
    · cases h; exact ok_111
    · cases h; exact ok_114
    · cases h; exact ok_131
    · cases h; exact ok_151
    · cases h; exact ok_152
    · cases h
  · rw [U_gbase] at h; cases h
end Go.Am
set_option linter.all false
namespace Go.Am
open Go
/-! # What comes in: read as values of the machine that nobody writes -/

theorem list_of {A : Type} {Q : Nat → A → Prop} : ∀ n : Nat, (∀ i, i < n → ∃ y, Q i y) → ∃ l : List A, l.length = n ∧ ∀ i y, l[i]? = some y → Q i y
  | 0, _ => ⟨[], rfl, fun i y h => by simp at h⟩
  | n + 1, h => by
    obtain ⟨l, h1, h2⟩ := list_of n fun i hi => h i (by omega)
    obtain ⟨y, hy⟩ := h n (by omega)
    refine ⟨l ++ [y], by simp [h1], fun i z hz => ?_⟩
    by_cases hi : i < l.length
    · rw [List.getElem?_append_left hi] at hz
      exact h2 i z hz
    · rw [List.getElem?_append_right (by omega)] at hz
      have : i = n := by
        rcases Nat.lt_or_ge (i - l.length) 1 with h | h
        · omega
        · rw [List.getElem?_eq_none (by simp; omega)] at hz; cases hz
      subst this
      rw [h1, Nat.sub_self] at hz
      cases hz; exact hy
theorem flat_at {k : Nat} {f : Nat → Option Value} : ∀ (us : List Value) (off : Nat), (∀ u ∈ us, u.cells.size = k) → (∀ q u, us[q]? = some u → ∀ r x, u.cells.toList[r]? = some x → f (off + q * k + r) = some x) →
    ∀ i v, (us.flatMap fun u => u.cells.toList)[i]? = some v → f (off + i) = some v
  | [], off, _, _, i, v, h => by simp at h
  | u :: us, off, hs, hq, i, v, h => by
    rw [List.flatMap_cons] at h
    have hk : u.cells.toList.length = k := by rw [Array.length_toList]; exact hs u (List.mem_cons_self ..)
    by_cases hi : i < k
    · rw [List.getElem?_append_left (by omega)] at h
      have := hq 0 u rfl i v h
      rwa [Nat.zero_mul, Nat.add_zero] at this
    · rw [List.getElem?_append_right (by omega), hk] at h
      have := flat_at us (off + k) (fun u hu => hs u (List.mem_cons_of_mem _ hu)) (fun q u' hu r x hx => by
        have := hq (q + 1) u' (by simpa using hu) r x hx
        rw [Nat.succ_mul] at this
        rw [show off + k + q * k + r = off + (q * k + k) + r from by omega]; exact this) (i - k) v h
      rwa [show off + k + (i - k) = off + i from by omega] at this
theorem vrels_of {σ : Sg} {A : Type} (enc : A → AV) : ∀ (l : List A) (us : List Value), l.length = us.length → (∀ (i : Nat) (a : A) (u : Value), l[i]? = some a → us[i]? = some u → vrel σ (enc a) u) → vrels σ (l.map enc) us
  | [], [], _, _ => rfl
  | a :: l, u :: us, h, H => by
    rw [List.map_cons, vrels]
    exact ⟨u, us, rfl, H 0 a u rfl rfl, vrels_of enc l us (by simpa using h) fun i a' u' h1 h2 => H (i + 1) a' u' (by simpa using h1) (by simpa using h2)⟩
  | [], _ :: _, h, _ => by simp at h
  | _ :: _, [], h, _ => by simp at h
theorem mapM_range_some {f : Nat → Option Value} {n : Nat} {l : List Value} (h : (List.range n).mapM f = some l) : l.length = n ∧ ∀ i, i < n → f i = l[i]? := by
  have key : ∀ (m : List Nat) (l : List Value), m.mapM f = some l → l.length = m.length ∧ ∀ i (hi : i < m.length), f m[i] = l[i]? := by
    intro m
    induction m with
    | nil => intro l h; simp at h; subst h; exact ⟨rfl, fun i hi => by simp at hi⟩
    | cons a m ih =>
      intro l h
      rw [List.mapM_cons] at h
      cases ha : f a with
      | none => rw [ha] at h; cases h
      | some x =>
        rw [ha] at h
        cases hm : m.mapM f with
        | none => rw [hm] at h; cases h
        | some l' =>
          rw [hm] at h
          cases h
          obtain ⟨h1, h2⟩ := ih l' hm
          refine ⟨by simp [h1], fun i hi => ?_⟩
          cases i with
          | zero => exact ha
          | succ i => simpa using h2 i (by simpa using hi)
  obtain ⟨h1, h2⟩ := key _ _ h
  rw [List.length_range] at h1
  refine ⟨h1, fun i hi => ?_⟩
  have := h2 i (by rw [List.length_range]; exact hi)
  rwa [List.getElem_range] at this
theorem cells_some {w : World} {base : Nat} {a : Addr} {n : Nat} {cs : List Value} (h : w.cells? base a n = some cs) : cs.length = n ∧ ∀ i, i < n → w.cell? (a.add i) = cs[i]? := by
  unfold World.cells? at h
  split at h
  · exact mapM_range_some h
  · cases h
theorem cell_some {w : World} {a : Addr} {v : Value} (h : w.cell? a = some v) : a.spot = none ∧ ∃ cc e fz, w.heap[a.block]? = some (.cells cc e fz) ∧ cc[a.off]? = some v := by
  unfold World.cell? at h
  split at h
  · rename_i c e fz hc
    split at h
    · cases h
    · rename_i hs
      refine ⟨?_, c, e, fz, hc, h⟩
      cases hsp : a.spot with
      | none => rfl
      | some x => rw [hsp] at hs; simp at hs
  · cases h
theorem add_block (a : Addr) (n : Nat) : (a.add n).block = a.block := by unfold Addr.add; split <;> rfl
theorem add_off (a : Addr) (n : Nat) : (a.add n).off = a.off + n := by
  unfold Addr.add; split
  · rename_i h; subst h; rfl
  · rfl

variable {H : Type} {enc : TypeId × Value → H} {P : Program} {w : World} {σ : Sg}
/-- an encoder of data whose cells are a type's -/
def encS' (nl : Bool) (l : List AV) : AV := match nl, l with
  | true, [] => .nils
  | _, l => .fz l
theorem open_row (hz : ∀ b o, w.heap[b]? = some o → σ.fz b = some o) {A : Type} (en : A → AV) {k : Nat} (hk : k ≠ 0) {e t : TypeId} (ht : P.underlying t = some (.slice e)) (hc : P.cellsOf e = k) {base : Nat} {spare : Nat → Bool} {held : Bool} {fuel : Nat} {cs : List Value} {x : DataW H × List MemPlace}
    (h : DataW.trod enc P w base spare held fuel t cs = some x) (HE : ∀ m cs x, m < fuel → DataW.trod enc P w base spare held m e cs = some x → ∃ (y : A) (u : Value), vrel σ.bare (en y) u ∧ u.cells.toList = cs) :
    ∃ (nl : Bool) (l : List A) (v : Value), cs = [v] ∧ vrel σ.bare (encS' nl (l.map en)) v ∧ l.length ≤ maxLen := by
  rcases DataW.trod_slice ht h with ⟨rfl, _⟩ | ⟨a, len, cap, elems, rest, n, hn, rfl, _, _, h1, h2, h3, h4, _, _⟩
  · exact ⟨true, [], _, rfl, rfl, Nat.zero_le _⟩
  · have hex : ∀ i, i < len → ∃ yu : A × Value, vrel σ.bare (en yu.1) yu.2 ∧ yu.2.cells.size = k ∧ ∀ r v, yu.2.cells.toList[r]? = some v → w.cell? ((a.add (i * k)).add r) = some v := by
      intro i hi
      have := h4 i hi
      rw [hc] at this
      have hs : ∃ z, elems[i]? = some z := ⟨elems[i]'(by omega), List.getElem?_eq_getElem _⟩
      obtain ⟨z, hz'⟩ := hs
      rw [hz'] at this
      cases hcs : w.cells? base (a.add (i * k)) k with
      | none => rw [hcs] at this; cases this
      | some c =>
        rw [hcs] at this
        obtain ⟨y, u, hu, hu2⟩ := HE n c z (by omega) this
        obtain ⟨g1, g2⟩ := cells_some hcs
        refine ⟨(y, u), hu, ?_, fun r v hr => ?_⟩
        · rw [← Array.length_toList, hu2, g1]
        · rw [hu2] at hr
          rw [g2 r (by
            rcases Nat.lt_or_ge r c.length with h | h
            · omega
            · rw [List.getElem?_eq_none h] at hr; cases hr)]
          exact hr
    obtain ⟨l, hl, hl2⟩ := list_of len hex
    have hus : ∀ q u, (l.map Prod.snd)[q]? = some u → ∃ yu : A × Value, l[q]? = some yu ∧ yu.2 = u := fun q u hq => by
      rw [List.getElem?_map] at hq
      obtain ⟨yu, h7, h8⟩ := Option.map_eq_some_iff.1 hq
      exact ⟨yu, h7, h8⟩
    refine ⟨false, l.map Prod.fst, _, rfl, ?_, by rw [List.length_map]; omega⟩
    have hfz : encS' false ((l.map Prod.fst).map en) = .fz ((l.map Prod.fst).map en) := by
      cases (l.map Prod.fst).map en <;> rfl
    rw [hfz, vrel]
    refine ⟨a, cap, l.map Prod.snd, by rw [List.length_map, List.length_map, hl], by rw [List.length_map, List.length_map, hl]; exact h1, ?_, ?_⟩
    · refine vrels_of en _ _ (by simp) fun i y u h5 h6 => ?_
      obtain ⟨yu, h7, rfl⟩ := hus i u h6
      rw [List.getElem?_map, h7] at h5
      cases h5
      exact (hl2 i yu h7).1
    · cases l with
      | nil => exact .inl rfl
      | cons yu l =>
        right
        obtain ⟨g1, g2, g3⟩ := hl2 0 yu rfl
        have hc0 : ∃ v, yu.2.cells.toList[0]? = some v := ⟨yu.2.cells.toList[0]'(by rw [Array.length_toList]; omega), List.getElem?_eq_getElem _⟩
        obtain ⟨v0, hv0⟩ := hc0
        obtain ⟨s1, cc, e', fz, s2, s3⟩ := cell_some (g3 0 v0 hv0)
        have hsp : a.spot = none := by
          have h8 := g3 0 v0 hv0
          rw [Nat.zero_mul] at h8
          exact (cell_some (a := a) (by simpa [Addr.add] using h8)).1
        rw [add_block, add_block] at s2
        refine ⟨hsp, cc, e', fz, k, hz _ _ s2, hk, fun u hu => ?_, ?_⟩
        · obtain ⟨q, hq⟩ := List.mem_iff_getElem?.1 hu
          obtain ⟨yu', h7, rfl⟩ := hus q u hq
          exact (hl2 q yu' h7).2.1
        · refine flat_at (k := k) (f := fun i => cc[i]?) _ a.off (fun u hu => ?_) fun q u hq r x hx => ?_
          · obtain ⟨q, hq⟩ := List.mem_iff_getElem?.1 hu
            obtain ⟨yu', h7, rfl⟩ := hus q u hq
            exact (hl2 q yu' h7).2.1
          · obtain ⟨yu', h7, rfl⟩ := hus q u hq
            obtain ⟨_, cc', e'', fz', s4, s5⟩ := cell_some ((hl2 q yu' h7).2.2 r x hx)
            rw [add_block, add_block, s2] at s4
            cases s4
            rw [add_off, add_off] at s5
            exact s5
end Go.Am
