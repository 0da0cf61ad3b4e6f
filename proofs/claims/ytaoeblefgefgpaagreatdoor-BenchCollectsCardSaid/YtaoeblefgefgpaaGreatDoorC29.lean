/- A part of the proof of a statement of this seat: the machine on which the program is read, and what it computes; for every input. -/
import Derived.Test.YtaoeblefgefgpaaGreatDoorC22
import Derived.Test.YtaoeblefgefgpaaGreatDoorC17
import Derived.Test.YtaoeblefgefgpaaGreatDoorC23
import Derived.Test.YtaoeblefgefgpaaGreatDoorC24
import Derived.Test.YtaoeblefgefgpaaGreatDoorC25
import Derived.Test.YtaoeblefgefgpaaGreatDoorC27
import Derived.Test.YtaoeblefgefgpaaGreatDoorC28
set_option linter.all false
set_option linter.all false
namespace Go.Am
open Go Go.Proofs
set_option maxRecDepth 100000

/-! # The machine of the seat is sound -/
theorem full_UC : Full UC Tryz.prog := mk_full gbU (fun f => pures.contains f) extU0 (fun _ _ h => gbU_gone h) fun f g h => by
  unfold extU0 at h
  split at h
  · cases h; exact ok_sort
  · cases h
theorem ok_collect {ps : FuncId → Bool} {ext : FuncId → Option (List AV → St → Option (AV × St))} : FnOk (mkU gbU ps ext) Tryz.prog 37 (rowG (X := UC) collectG) :=
  fn_of (gb := gbU) (ps := fun f => pures.contains f) (ext := extU0) (K.collect_ok full_UC)
theorem ok_U1 {ps : FuncId → Bool} {ext : FuncId → Option (List AV → St → Option (AV × St))} {f : FuncId} {g : List AV → St → Option (AV × St)} (h : extU1 f = some g) : FnOk (mkU gbU ps ext) Tryz.prog f g := by
  unfold extU1 at h
  split at h
  · cases h; exact ok_itoa
  · cases h; exact ok_collect
  · cases h; exact ok_sort
  · cases h; exact ok_join
  · cases h; exact ok_delete
  · cases h; exact ok_clone
  · cases h; exact ok_index
  · cases h; exact ok_count
  · cases h
theorem full_U1 : Full U1 Tryz.prog := mk_full gbU (fun f => pures.contains f) extU1 (fun _ _ h => gbU_gone h) fun f g h => ok_U1 h
theorem memo_U1 : memoA U0 = memoA U1 := by kernel_rfl
theorem memo_M1 : memoA U0 = memoA M1 := by kernel_rfl
theorem one_memo {X : Cx} {f : FuncId} {a v : AV} {args : List AV} (h : ∃ n, callQ X (exec X n) f args true = some v) : ∀ e ∈ [((args, some v, none) : List AV × Option AV × Option AV)], ∀ (st : Bool) u, (bif st then e.2.1 else e.2.2) = some u → ∃ n, callQ X (exec X n) f e.1 st = some u := by
  intro e he st u hu
  rw [List.mem_singleton] at he
  subst he
  cases st
  · cases hu
  · cases hu; exact h
theorem two_memo {X : Cx} {f : FuncId} {v v' : AV} {args args' : List AV} (h : ∃ n, callQ X (exec X n) f args true = some v) (h' : ∃ n, callQ X (exec X n) f args' true = some v') : ∀ e ∈ [((args, some v, none) : List AV × Option AV × Option AV), (args', some v', none)], ∀ (st : Bool) u, (bif st then e.2.1 else e.2.2) = some u → ∃ n, callQ X (exec X n) f e.1 st = some u := by
  intro e he st u hu
  simp only [List.mem_cons, List.not_mem_nil, or_false] at he
  rcases he with rfl | rfl
  · cases st
    · cases hu
    · cases hu; exact h
  · cases st
    · cases hu
    · cases hu; exact h'
theorem two_memo' {X : Cx} {f : FuncId} {v v' : AV} {args args' : List AV} (h : ∃ n, callQ X (exec X n) f args true = some v) (h' : ∃ n, callQ X (exec X n) f args' false = some v') : ∀ e ∈ [((args, some v, none) : List AV × Option AV × Option AV), (args', none, some v')], ∀ (st : Bool) u, (bif st then e.2.1 else e.2.2) = some u → ∃ n, callQ X (exec X n) f e.1 st = some u := by
  intro e he st u hu
  simp only [List.mem_cons, List.not_mem_nil, or_false] at he
  rcases he with rfl | rfl
  · cases st
    · cases hu
    · cases hu; exact h
  · cases st
    · cases hu; exact h'
    · cases hu
theorem m1 {ps : FuncId → Bool} {ext : FuncId → Option (List AV → St → Option (AV × St))} {f : FuncId} {m : Memo} (hext : U1.ext f = none) (hp : U1.pure f = true) (h : ∀ e ∈ m, ∀ (st : Bool) v, (bif st then e.2.1 else e.2.2) = some v → ∃ n, callQ U1 (exec U1 n) f e.1 st = some v) : FnOk (mkU gbU ps ext) Tryz.prog f (memoA U0 m) := by
  rw [memo_U1]
  exact fn_of (gb := gbU) (ps := fun f => pures.contains f) (ext := extU1) (memo_ok full_U1 (drawOk full_U1) hext hp h)
theorem ok_M1 {ps : FuncId → Bool} {ext : FuncId → Option (List AV → St → Option (AV × St))} {f : FuncId} {g : List AV → St → Option (AV × St)} (h : extM1 f = some g) : FnOk (mkU gbU ps ext) Tryz.prog f g := by
  unfold extM1 at h
  split at h
  · cases h; exact m1 rfl (by kernel_rfl) (one_memo (a := v18) ⟨_, q18⟩)
  · cases h; exact m1 rfl (by kernel_rfl) (one_memo (a := v18) ⟨_, q19⟩)
  · cases h; exact m1 rfl (by kernel_rfl) (one_memo (a := v18) ⟨_, q23⟩)
  · cases h; exact m1 rfl (by kernel_rfl) (two_memo' ⟨_, q27a⟩ ⟨_, q27b⟩)
  · cases h; exact m1 rfl (by kernel_rfl) (two_memo ⟨_, q77a⟩ ⟨_, q77b⟩)
  · cases h; exact m1 rfl (by kernel_rfl) (two_memo ⟨_, q78a⟩ ⟨_, q78b⟩)
  · cases h; exact m1 rfl (by kernel_rfl) (one_memo (a := v18) ⟨_, q84⟩)
  · cases h; exact m1 rfl (by kernel_rfl) (one_memo (a := v18) ⟨_, q108⟩)
  · exact ok_U1 h
theorem full_M1 : Full M1 Tryz.prog := mk_full gbU (fun f => pures.contains f) extM1 (fun _ _ h => gbU_gone h) fun f g h => ok_M1 h
theorem m2 {ps : FuncId → Bool} {ext : FuncId → Option (List AV → St → Option (AV × St))} {f : FuncId} {m : Memo} (hext : M1.ext f = none) (hp : M1.pure f = true) (h : ∀ e ∈ m, ∀ (st : Bool) v, (bif st then e.2.1 else e.2.2) = some v → ∃ n, callQ M1 (exec M1 n) f e.1 st = some v) : FnOk (mkU gbU ps ext) Tryz.prog f (memoA U0 m) := by
  rw [memo_M1]
  exact fn_of (gb := gbU) (ps := fun f => pures.contains f) (ext := extM1) (memo_ok full_M1 (drawOk full_M1) hext hp h)
theorem ok_M2 {ps : FuncId → Bool} {ext : FuncId → Option (List AV → St → Option (AV × St))} {f : FuncId} {g : List AV → St → Option (AV × St)} (h : extM2 f = some g) : FnOk (mkU gbU ps ext) Tryz.prog f g := by
  unfold extM2 at h
  split at h
  · cases h; exact m2 rfl (by kernel_rfl) (two_memo ⟨_, q41a⟩ ⟨_, q41b⟩)
  · cases h; exact m2 rfl (by kernel_rfl) (two_memo ⟨_, q66⟩ ⟨_, q66b⟩)
  · exact ok_M1 h
theorem full_M2 : Full M2 Tryz.prog := mk_full gbU (fun f => pures.contains f) extM2 (fun _ _ h => gbU_gone h) fun f g h => ok_M2 h
/-! ### The fixed examples -/
theorem pre_exec {X : Cx} {n : Nat} : ∀ (k : Nat) (c : Code) (e : Env) (s : St) (c' : Code) (e' : Env) (s' : St) (r : Out × Env × St), preE X n k c e s = some (e', s', c') → execL X c' e' s' = some r → execL X c e s = some r
  | 0, c, e, s, c', e', s', r, h, hr => by cases h; exact hr
  | k + 1, .seq a b, e, s, c', e', s', r, h, hr => by
    rw [preE] at h
    split at h
    · rename_i e1 s1 h1
      have h2 := exec_leL n _ _ _ _ h1
      have h3 := pre_exec k b e1 s1 c' e' s' r h hr
      rw [execL_eq]
      simp only [stepA, h2, h3]
    · cases h
theorem awake_q : ∃ n, callQ M2 (exec M2 n) 6 [] true = some (.bool true) := by
  have h := aw2
  unfold end17 at h
  split at h
  · rename_i e s1 h1
    have h2 := exec_leL 100000 _ _ _ _ h1
    have h3 := pre_exec 15 c17 _ _ _ _ _ _ aw1 h2
    obtain ⟨n, hn⟩ := execL_iff.1 h3
    refine ⟨n, ?_⟩
    have hb : Tryz.f6.body = some c17 := by kernel_rfl
    have hr : Tryz.f6.results.toList = [.tmp 0] := by kernel_rfl
    have hf : M2.fn 6 = some Tryz.f6 := Tryz.func6
    have hcb : callB M2 (exec M2 n) 6 [] (ownSt M2) = some (Env.get e 0, s1) := by
      unfold callB
      rw [hf]
      simp only [hb, hn n (Nat.le_refl n)]
      unfold resultsA
      rw [hr]
      rfl
    unfold callQ
    rw [hcb]
    simp only [if_true]
    rw [Option.some.inj h]
    rfl
  · cases h
theorem ok_awake {ps : FuncId → Bool} {ext : FuncId → Option (List AV → St → Option (AV × St))} : FnOk (mkU gbU ps ext) Tryz.prog 6 extAwake := by
  refine fn_of (gb := gbU) (ps := fun f => pures.contains f) (ext := extM2) ?_
  obtain ⟨n, hn⟩ := awake_q
  intro args s v s' σ w us h H F G hv
  unfold extAwake at h
  split at h
  · cases h
    have hp : M2.pure 6 = true := by kernel_rfl
    have : callF M2 (exec M2 n) 6 [] s = some (.bool true, s) := by
      unfold callF
      rw [show M2.ext 6 = none from rfl]
      simp only [hp, if_true, callP]
      rw [show frzArgs M2 s [] = some [] from rfl]
      simp only
      rw [show stills [] = true from rfl, hn]
    exact callF_ok full_M2 (exec_sound full_M2 (drawOk full_M2) n) 6 [] s _ s σ w us this H F G hv
  · cases h
theorem full_U : Full U Tryz.prog := mk_full gbU (fun f => pures.contains f) extU (fun _ _ h => gbU_gone h) fun f g h => by
  unfold extU at h
  split at h
  · cases h; exact ok_awake
  · exact ok_U1 h
end Go.Am
