/- A part of the proof of a statement of this seat: the machine on which the program is read, and what it computes; for every input. -/
import Derived.Test.YtaoeblefgefgpaaGreatDoorC07
import Derived.Test.YtaoeblefgefgpaaGreatDoorC15
import Derived.Lib.SmallJoins
import Derived.Lib.AppendIntMem
import Derived.WalkKit
import Derived.Lib.Bytealg
import Derived.Lib.IndexEntry
import Derived.Laws.Externs
set_option linter.all false
set_option linter.all false
namespace Go.Am
open Go Go.Proofs
set_option maxRecDepth 100000

/-! # The machines of the seat are sound -/
theorem mk_in {gb ps ext} {f : FuncId} {fn : Func} (h : (mkU gb ps ext).fn f = some fn) : fn ∈ Tryz.prog.funcs.toList := by
  have h : Tryz.prog.funcs[f]? = some fn := h
  rw [← Array.getElem?_toList] at h
  exact List.mem_of_getElem? h
theorem mk_cx (gb : Nat → Option Blk) (ps : FuncId → Bool) (ext : FuncId → Option (List AV → St → Option (AV × St))) : CxOk (mkU gb ps ext) Tryz.prog := by
  refine ⟨fun t d h => h, fun t d h => h, fun t d h => h, fun t h => ?_, fun t h => h, fun t h => ?_⟩
  · have h : (!Tryz.prog.eqGuardType Tryz.prog.depth t && !Tryz.prog.stoodInHeld t) = true := h
    rw [Bool.and_eq_true, Bool.not_eq_true', Bool.not_eq_true'] at h
    exact h
  · have h : Nat.beq t 354 = true := h
    have := Nat.eq_of_beq_eq_true h
    subst this
    have hk : (match (mkU gb ps ext).und 354 with | some (.int .u8) => true | _ => false) = false := by
      show (match Tryz.prog.underlying 354 with | some (.int .u8) => true | _ => false) = false
      kernel_rfl
    intro e
    rw [e] at hk; cases hk
theorem mk_under (gb : Nat → Option Blk) (ps : FuncId → Bool) (ext : FuncId → Option (List AV → St → Option (AV × St))) : Under W0 (mkU gb ps ext) := ⟨rfl, fun _ => rfl⟩
theorem W0_ok {fn : Func} {c : Code} (hf : fn ∈ Tryz.prog.funcs.toList) (hb : fn.body = some c) : okC W0 fn.ntmps c = true := by
  have h := List.all_eq_true.1 U_ok fn hf
  rw [okAt, hb] at h
  exact h
theorem mk_full (gb : Nat → Option Blk) (ps : FuncId → Bool) (ext : FuncId → Option (List AV → St → Option (AV × St))) (hgb : ∀ i b, gb i = some b → b ≠ .gone) (hext : ∀ f g, ext f = some g → FnOk (mkU gb ps ext) Tryz.prog f g) : Full (mkU gb ps ext) Tryz.prog := by
  refine ⟨mk_cx gb ps ext, fun _ _ => Iff.rfl, okC_under (mk_under gb ps ext), fun f fn c hf hb => W0_ok (mk_in hf) hb, fun f fn hf => ?_, hext, U_mixed, hgb⟩
  have h := List.all_eq_true.1 U_nm fn (mk_in hf)
  rw [Bool.not_eq_true'] at h
  exact h
theorem gbU_gone {i : Nat} {b : Blk} (h : gbU i = some b) : b ≠ .gone := by
  unfold gbU at h
  split at h
  · cases h; simp
  · cases h
/-- it does not matter which functions are told from outside -/
theorem fn_of {gb ps ext ps' ext'} {f : FuncId} {g : List AV → St → Option (AV × St)} (h : FnOk (mkU gb ps ext) Tryz.prog f g) : FnOk (mkU gb ps' ext') Tryz.prog f g := FnOk.congr rfl rfl h

theorem arr3 {us : Array Value} {a b c : Value} (h : us.toList = [a, b, c]) : us = #[a, b, c] := by
  cases us; simp at h; subst h; rfl
theorem arr2 {us : Array Value} {a b : Value} (h : us.toList = [a, b]) : us = #[a, b] := by
  cases us; simp at h; subst h; rfl
theorem arr1 {us : Array Value} {a : Value} (h : us.toList = [a]) : us = #[a] := by
  cases us; simp at h; subst h; rfl
theorem enters_by {P : Program} {f : FuncId} {fn : Func} {c : Code} (hf : P.funcs[f]? = some fn) (hname : (fn.name == "runtime.NumGoroutine") = false) (hb : fn.body = some c) (args : Array Value) (w : World) : (callFunc f args).run P w = .ok (.enter f args) w := by
  have h1 : fn.name ≠ "runtime.NumGoroutine" := by simpa using hname
  simp [callFunc, hf, h1, hb]

section
variable {gb : Nat → Option Blk} {ps : FuncId → Bool} {ext : FuncId → Option (List AV → St → Option (AV × St))}
theorem ok_index : FnOk (mkU gb ps ext) Tryz.prog 245 extIndexByte := by
  intro args s v s' σ w us h H F G hv
  unfold extIndexByte at h
  split at h
  · rename_i l c
    cases h
    obtain ⟨v1, y1, e1, ⟨bs, rfl, hbs⟩, v2, y2, e2, rfl, e3⟩ := hv
    subst e2; rw [e3] at e1
    have := arr2 e1; subst this
    rw [run_callFunc_extern Tryz.func245 (by kernel_rfl) (by kernel_rfl) (by kernel_rfl) (e := Extern.BytealgIndexByte.indexByte) (by kernel_rfl), Lib.run_indexByteString]
    refine ⟨σ, ?_, Good.refl H⟩
    rw [hbs]; rfl
  · cases h
theorem cntB_eq (c : UInt8) : ∀ l : Str, cntB c l = l.count c
  | [] => rfl
  | x :: l => by
    rw [cntB, cntB_eq c l, List.count_cons]
    cases x == c <;> rfl
theorem ok_count : FnOk (mkU gb ps ext) Tryz.prog 253 extCount := by
  intro args s v s' σ w us h H F G hv
  unfold extCount at h
  split at h
  · rename_i l c
    cases h
    obtain ⟨v1, y1, e1, ⟨bs, rfl, hbs⟩, v2, y2, e2, rfl, e3⟩ := hv
    subst e2; rw [e3] at e1
    have := arr2 e1; subst this
    rw [run_callFunc_extern Tryz.func253 (by kernel_rfl) (by kernel_rfl) (by kernel_rfl) (e := Extern.BytealgCount.count) (by kernel_rfl), Lib.run_countString]
    refine ⟨σ, ?_, Good.refl H⟩
    rw [hbs, cntB_eq]; rfl
  · cases h
theorem ok_clone : FnOk (mkU gb ps ext) Tryz.prog 212 extClone := by
  intro args s v s' σ w us h H F G hv
  unfold extClone at h
  split at h
  · rename_i t r
    split at h
    · rename_i es mi hg
      cases h
      obtain ⟨v1, y1, e1, ⟨y, rfl, hy⟩, e3⟩ := hv
      obtain ⟨p, hp, rfl⟩ := vrel_map hy
      rw [e3] at e1
      have := arr1 e1; subst this
      obtain ⟨ces, clock, g1, g2, g3, rfl⟩ := H.map hp hg
      rw [run_callFunc_extern Tryz.func212 (by kernel_rfl) (by kernel_rfl) (by kernel_rfl) (e := Extern.MapsClone.clone) (by kernel_rfl)]
      have hrun : (Extern.MapsClone.clone #[.iface t (.map (some p.b))]).run Tryz.prog w = .ok (.iface t (.map (some w.heap.size))) (w.alloc (.map ces mi.ck)) := by
        have h3 : Extern.MapsClone.clone #[.iface t (.map (some p.b))] = (do
          let .map entries clock ← getObj p.b | Go.stuck "maps.clone: a map expected"
          pure (.iface t (.map (some (← newObj (.map entries clock)))))) := rfl
        rw [h3]
        simp only [Sem.run_bind, run_getObj g1 (by simp), Result.andThen_ok, run_newObj, World.alloc_eq, Sem.run_pure]
      rw [hrun]
      have hf : σ s.next = none := F _ (Nat.le_refl _)
      have hle : Sg.le σ (σ.add s.next ⟨w.heap.size, 0, 0⟩) := Sg.le_add hf
      refine ⟨_, ?_, Good.new H hf (.map es { mi with ro := false }) (by simp) _ 0 ⟨g2.mono hle, g3, rfl⟩⟩
      exact ⟨_, rfl, ⟨_, Sg.add_self _ _ _, rfl⟩⟩
    · cases h
  · cases h
theorem good_below {σ : Sg} {s : St} {w w' : World} (H : HR σ s w) (hB : RowKit.Below w.heap.size w w') : Good σ s w σ s w' := by
  refine ⟨⟨?_, ?_, H.inj, ?_⟩, ⟨Sg.le_refl _, fun _ _ h => .inl h, hB.size, fun c hc _ => hB.block c hc, fun _ _ h => h, hB.os, hB.tape, hB.output, fun h => by cases h⟩, fun _ _ => rfl, Nat.le_refl _, fun _ _ h => h, fun i p h k => (by rw [k] at h; cases h), rfl⟩
  · intro i p h
    have := H.lt i p h
    have := hB.size
    omega
  · intro i p b h1 h2
    obtain ⟨o, h3, h4⟩ := H.blk i p b h1 h2
    exact ⟨o, by rw [hB.block _ (H.lt i p h1)]; exact h3, h4⟩
  · intro c o h
    obtain ⟨h1, h2⟩ := H.fz c o h
    have hc : c < w.heap.size := by
      rcases Nat.lt_or_ge c w.heap.size with h3 | h3
      · exact h3
      · rw [Array.getElem?_eq_none h3] at h1; cases h1
    exact ⟨by rw [hB.block c hc]; exact h1, h2⟩
end
end Go.Am
