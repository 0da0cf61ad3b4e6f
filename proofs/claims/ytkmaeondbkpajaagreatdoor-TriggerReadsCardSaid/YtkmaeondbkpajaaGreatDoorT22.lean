/- A part of the proof of a statement of this seat: the machine on which the program is read, and what it computes; for every input. -/
import Derived.Test.YtkmaeondbkpajaaGreatDoorT05
import Derived.Test.YtkmaeondbkpajaaGreatDoorT21
import Derived.Test.YtkmaeondbkpajaaGreatDoorT01
import Derived.Lib.SmallJoins
import Derived.Lib.AppendIntMem
import Derived.WalkKit
import Derived.Lib.Builder
import Derived.Lib.Bytealg
import Derived.Lib.IndexEntry
import Derived.Laws.Externs
import Derived.ChangeArms
set_option linter.all false
set_option linter.all false
namespace Go.Am
open Go Go.Proofs
variable [MaxLen]
set_option maxRecDepth 100000

/-! # The machine of the seat is sound -/

theorem U_eqOk (t : TypeId) : U.eqOk t = (!Tryz.prog.eqGuardType Tryz.prog.depth t && !Tryz.prog.stoodInHeld t) := by unfold U; rfl
theorem U_spec (t : TypeId) : U.spec t = (Nat.beq t 150 || Nat.beq t 313) := by unfold U; rfl
theorem U_in {f : FuncId} {fn : Func} (h : U.fn f = some fn) : fn ∈ Tryz.prog.funcs.toList ∧ f ≠ 36 := by
  rw [U_fn] at h
  cases hb : Nat.beq f 36
  · rw [hb] at h
    rw [cond_false, ← Array.getElem?_toList] at h
    exact ⟨List.mem_of_getElem? h, by rintro rfl; cases hb⟩
  · rw [hb] at h; cases h
theorem spec_207 {t : TypeId} (h : Stat.spec t = true) : t = 150 ∨ t = 313 := by
  have h : (Nat.beq t 150 || Nat.beq t 313) = true := h
  rw [Bool.or_eq_true] at h
  exact h.imp Nat.eq_of_beq_eq_true Nat.eq_of_beq_eq_true
theorem U_cx : CxOk U Tryz.prog := by
  refine ⟨fun t d h => ?_, fun t d h => ?_, fun t d h => ?_, fun t h => ?_, fun t h => ?_, fun t h => ?_⟩
  · rw [U_und] at h; exact h
  · rw [U_inf] at h; exact h
  · rw [U_fn] at h
    cases hb : Nat.beq t 36
    · rw [hb] at h; exact h
    · rw [hb] at h; cases h
  · rw [U_eqOk] at h
    rw [Bool.and_eq_true, Bool.not_eq_true', Bool.not_eq_true'] at h
    exact h
  · rw [U_spec]; exact h
  · rcases spec_207 h with rfl | rfl
    · have hk : (match U.und 150 with | some (.int .u8) => true | _ => false) = false := by kernel_rfl
      intro e
      rw [e] at hk; cases hk
    · have hk : (match U.und 313 with | some (.int .u8) => true | _ => false) = false := by kernel_rfl
      intro e
      rw [e] at hk; cases hk
theorem arr2 {us : Array Value} {a b : Value} (h : us.toList = [a, b]) : us = #[a, b] := by
  cases us; simp at h; subst h; rfl
theorem arr1 {us : Array Value} {a : Value} (h : us.toList = [a]) : us = #[a] := by
  cases us; simp at h; subst h; rfl
theorem ok_272 : FnOk U Tryz.prog 256 extIndexByte := by
  intro args s v s' σ w us h H F G hv
  unfold extIndexByte at h
  split at h
  · rename_i l c
    cases h
    obtain ⟨v1, y1, e1, ⟨bs, rfl, hbs⟩, v2, y2, e2, rfl, e3⟩ := hv
    subst e2; rw [e3] at e1
    have := arr2 e1; subst this
    rw [run_callFunc_extern Tryz.func256 (by kernel_rfl) (by kernel_rfl) (by kernel_rfl) (e := Extern.BytealgIndexByte.indexByte) (by kernel_rfl), Lib.run_indexByteString]
    refine ⟨σ, ?_, Good.refl H⟩
    rw [hbs]; rfl
  · cases h
theorem index_not (c : UInt8) (m : List UInt8) : ∀ l : List UInt8, l.contains c = false → Lib.index l (c :: m) = -1
  | [], _ => rfl
  | b :: l, h => by
    simp only [List.contains_cons, Bool.or_eq_false_iff] at h
    have ih := index_not c m l h.2
    have hp : (c :: m).isPrefixOf (b :: l) = false := by
      simp only [List.isPrefixOf, h.1, Bool.false_and]
    unfold Lib.index
    rw [hp, ih]; rfl
theorem glob_0 {σ : Sg} {s : St} {w : World} (H : HR σ s w) (G : GlobOk U σ) : w.cell? ⟨0, 0, none⟩ = some (.int .i64 MaxLen.val) := by
  obtain ⟨n, h1, h2⟩ := G 0 (by rw [U_glob]; omega)
  obtain ⟨_, o, h4, h5⟩ := h2 (.cells [.int .i64 MaxLen.val] 3 true 0 0) (by rw [U_gbase]; rfl)
  have h6 := (H.fz 0 o h4).1
  cases o with
  | cells cc e fz =>
    obtain ⟨_, _, _, h7, _⟩ := h5
    obtain ⟨v, h8, h9⟩ := h7 0 (.int .i64 MaxLen.val) rfl
    have h9 : v = .int .i64 MaxLen.val := h9
    subst h9
    simp only [World.cell?, h6]
    simpa using h8
  | map => exact h5.elim
  | stringIter => exact h5.elim
  | loop => exact h5.elim
  | _ => exact h5.elim
theorem ok_250 : FnOk U Tryz.prog 223 extIndexStr := by
  intro args s v s' σ w us h H F G hv
  unfold extIndexStr at h
  split at h
  · rename_i l c m
    split at h
    · rename_i hc
      cases h
      simp only [Bool.and_eq_true, Bool.not_eq_true', decide_eq_true_eq] at hc
      obtain ⟨⟨⟨h1, h2⟩, h3⟩, h4⟩ := hc
      obtain ⟨v1, y1, e1, ⟨bs, rfl, hbs⟩, v2, y2, e2, ⟨bt, rfl, hbt⟩, e3⟩ := hv
      subst e2; rw [e3] at e1
      have := arr2 e1; subst this
      have hm := glob_0 H G
      have s1 : bs.size = l.length := by rw [← hbs]; exact (Array.length_toList ..).symm
      have s2 : bt.size = m.length + 1 := by
        have : bt.size = bt.data.toList.length := (Array.length_toList ..).symm
        rw [this, hbt]; rfl
      rw [run_callFunc_extern Tryz.func223 (by kernel_rfl) (by kernel_rfl) (by kernel_rfl) (e := Extern.BytealgIndex.index) (by kernel_rfl), Lib.run_indexString bs bt w 0 MaxLen.val (by kernel_rfl) hm (by omega) (by omega) (by omega)]
      refine ⟨σ, ?_, Good.refl H⟩
      rw [hbs, hbt, index_not c m l h1]; rfl
    · cases h
  · cases h
set_option maxHeartbeats 2000000 in
theorem copy_fresh (b : Nat) (w : World) (h0 : w.cell? ⟨b, 0, none⟩ = some (.pointer none)) (hsh : w.shape? b = some (150, 2)) (hfz : w.frozen? ⟨b, 0, none⟩ = false) :
    Calls Tryz.prog 147 #[.pointer (some ⟨b, 0, none⟩)] w fun e w' => e = .returned (.tuple #[]) ∧ w' = w.setCell ⟨b, 0, none⟩ (.pointer (some ⟨b, 0, none⟩)) := by
  obtain ⟨j, hj, hjs⟩ : ∃ j, Tryz.prog.info? 150 = some j ∧ j.size = 2 := by
    have h : (Tryz.prog.info? 150).map (·.size) = some 2 := by kernel_rfl
    exact Option.map_eq_some_iff.1 h
  go_enter Tryz.func147, Tryz.ntmps147
  go_wp2
  rw [Lib.run_to_unsafe w ⟨b, 0, none⟩ Tryz.underlying147 Tryz.underlying268 hj (by rw [hjs]; decide) hsh (Nat.zero_lt_succ 1)]
  simp only [Result.andThen]
  rw [Oper.upon_value]
  go_wp2
  rw [run_callFunc_extern Tryz.func196 (by kernel_rfl) (by kernel_rfl) (by kernel_rfl) (e := Extern.AbiNoEscape.same) (by kernel_rfl)]
  rw [Lib.run_noEscape]
  simp only [Result.andThen]
  rw [Oper.upon_value]
  go_wp2
  rw [Lib.run_from_unsafe w ⟨b, 0, none⟩ Tryz.underlying268 Tryz.underlying147 hj hsh (by kernel_rfl)]
  simp only [Result.andThen]
  rw [Oper.upon_value]
  go_wp2
  go_end0
  exact ⟨rfl, rfl⟩
set_option maxHeartbeats 2000000 in
theorem copy_used (b : Nat) (w : World) (h0 : w.cell? ⟨b, 0, none⟩ = some (.pointer (some ⟨b, 0, none⟩))) :
    Calls Tryz.prog 147 #[.pointer (some ⟨b, 0, none⟩)] w fun e w' => e = .returned (.tuple #[]) ∧ w' = w := by
  obtain ⟨j, hj, hjs⟩ : ∃ j, Tryz.prog.info? 150 = some j ∧ j.size = 2 := by
    have h : (Tryz.prog.info? 150).map (·.size) = some 2 := by kernel_rfl
    exact Option.map_eq_some_iff.1 h
  go_enter Tryz.func147, Tryz.ntmps147
  go_wp2
  rw [Lib.run_neq_ptr_same w _ Tryz.underlying147 hj]
  go_wp2
  go_end0
  exact ⟨rfl, rfl⟩

theorem enters_by {P : Program} {f : FuncId} {fn : Func} {c : Code} (hf : P.funcs[f]? = some fn) (hname : (fn.name == "runtime.NumGoroutine") = false) (hb : fn.body = some c) (args : Array Value) (w : World) : (callFunc f args).run P w = .ok (.enter f args) w := by
  have h1 : fn.name ≠ "runtime.NumGoroutine" := by simpa using hname
  simp [callFunc, hf, h1, hb]
theorem enters_182 (args : Array Value) (w : World) : (callFunc 147 args).run Tryz.prog w = .ok (.enter 147 args) w := enters_by Tryz.func147 (by kernel_rfl) rfl args w
theorem ok_182 : FnOk U Tryz.prog 147 extCopy := by
  intro args s v s' σ w us h H F G hv
  unfold extCopy at h
  split at h
  · rename_i b
    split at h
    · rename_i p buf t hg
      split at h
      · rename_i ht
        subst ht
        obtain ⟨v1, y1, e1, ⟨pl, hpl, rfl⟩, e2⟩ := hv
        rw [e2] at e1
        have := arr1 e1; subst this
        have hl : s.look b = some (.cells [p, buf] 150 false 0 0) := St.look_some hg (by simp)
        obtain ⟨cc, fz, h1, h2, h3, h4, h5⟩ := H.cells hpl hl
        obtain ⟨q1, q2⟩ := H.spec hpl hl rfl
        have hsz : cc.size = 2 := by rw [h2, q2]; rfl
        obtain ⟨c0, hc0, hr0⟩ := h4 0 p rfl
        rw [q1] at hc0
        have hcell : w.cell? ⟨pl.b, 0, none⟩ = some c0 := by rw [cell_of_block h1]; simpa using hc0
        have hpl0 : pl.sh + 0 = 0 := by omega
        rw [hpl0, enters_182]
        show Calls _ _ _ _ _
        split at h
        · cases h
          have hr0 : c0 = .pointer none := hr0
          subst hr0
          have hsh : w.shape? pl.b = some (150, 2) := by simp only [World.shape?, h1, hsz]
          have hnf := h5 rfl 0
          have hfr : w.frozen? ⟨pl.b, 0, none⟩ = false := by
            obtain ⟨flo, fhi⟩ := fz
            simp only [World.frozen?, h1]
            rw [Bool.eq_false_iff]
            intro hh
            simp only [Bool.and_eq_true, decide_eq_true_eq] at hh
            have := hnf (by simp only; omega) (by simp only; omega) (by omega)
            omega
          obtain ⟨w', hw, hgood⟩ := writeCells_run (P := Tryz.prog) (s' := s.put b (.cells [.ptr b 0, buf] 150 false 0 0)) (o := 0) (xs := [.ptr b 0]) (us := [.pointer (some ⟨pl.b, pl.sh + 0, none⟩)]) H hpl ⟨_, _, rfl, ⟨pl, hpl, rfl⟩, rfl⟩ (by simp [writeCells, hg, noAgg, lay])
          rw [hpl0] at hw
          have hrun : (storeCells ⟨pl.b, 0, none⟩ [.pointer (some ⟨pl.b, 0, none⟩)]).run Tryz.prog w = .ok () (w.setCell ⟨pl.b, 0, none⟩ (.pointer (some ⟨pl.b, 0, none⟩))) := by
            have ha : (⟨pl.b, 0, none⟩ : Addr).add 0 = ⟨pl.b, 0, none⟩ := rfl
            simp only [storeCells, Sem.run_bind, ha]
            rw [run_store Tryz.prog w _ _ .plain rfl]
            simp only [hcell, hfr, Bool.false_eq_true, if_false, Result.andThen_ok]
            rfl
          rw [hrun] at hw
          cases hw
          refine (copy_fresh pl.b w hcell hsh hfr).mono ?_
          rintro e w' ⟨rfl, rfl⟩
          exact ⟨_, rfl, σ, ⟨#[], rfl, rfl⟩, hgood⟩
        · rename_i b'
          split at h
          · rename_i hb
            subst hb
            cases h
            obtain ⟨pl', hpl', rfl⟩ := hr0
            rw [hpl] at hpl'
            cases hpl'
            rw [hpl0] at hcell
            refine (copy_used pl.b w hcell).mono ?_
            rintro e w' ⟨rfl, rfl⟩
            exact ⟨_, rfl, σ, ⟨#[], rfl, rfl⟩, Good.refl H⟩
          · cases h
        · cases h
      · cases h
    · cases h
  · cases h
/-! ### Atoi and Itoa, by the shelf's contracts -/
theorem good_below {σ : Sg} {s : St} {w w' : World} (H : HR σ s w) (hB : RowKit.Below w.heap.size w w') : Good σ s w σ s w' := by
  refine ⟨⟨?_, ?_, H.inj, ?_⟩, ⟨Sg.le_refl _, fun _ _ h => .inl h, hB.size, fun c hc _ => hB.block c hc, fun _ _ h => h, hB.os, hB.tape, hB.output⟩, fun _ _ => rfl, Nat.le_refl _, fun _ _ h => h, fun i p h k => (by rw [k] at h; cases h), rfl⟩
  · intro i p h
    have := H.lt i p h
    have := hB.size
    omega
  · intro i p b h1 h2
    obtain ⟨o, h3, h4⟩ := H.blk i p b h1 h2
    exact ⟨o, by rw [hB.block _ (H.lt i p h1)]; exact h3, h4⟩
  · intro c o h
    obtain ⟨h1, h2⟩ := H.fz c o h
    have hc : c < w.heap.size := by
      rcases Nat.lt_or_ge c w.heap.size with h3 | h3
      · exact h3
      · rw [Array.getElem?_eq_none h3] at h1; cases h1
    exact ⟨by rw [hB.block c hc]; exact h1, h2⟩
def Sg.addF (σ : Sg) (N : Nat) (o : Obj) : Sg := { m := σ.m, fz := fun c => if c = N then some o else σ.fz c }
theorem fz_lt {σ : Sg} {s : St} {w : World} (H : HR σ s w) {c : Nat} {o : Obj} (h : σ.fz c = some o) : c < w.heap.size := by
  have h1 := (H.fz c o h).1
  rcases Nat.lt_or_ge c w.heap.size with h3 | h3
  · exact h3
  · rw [Array.getElem?_eq_none h3] at h1; cases h1
theorem addF_le {σ : Sg} {s : St} {w : World} (H : HR σ s w) {N : Nat} (o : Obj) (hN : w.heap.size ≤ N) : Sg.le σ (σ.addF N o) := by
  refine ⟨fun _ _ h => h, fun c o' h => ?_⟩
  have := fz_lt H h
  show (if c = N then some o else σ.fz c) = some o'
  rw [if_neg (by omega)]; exact h
theorem good_below1 {σ : Sg} {s : St} {w w' : World} (H : HR σ s w) (hB : RowKit.Below w.heap.size w w') {N : Nat} {o : Obj} (hN : w.heap.size ≤ N) (hw : w'.heap[N]? = some o) : Good σ s w (σ.addF N o) s w' := by
  have hle := addF_le H o hN
  have G := good_below H hB
  have owns : ∀ c, Owns (σ.addF N o) s c → Owns σ s c := fun c h => h
  refine ⟨⟨G.hr.lt, ?_, G.hr.inj, ?_⟩, ⟨hle, ?_, hB.size, fun c hc _ => hB.block c hc, fun c _ h => owns c h, hB.os, hB.tape, hB.output⟩, fun _ _ => rfl, Nat.le_refl _, fun _ _ h => h, fun i p h k => ?_, rfl⟩
  · intro i p b h1 h2
    obtain ⟨o', h3, h4⟩ := G.hr.blk i p b h1 h2
    exact ⟨o', h3, h4.mono hle⟩
  · intro c o' h
    have h : (if c = N then some o else σ.fz c) = some o' := h
    by_cases hc : c = N
    · subst hc
      rw [if_pos rfl] at h
      cases h
      refine ⟨hw, ?_⟩
      rintro ⟨i, p, b, h1, h2, h3, h4⟩
      have := H.lt i p h1
      omega
    · rw [if_neg hc] at h
      obtain ⟨h1, h2⟩ := G.hr.fz c o' h
      exact ⟨h1, fun h3 => h2 (owns c h3)⟩
  · intro c o' h
    have h : (if c = N then some o else σ.fz c) = some o' := h
    by_cases hc : c = N
    · exact .inr (by omega)
    · rw [if_neg hc] at h; exact .inl h
  · have h : σ i = some p := h
    rw [k] at h; cases h
theorem glob_cells {σ : Sg} {s : St} {w : World} (H : HR σ s w) (G : GlobOk U σ) {g : Nat} {c : List AV} {t : TypeId} (hg : g < 8) (hc : gcell g = some (c, t)) :
    ∃ cc fz, w.heap[g]? = some (.cells cc t fz) ∧ (∀ j a, c[j]? = some a → ∃ v, cc[0 + j]? = some v ∧ vrel σ.bare a v) ∧ (Stat.spec t = true → cc.size = c.length) := by
  obtain ⟨n, h1, h2⟩ := G g (by rw [U_glob]; exact hg)
  obtain ⟨_, o, h4, h5⟩ := h2 (.cells c t true 0 0) (by rw [U_gbase]; unfold gbU; rw [hc])
  have h6 := (H.fz g o h4).1
  cases o with
  | cells cc e fz =>
    obtain ⟨q1, q2, q3, q4, _, q5⟩ := h5
    subst q3
    exact ⟨cc, fz, h6, q4, fun h => by rw [q1]; exact (q5 h).2⟩
  | map => exact h5.elim
  | stringIter => exact h5.elim
  | loop => exact h5.elim
  | _ => exact h5.elim
theorem tab10 {σ : Sg} {s : St} {w : World} (H : HR σ s w) (G : GlobOk U σ) : Lib.TabIs Tryz.prog w "internal/strconv.uint64pow10" .u64 Lib.pow10Tab := by
  obtain ⟨cc, fz, h1, h2, h3⟩ := glob_cells H G (g := 1) (by omega) rfl
  have hz : cc.size = 20 := h3 rfl
  have hg : Tryz.prog.globalNamed "internal/strconv.uint64pow10" = some 1 := by kernel_rfl
  unfold Lib.TabIs World.var?
  rw [hg]
  simp only [Option.bind_some, h1, Option.some.injEq]
  have hlen : (Lib.pow10Tab.map fun z => Value.int .u64 z).length = 20 := by rw [List.length_map, Lib.pow10Tab_length]
  refine Array.ext (by rw [hz]; exact hlen.symm) fun j hj hj' => ?_
  rw [hz] at hj
  have hj2 : j < Lib.pow10Tab.length := by rw [Lib.pow10Tab_length]; exact hj
  have e : (Lib.pow10Tab.map fun z => AV.int .u64 z)[j]? = some (.int .u64 Lib.pow10Tab[j]) := by rw [List.getElem?_map, List.getElem?_eq_getElem hj2]; rfl
  obtain ⟨v, q1, q2⟩ := h2 j _ e
  have q2 : v = .int .u64 Lib.pow10Tab[j] := q2
  rw [Nat.zero_add, Array.getElem?_eq_getElem (by omega), Option.some.injEq] at q1
  rw [q1, q2]
  simp
theorem enters_75 (args : Array Value) (w : World) : (callFunc 75 args).run Tryz.prog w = .ok (.enter 75 args) w := enters_by Tryz.func75 (by kernel_rfl) rfl args w
theorem enters_160 (args : Array Value) (w : World) : (callFunc 160 args).run Tryz.prog w = .ok (.enter 160 args) w := enters_by Tryz.func160 (by kernel_rfl) rfl args w
theorem ok_75 : FnOk U Tryz.prog 75 extItoa := by
  intro args s v s' σ w us h H F G hv
  unfold extItoa at h
  split at h
  · rename_i n
    cases hc : (decide (-2 ^ 63 ≤ n) && decide (n < 2 ^ 63))
    · rw [hc] at h; cases h
    rw [hc] at h
    cases h
    rw [Bool.and_eq_true, decide_eq_true_eq, decide_eq_true_eq] at hc
    obtain ⟨v1, y1, e1, rfl, e2⟩ := hv
    rw [e2] at e1
    have := arr1 e1; subst this
    rw [enters_75]
    show Calls _ _ _ _ _
    refine (Any.strconv_Itoa Tryz.l171 n (by omega) (by omega) w (tab10 H G)).mono ?_
    rintro e w' ⟨rfl, k, os, rfl⟩
    refine ⟨_, rfl, σ, ⟨_, rfl, ?_⟩, good_below H (Lib.below_grow _ w (Nat.le_refl _) k os)⟩
    rw [itoE_eq hc.1 hc.2]
  · cases h
theorem ok_160 : FnOk U Tryz.prog 160 extAtoi := by
  intro args s v s' σ w us h H F G hv
  unfold extAtoi at h
  split at h
  · rename_i l
    cases hl : Nat.ble l.length 5000
    · rw [hl] at h; cases h
    rw [hl] at h
    cases h
    have hl := Nat.le_of_ble_eq_true hl
    obtain ⟨v1, y1, e1, ⟨bs, rfl, hbs⟩, e2⟩ := hv
    rw [e2] at e1
    have := arr1 e1; subst this
    have hsz : bs.size = l.length := by rw [← hbs]; exact (Array.length_toList ..).symm
    rw [enters_160]
    show Calls _ _ _ _ _
    unfold atoiV
    cases ha : Lib.atoiAll l
    · rename_i n
      refine (Any.strconv_Atoi_ok Tryz.l172 bs (by omega) n (by rw [hbs]; exact ha) w).mono ?_
      rintro e w' ⟨rfl, hw⟩
      refine ⟨_, rfl, σ, ⟨#[_, _], rfl, ⟨_, _, rfl, rfl, _, _, rfl, rfl, rfl⟩⟩, ?_⟩
      rcases hw with rfl | ⟨t, rfl⟩
      · exact Good.refl H
      · exact good_below H (Joins.below_bytesWorld _ w _ t (Nat.le_refl _))
    · obtain ⟨cc, fz, h1, h2, _⟩ := glob_cells H G (g := 2) (by omega) rfl
      obtain ⟨ev, q1, q2⟩ := h2 0 errS rfl
      obtain ⟨pe, he, q3⟩ := q2
      have hv : w.cell? ⟨2, 0, none⟩ = some ev := by rw [cell_of_block h1]; exact q1
      refine (Any.strconv_Atoi_syntax Tryz.l172 bs (by omega) (by rw [hbs]; exact ha) ev w hv (.inr ⟨_, _, he⟩)).mono ?_
      rintro e w' ⟨N, rfl, hN, hw, hB⟩
      have hle := addF_le H (.cells #[.string ⟨#[65, 116, 111, 105]⟩, .string bs, ev] 327 (0, 0)) hN
      refine ⟨_, rfl, σ.addF N _, ⟨#[_, _], rfl, ⟨_, _, rfl, rfl, _, _, rfl, ⟨_, rfl, ⟨N, 0, [.string ⟨#[65, 116, 111, 105]⟩, .string bs, ev], _, _, _, rfl, if_pos rfl, ?_, ?_⟩⟩, rfl⟩⟩, good_below1 H hB hN hw⟩
      · refine ⟨_, _, rfl, ⟨_, rfl, rfl⟩, _, _, rfl, ⟨_, rfl, hbs⟩, _, _, rfl, ?_, rfl⟩
        exact vrel.mono hle.bare _ _ ⟨pe, he, q3⟩
      · intro i u hu
        rw [Nat.zero_add, ← Array.getElem?_toList]; exact hu
    · obtain ⟨cc, fz, h1, h2, _⟩ := glob_cells H G (g := 3) (by omega) rfl
      obtain ⟨ev, q1, q2⟩ := h2 0 errR rfl
      obtain ⟨pe, he, q3⟩ := q2
      have hv : w.cell? ⟨3, 0, none⟩ = some ev := by rw [cell_of_block h1]; exact q1
      refine (Any.strconv_Atoi_range Tryz.l172 bs (by omega) (by rw [hbs]; exact ha) ev w hv (.inr ⟨_, _, he⟩)).mono ?_
      rintro e w' ⟨N, rfl, hN, hw, hB⟩
      have hle := addF_le H (.cells #[.string ⟨#[65, 116, 111, 105]⟩, .string bs, ev] 327 (0, 0)) hN
      refine ⟨_, rfl, σ.addF N _, ⟨#[_, _], rfl, ⟨_, _, rfl, by rw [hbs]; rfl, _, _, rfl, ⟨_, rfl, ⟨N, 0, [.string ⟨#[65, 116, 111, 105]⟩, .string bs, ev], _, _, _, rfl, if_pos rfl, ?_, ?_⟩⟩, rfl⟩⟩, good_below1 H hB hN hw⟩
      · refine ⟨_, _, rfl, ⟨_, rfl, rfl⟩, _, _, rfl, ⟨_, rfl, hbs⟩, _, _, rfl, ?_, rfl⟩
        exact vrel.mono hle.bare _ _ ⟨pe, he, q3⟩
      · intro i u hu
        rw [Nat.zero_add, ← Array.getElem?_toList]; exact hu
  · cases h
theorem U_ok' {f : FuncId} {fn : Func} {c : Code} (hf : U.fn f = some fn) (hb : fn.body = some c) : okC U fn.ntmps c = true := by
  obtain ⟨hm, hne⟩ := U_in hf
  have h := List.all_eq_true.1 U_ok fn hm
  rw [okAt, hb, Bool.or_eq_true] at h
  rcases h with h | h
  · exfalso
    apply hne
    have hu : (Tryz.prog.funcs.toList.zipIdx.all fun x => !(x.1.name == Tryz.f36.name) || Nat.beq x.2 36) = true := by kernel_rfl
    have hf' := U_cx.fn f fn hf
    rw [← Array.getElem?_toList] at hf'
    have hz : (fn, f) ∈ Tryz.prog.funcs.toList.zipIdx := by
      rw [List.mem_iff_getElem?]
      exact ⟨f, by rw [List.getElem?_zipIdx, hf']; simp⟩
    have := List.all_eq_true.1 hu _ hz
    simp only [h, Bool.not_true, Bool.false_or] at this
    exact Nat.eq_of_beq_eq_true this
  · exact h
theorem U_full : Full U Tryz.prog := by
  refine ⟨U_cx, fun _ _ => Iff.rfl, fun f fn c hf hb => U_ok' hf hb, fun f fn hf => ?_, fun f g h => ?_, U_mixed, fun i b h => ?_⟩
  · have h := List.all_eq_true.1 U_nm fn (U_in hf).1
    rw [Bool.not_eq_true'] at h
    exact h
  · rw [U_ext] at h
    unfold extU at h
    split at h
    · cases h; exact ok_75
    · cases h; exact ok_182
    · cases h; exact ok_160
    · cases h; exact ok_250
    · cases h; exact ok_272
    · cases h
  · rw [U_gbase] at h
    unfold gbU at h
    split at h
    · cases h; simp
    · cases h
end Go.Am
set_option linter.all false
namespace Go.Am
open Go
/-! # What comes in: read as values of the machine that nobody writes -/

theorem list_of {A : Type} {Q : Nat → A → Prop} : ∀ n : Nat, (∀ i, i < n → ∃ y, Q i y) → ∃ l : List A, l.length = n ∧ ∀ i y, l[i]? = some y → Q i y
  | 0, _ => ⟨[], rfl, fun i y h => by simp at h⟩
  | n + 1, h => by
    obtain ⟨l, h1, h2⟩ := list_of n fun i hi => h i (by omega)
    obtain ⟨y, hy⟩ := h n (by omega)
    refine ⟨l ++ [y], by simp [h1], fun i z hz => ?_⟩
    by_cases hi : i < l.length
    · rw [List.getElem?_append_left hi] at hz
      exact h2 i z hz
    · rw [List.getElem?_append_right (by omega)] at hz
      have : i = n := by
        rcases Nat.lt_or_ge (i - l.length) 1 with h | h
        · omega
        · rw [List.getElem?_eq_none (by simp; omega)] at hz; cases hz
      subst this
      rw [h1, Nat.sub_self] at hz
      cases hz; exact hy
theorem flat_at {k : Nat} {f : Nat → Option Value} : ∀ (us : List Value) (off : Nat), (∀ u ∈ us, u.cells.size = k) → (∀ q u, us[q]? = some u → ∀ r x, u.cells.toList[r]? = some x → f (off + q * k + r) = some x) →
    ∀ i v, (us.flatMap fun u => u.cells.toList)[i]? = some v → f (off + i) = some v
  | [], off, _, _, i, v, h => by simp at h
  | u :: us, off, hs, hq, i, v, h => by
    rw [List.flatMap_cons] at h
    have hk : u.cells.toList.length = k := by rw [Array.length_toList]; exact hs u (List.mem_cons_self ..)
    by_cases hi : i < k
    · rw [List.getElem?_append_left (by omega)] at h
      have := hq 0 u rfl i v h
      rwa [Nat.zero_mul, Nat.add_zero] at this
    · rw [List.getElem?_append_right (by omega), hk] at h
      have := flat_at us (off + k) (fun u hu => hs u (List.mem_cons_of_mem _ hu)) (fun q u' hu r x hx => by
        have := hq (q + 1) u' (by simpa using hu) r x hx
        rw [Nat.succ_mul] at this
        rw [show off + k + q * k + r = off + (q * k + k) + r from by omega]; exact this) (i - k) v h
      rwa [show off + k + (i - k) = off + i from by omega] at this
theorem vrels_of {σ : Sg} {A : Type} (enc : A → AV) : ∀ (l : List A) (us : List Value), l.length = us.length → (∀ (i : Nat) (a : A) (u : Value), l[i]? = some a → us[i]? = some u → vrel σ (enc a) u) → vrels σ (l.map enc) us
  | [], [], _, _ => rfl
  | a :: l, u :: us, h, H => by
    rw [List.map_cons, vrels]
    exact ⟨u, us, rfl, H 0 a u rfl rfl, vrels_of enc l us (by simpa using h) fun i a' u' h1 h2 => H (i + 1) a' u' (by simpa using h1) (by simpa using h2)⟩
  | [], _ :: _, h, _ => by simp at h
  | _ :: _, [], h, _ => by simp at h
theorem mapM_range_some {f : Nat → Option Value} {n : Nat} {l : List Value} (h : (List.range n).mapM f = some l) : l.length = n ∧ ∀ i, i < n → f i = l[i]? := by
  have key : ∀ (m : List Nat) (l : List Value), m.mapM f = some l → l.length = m.length ∧ ∀ i (hi : i < m.length), f m[i] = l[i]? := by
    intro m
    induction m with
    | nil => intro l h; simp at h; subst h; exact ⟨rfl, fun i hi => by simp at hi⟩
    | cons a m ih =>
      intro l h
      rw [List.mapM_cons] at h
      cases ha : f a with
      | none => rw [ha] at h; cases h
      | some x =>
        rw [ha] at h
        cases hm : m.mapM f with
        | none => rw [hm] at h; cases h
        | some l' =>
          rw [hm] at h
          cases h
          obtain ⟨h1, h2⟩ := ih l' hm
          refine ⟨by simp [h1], fun i hi => ?_⟩
          cases i with
          | zero => exact ha
          | succ i => simpa using h2 i (by simpa using hi)
  obtain ⟨h1, h2⟩ := key _ _ h
  rw [List.length_range] at h1
  refine ⟨h1, fun i hi => ?_⟩
  have := h2 i (by rw [List.length_range]; exact hi)
  rwa [List.getElem_range] at this
theorem cells_some {w : World} {base : Nat} {a : Addr} {n : Nat} {cs : List Value} (h : w.cells? base a n = some cs) : cs.length = n ∧ ∀ i, i < n → w.cell? (a.add i) = cs[i]? := by
  unfold World.cells? at h
  split at h
  · exact mapM_range_some h
  · cases h
theorem cell_some {w : World} {a : Addr} {v : Value} (h : w.cell? a = some v) : a.spot = none ∧ ∃ cc e fz, w.heap[a.block]? = some (.cells cc e fz) ∧ cc[a.off]? = some v := by
  unfold World.cell? at h
  split at h
  · rename_i c e fz hc
    split at h
    · cases h
    · rename_i hs
      refine ⟨?_, c, e, fz, hc, h⟩
      cases hsp : a.spot with
      | none => rfl
      | some x => rw [hsp] at hs; simp at hs
  · cases h
theorem add_block (a : Addr) (n : Nat) : (a.add n).block = a.block := by unfold Addr.add; split <;> rfl
theorem add_off (a : Addr) (n : Nat) : (a.add n).off = a.off + n := by
  unfold Addr.add; split
  · rename_i h; subst h; rfl
  · rfl

variable {H : Type} {enc : TypeId × Value → H} {P : Program} {w : World} {σ : Sg}
/-- an encoder of data whose cells are a type's -/
def encS' (nl : Bool) (l : List AV) : AV := match nl, l with
  | true, [] => .nils
  | _, l => .fz l
theorem open_row (hz : ∀ b o, w.heap[b]? = some o → σ.fz b = some o) {A : Type} (en : A → AV) {k : Nat} (hk : k ≠ 0) {e t : TypeId} (ht : P.underlying t = some (.slice e)) (hc : P.cellsOf e = k) {base : Nat} {spare : Nat → Bool} {held : Bool} {fuel : Nat} {cs : List Value} {x : DataW H × List MemPlace}
    (h : DataW.trod enc P w base spare held fuel t cs = some x) (HE : ∀ m cs x, m < fuel → DataW.trod enc P w base spare held m e cs = some x → ∃ (y : A) (u : Value), vrel σ.bare (en y) u ∧ u.cells.toList = cs) :
    ∃ (nl : Bool) (l : List A) (v : Value), cs = [v] ∧ vrel σ.bare (encS' nl (l.map en)) v ∧ l.length ≤ maxLen := by
  rcases DataW.trod_slice ht h with ⟨rfl, _⟩ | ⟨a, len, cap, elems, rest, n, hn, rfl, _, _, h1, h2, h3, h4, _, _⟩
  · exact ⟨true, [], _, rfl, rfl, Nat.zero_le _⟩
  · have hex : ∀ i, i < len → ∃ yu : A × Value, vrel σ.bare (en yu.1) yu.2 ∧ yu.2.cells.size = k ∧ ∀ r v, yu.2.cells.toList[r]? = some v → w.cell? ((a.add (i * k)).add r) = some v := by
      intro i hi
      have := h4 i hi
      rw [hc] at this
      have hs : ∃ z, elems[i]? = some z := ⟨elems[i]'(by omega), List.getElem?_eq_getElem _⟩
      obtain ⟨z, hz'⟩ := hs
      rw [hz'] at this
      cases hcs : w.cells? base (a.add (i * k)) k with
      | none => rw [hcs] at this; cases this
      | some c =>
        rw [hcs] at this
        obtain ⟨y, u, hu, hu2⟩ := HE n c z (by omega) this
        obtain ⟨g1, g2⟩ := cells_some hcs
        refine ⟨(y, u), hu, ?_, fun r v hr => ?_⟩
        · rw [← Array.length_toList, hu2, g1]
        · rw [hu2] at hr
          rw [g2 r (by
            rcases Nat.lt_or_ge r c.length with h | h
            · omega
            · rw [List.getElem?_eq_none h] at hr; cases hr)]
          exact hr
    obtain ⟨l, hl, hl2⟩ := list_of len hex
    have hus : ∀ q u, (l.map Prod.snd)[q]? = some u → ∃ yu : A × Value, l[q]? = some yu ∧ yu.2 = u := fun q u hq => by
      rw [List.getElem?_map] at hq
      obtain ⟨yu, h7, h8⟩ := Option.map_eq_some_iff.1 hq
      exact ⟨yu, h7, h8⟩
    refine ⟨false, l.map Prod.fst, _, rfl, ?_, by rw [List.length_map]; omega⟩
    have hfz : encS' false ((l.map Prod.fst).map en) = .fz ((l.map Prod.fst).map en) := by
      cases (l.map Prod.fst).map en <;> rfl
    rw [hfz, vrel]
    refine ⟨a, cap, l.map Prod.snd, by rw [List.length_map, List.length_map, hl], by rw [List.length_map, List.length_map, hl]; exact h1, ?_, ?_⟩
    · refine vrels_of en _ _ (by simp) fun i y u h5 h6 => ?_
      obtain ⟨yu, h7, rfl⟩ := hus i u h6
      rw [List.getElem?_map, h7] at h5
      cases h5
      exact (hl2 i yu h7).1
    · cases l with
      | nil => exact .inl rfl
      | cons yu l =>
        right
        obtain ⟨g1, g2, g3⟩ := hl2 0 yu rfl
        have hc0 : ∃ v, yu.2.cells.toList[0]? = some v := ⟨yu.2.cells.toList[0]'(by rw [Array.length_toList]; omega), List.getElem?_eq_getElem _⟩
        obtain ⟨v0, hv0⟩ := hc0
        obtain ⟨s1, cc, e', fz, s2, s3⟩ := cell_some (g3 0 v0 hv0)
        have hsp : a.spot = none := by
          have h8 := g3 0 v0 hv0
          rw [Nat.zero_mul] at h8
          exact (cell_some (a := a) (by simpa [Addr.add] using h8)).1
        rw [add_block, add_block] at s2
        refine ⟨hsp, cc, e', fz, k, hz _ _ s2, hk, fun u hu => ?_, ?_⟩
        · obtain ⟨q, hq⟩ := List.mem_iff_getElem?.1 hu
          obtain ⟨yu', h7, rfl⟩ := hus q u hq
          exact (hl2 q yu' h7).2.1
        · refine flat_at (k := k) (f := fun i => cc[i]?) _ a.off (fun u hu => ?_) fun q u hq r x hx => ?_
          · obtain ⟨q, hq⟩ := List.mem_iff_getElem?.1 hu
            obtain ⟨yu', h7, rfl⟩ := hus q u hq
            exact (hl2 q yu' h7).2.1
          · obtain ⟨yu', h7, rfl⟩ := hus q u hq
            obtain ⟨_, cc', e'', fz', s4, s5⟩ := cell_some ((hl2 q yu' h7).2.2 r x hx)
            rw [add_block, add_block, s2] at s4
            cases s4
            rw [add_off, add_off] at s5
            exact s5
end Go.Am
