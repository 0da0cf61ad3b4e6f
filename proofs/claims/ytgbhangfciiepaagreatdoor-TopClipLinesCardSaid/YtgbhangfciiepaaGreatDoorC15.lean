/- A part of the proof of a statement of this seat: the machine on which the program is read, and what it computes; for every input. -/
import Derived.Test.YtgbhangfciiepaaGreatDoorC13
import Derived.Test.YtgbhangfciiepaaGreatDoorC14
set_option linter.all false
set_option linter.all false
namespace Go.Am
open Go Go.Proofs Go.Proofs.YtgbhangfciiepaaGreatDoor Go.RowKit
open Go.ChangeShapes Go.WideShapes Go.ChangeAt
set_option maxRecDepth 100000

/-! # The row of TopClipLines -/

theorem ownC : ownKnob Tryz.prog.godebug = none := by kernel_rfl
theorem laidOutC : laidOutB Tryz.prog = true := by kernel_rfl
theorem read22C : Tryz.prog.readableRec 22 = true := by kernel_rfl
theorem row22C : 22 < Tryz.prog.types.size := of_decide_eq_true (by kernel_rfl)
theorem read23C : Tryz.prog.readableRec 23 = true := by kernel_rfl
theorem row23C : 23 < Tryz.prog.types.size := of_decide_eq_true (by kernel_rfl)
theorem read26C : Tryz.prog.readableRec 26 = true := by kernel_rfl
theorem row26C : 26 < Tryz.prog.types.size := of_decide_eq_true (by kernel_rfl)
/-- the machine's law, of words as they come in -/
def LawC : Prop := ∀ [MaxLen] (nr : Bool) (R : List (Bool × List F32)) (ns : Bool) (S : List Int) (lo hi : Nat), calV U 3 [encS' nr (R.map enR), encS' ns (S.map (AV.int .i64 ·)), .agg [.flt .f32 lo, .flt .f32 hi]] = some (.bool true)
theorem lines_contract {H : Type} (enc : TypeId × Value → H) (law : LawC) (W : World) (args : Array Value) (ds gs : List (DataW H)) (before : List MemPlace)
    (hW : DataW.Whole enc Tryz.prog Tryz.f3.params.toList Rows.topClipLinesSpec.vars false W args.toList ds gs before) (hsh : W.ShapedOpen Tryz.prog) {b0 : Nat}
    (hok : ∀ (j : Nat) t v, Tryz.f3.params[j]? = some t → args[j]? = some v → Value.okWide Tryz.prog W .any b0 t v) :
    Calls Tryz.prog 3 args W fun e W' => ∃ v, e = .returned v ∧ Rows.topClipLinesSpec.post enc Tryz.prog Tryz.f3 false true false false W args v W' := by
  have hW' := hW
  have hlt := hW.lt
  obtain ⟨p, q, hA0, hV, rfl, hfz, hnd⟩ := hW
  have hA : DataW.TrodAll enc Tryz.prog W 0 (fun _ => true) true Tryz.f3.params.toList args.toList ds p := hA0
  rw [Tryz.params3] at hA
  obtain ⟨v0, v1, v2, d0, d1, d2, p0, p1, p2, rfl, rfl, rfl, h0, h1, h2⟩ := trodAll_three hA
  obtain ⟨rfl, rfl⟩ := trodVars_none hV
  have G := globW_of hsh
  letI : MaxLen := ⟨0⟩
  obtain ⟨fuel0, hf0⟩ := id h0
  obtain ⟨fuel1, hf1⟩ := id h1
  obtain ⟨fuel2, hf2⟩ := id h2
  have k0 := hok 0 22 v0 (by rw [Tryz.params3]; rfl) rfl
  have k1 := hok 1 23 v1 (by rw [Tryz.params3]; rfl) rfl
  have k2 := hok 2 26 v2 (by rw [Tryz.params3]; rfl) rfl
  obtain ⟨a0, n0, c0, rfl⟩ := okWide_slice un_22 k0
  obtain ⟨a1, n1, c1, rfl⟩ := okWide_slice un_23 k1
  obtain ⟨cs2, rfl, _⟩ := okWide_struct Tryz.underlying26 k2
  obtain ⟨nr, R, u0, e0, r0⟩ := recs_of (σ := σ0 W) (fun b o h => h) hf0
  obtain ⟨ns, S, u1, e1, r1⟩ := skews_of (σ := σ0 W) (fun b o h => h) hf1
  obtain ⟨lo, hi, e2⟩ := levels_of hf2
  have e0 : ([.slice a0 n0 c0] : List Value) = [u0] := e0
  have e1 : ([.slice a1 n1 c1] : List Value) = [u1] := e1
  cases e0; cases e1
  have e2 : cs2.toList = [.float .f32 lo, .float .f32 hi] := e2
  refine (enter_ok (W := W) G (f := 3) (by rw [U_ext]; rfl) (args := [encS' nr (R.map enR), encS' ns (S.map (AV.int .i64 ·)), .agg [.flt .f32 lo, .flt .f32 hi]]) (us := #[.slice a0 n0 c0, .slice a1 n1 c1, .agg cs2])
    ⟨_, _, rfl, r0, _, _, rfl, r1, _, _, rfl, ⟨cs2, rfl, by rw [e2]; exact ⟨_, _, rfl, rfl, _, _, rfl, rfl, rfl⟩⟩, rfl⟩ (law nr R ns S lo hi)).mono ?_
  rintro e W' ⟨u', σ', rfl, hr', hB⟩
  have hr' : u' = .bool true := hr'
  subst hr'
  refine ⟨_, rfl, [d0, d1, d2], [], _, [], _, [], hW', trodAll_mk1 (shut_bool un_4 _), trodAll_mk3 (Below.trod laidOutC read22C row22C h0 hB fun x hx => hlt x (by simp [hx])) (Below.trod laidOutC read23C row23C h1 hB fun x hx => hlt x (by simp [hx])) (Below.trod laidOutC read26C row26C h2 hB fun x hx => hlt x (by simp [hx])), rfl, hB.frame _, fun h => by cases h⟩

theorem lines_lifted (law : LawC) (os : Os) (started : os.Started) (H : Type) (enc : TypeId × Value → H) :
    ReturnsInHanded {} Tryz.checked os 3 .any (fun w args => (Rows.topClipLinesSpec.pre enc Tryz.prog Tryz.f3 [] false w args ∧ laidMetH Tryz.prog laid7 w) ∧ sizedMet enc Tryz.prog Tryz.f3 (OpenSpec.ofChange Rows.topClipLinesSpec) false w args)
      (Rows.topClipLinesSpec.post enc Tryz.prog Tryz.f3 false true false false) := by
  refine returnsInHanded_of_calls ownC started (by kernel_rfl)
    (ChangeSpec.witness_shaped (enc := enc) (C := Tryz.checked) (os := os) (X := fun w _ => laidMetH Tryz.prog laid7 w) false (World.laidAll Tryz.prog os laid7) #[.slice none 0 0, .slice none 0 0, .agg #[.float .f32 0, .float .f32 0]] 4 (World.laidAll_os _ _ _)
      (World.shaped_of_ZipB (by kernel_rfl) (by kernel_rfl)) (by kernel_rfl) (by kernel_rfl) (by kernel_rfl)
      (by rw [MakeChecks.laidMetH_plain _ _ _ (by kernel_rfl)]; exact laidMet_laidAll _ (by kernel_rfl) (by kernel_rfl))) ?_
  intro w tape i _ hsh _ hok hpre hholds
  obtain ⟨⟨⟨ds, gs, before, hw, hc⟩, hx⟩, hz⟩ := hpre
  have hw' := DataW.Whole.of_heap (w' := w.forCall tape i) (by rfl) hw
  obtain ⟨_, _, _, fn, hfn, _, _, _, _, hargs⟩ := hok
  obtain rfl : fn = Tryz.f3 := (Option.some.inj (Tryz.func3.symm.trans hfn)).symm
  refine (lines_contract enc law (w.forCall tape i) i.args ds gs before hw' hsh hargs).mono ?_
  rintro e W' ⟨v, rfl, hp⟩
  exact ChangeSpec.post_blind hp

theorem lines_holds (law : LawC) : Rows.TopClipLinesSaid :=
  OpenClaim.holds_of_wide 3 Tryz.f3 rfl rfl rfl rfl rfl rfl rfl ⟨rfl, rfl, rfl, rfl, rfl⟩ rfl rfl rfl rfl rfl namedC Tryz.func3 closedC instC wrapC (fun os started H enc _ => lines_lifted law os started H enc)
theorem wfC : Rows.topClipLinesRow.wfByText (OpenSpec.ofChange Rows.topClipLinesSpec) = true := by kernel_rfl
theorem looksC : true = Tryz.prog.looks [] := by kernel_rfl
theorem standC : (#[22, 23, 26].toList.all fun u => !Tryz.prog.wantsStandIn u) = true := by kernel_rfl
theorem mainC : Tryz.pinned.checked.prog.mainIs = some (Rows.topClipLinesCard.stood.harness.1, Rows.topClipLinesCard.stood.harness.2.toList) := by kernel_rfl
theorem goesC : false = Rows.topClipLinesRow.goesBy Tryz.pinned.checked.prog := by kernel_rfl
theorem lines_card (law : LawC) : Rows.TopClipLinesCardSaid :=
  Claim7.holds_tied_plain_at .later [] [.data, .data, .data, .data, .sentinel, .sentinel, .pinned] true Rows.topClipLinesCard.stood.harness true (lines_holds law) (fun _ h => by cases h) wfC (fun _ h => by cases h) topClipLines_row_tie rfl ⟨rfl, rfl⟩ mainC rfl
    (fun f fn hf hfn => by
      obtain rfl : f = 3 := Option.some.inj (namedC.symm.trans hf) |>.symm
      obtain rfl : fn = Tryz.f3 := (Option.some.inj (Tryz.func3.symm.trans hfn)).symm
      refine ⟨looksC, fun j t ht => ?_⟩
      rw [Tryz.params3] at ht
      have hm : t ∈ #[22, 23, 26].toList := by rw [← Array.getElem?_toList] at ht; exact List.mem_of_getElem? ht
      have := List.all_eq_true.1 standC t hm
      rw [Bool.not_eq_true'] at this
      exact this)
    goesC
end Go.Am
