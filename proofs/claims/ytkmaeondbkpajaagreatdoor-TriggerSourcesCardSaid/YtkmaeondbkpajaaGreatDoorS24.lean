/- A part of the proof of a statement of this seat: the machine on which the program is read, and what it computes; for every input. -/
import Derived.Test.YtkmaeondbkpajaaGreatDoorS22
import Derived.Test.YtkmaeondbkpajaaGreatDoorS23
set_option linter.all false
set_option linter.all false
namespace Go.Am
open Go Go.Proofs Go.Proofs.YtkmaeondbkpajaaGreatDoor Go.RowKit
open Go.ChangeShapes Go.WideShapes Go.ChangeAt
set_option maxRecDepth 100000

/-! # The row of TriggerSources -/

theorem ownQ : ownKnob Tryz.prog.godebug = none := by kernel_rfl
theorem laidOutQ : laidOutB Tryz.prog = true := by kernel_rfl
theorem read9S : Tryz.prog.readableRec 9 = true := by kernel_rfl
theorem row9S : 9 < Tryz.prog.types.size := of_decide_eq_true (by kernel_rfl)
theorem sources_contract {H : Type} (enc : TypeId × Value → H) (law : ∀ [MaxLen] (S : Str), calV U 3 [.str S] = some (.bool true)) (W : World) (args : Array Value) (ds gs : List (DataW H)) (before : List MemPlace)
    (hW : DataW.Whole enc Tryz.prog Tryz.f3.params.toList Rows.triggerSourcesSpec.vars false W args.toList ds gs before) (hL : laidMetH Tryz.prog laid7 W) (hsh : W.ShapedOpen Tryz.prog) {b0 : Nat}
    (hok : ∀ (j : Nat) t v, Tryz.f3.params[j]? = some t → args[j]? = some v → Value.okWide Tryz.prog W .any b0 t v) :
    Calls Tryz.prog 3 args W fun e W' => ∃ v, e = .returned v ∧ Rows.triggerSourcesSpec.post enc Tryz.prog Tryz.f3 false true false false W args v W' := by
  have hW' := hW
  have hlt := hW.lt
  obtain ⟨p, q, hA0, hV, rfl, hfz, hnd⟩ := hW
  have hA : DataW.TrodAll enc Tryz.prog W 0 (fun _ => true) true Tryz.f3.params.toList args.toList ds p := hA0
  rw [Tryz.params3] at hA
  obtain ⟨v0, d0, rfl, rfl, h0⟩ := trodAll_one hA
  obtain ⟨rfl, rfl⟩ := trodVars_none hV
  have k0 := hok 0 9 v0 (by rw [Tryz.params3]; rfl) rfl
  obtain ⟨s0, rfl⟩ := okWide_string Tryz.underlying9 k0
  obtain ⟨m, G⟩ := globW_of hL hsh
  letI : MaxLen := ⟨m⟩
  refine (enter_ok (W := W) G (f := 3) (by rw [U_ext]; rfl) (args := [.str s0.data.toList]) (us := #[.string s0]) ⟨_, _, rfl, ⟨s0, rfl, rfl⟩, rfl⟩ (law _)).mono ?_
  rintro e W' ⟨u', σ', rfl, hr', hB⟩
  have hr' : u' = .bool true := hr'
  subst hr'
  refine ⟨_, rfl, [d0], [], _, [], _, [], hW', trodAll_mk1 (shut_bool Tryz.underlying4 _), trodAll_mk1 (Below.trod laidOutQ read9S row9S h0 hB fun x hx => hlt x (by simp [hx])), rfl, hB.frame _, fun h => by cases h⟩

theorem sources_lifted (law : ∀ [MaxLen] (S : Str), calV U 3 [.str S] = some (.bool true)) (os : Os) (started : os.Started) (H : Type) (enc : TypeId × Value → H) :
    ReturnsInHanded {} Tryz.checked os 3 .any (fun w args => (Rows.triggerSourcesSpec.pre enc Tryz.prog Tryz.f3 [] false w args ∧ laidMetH Tryz.prog laid7 w) ∧ sizedMet enc Tryz.prog Tryz.f3 (OpenSpec.ofChange Rows.triggerSourcesSpec) false w args)
      (Rows.triggerSourcesSpec.post enc Tryz.prog Tryz.f3 false true false false) := by
  refine returnsInHanded_of_calls ownQ started (by kernel_rfl)
    (ChangeSpec.witness_shaped (enc := enc) (C := Tryz.checked) (os := os) (X := fun w _ => laidMetH Tryz.prog laid7 w) false (World.laidAll Tryz.prog os laid7) #[.string ⟨#[]⟩] 8 (World.laidAll_os _ _ _)
      (World.shaped_of_ZipB (by kernel_rfl) (by kernel_rfl)) (by kernel_rfl) (by kernel_rfl) (by kernel_rfl)
      (by rw [MakeChecks.laidMetH_plain _ _ _ (by kernel_rfl)]; exact laidMet_laidAll _ (by kernel_rfl) (by kernel_rfl))) ?_
  intro w tape i _ hsh _ hok hpre hholds
  obtain ⟨⟨⟨ds, gs, before, hw, hc⟩, hx⟩, hz⟩ := hpre
  have hw' := DataW.Whole.of_heap (w' := w.forCall tape i) (by rfl) hw
  obtain ⟨_, _, _, fn, hfn, _, _, _, _, hargs⟩ := hok
  obtain rfl : fn = Tryz.f3 := (Option.some.inj (Tryz.func3.symm.trans hfn)).symm
  refine (sources_contract enc law (w.forCall tape i) i.args ds gs before hw' (hx.of_heap (by rfl)) hsh hargs).mono ?_
  rintro e W' ⟨v, rfl, hp⟩
  exact ChangeSpec.post_blind hp

theorem sources_holds (law : ∀ [MaxLen] (S : Str), calV U 3 [.str S] = some (.bool true)) : Rows.TriggerSourcesSaid :=
  OpenClaim.holds_of_wide 3 Tryz.f3 rfl rfl rfl rfl rfl rfl rfl ⟨rfl, rfl, rfl, rfl, rfl⟩ rfl rfl rfl rfl rfl namedS Tryz.func3 closedS instS wrapS (fun os started H enc _ => sources_lifted law os started H enc)
theorem wfS : Rows.triggerSourcesRow.wfByText (OpenSpec.ofChange Rows.triggerSourcesSpec) = true := by kernel_rfl
theorem looksS : true = Tryz.prog.looks [] := by kernel_rfl
theorem standS : (#[9].toList.all fun u => !Tryz.prog.wantsStandIn u) = true := by kernel_rfl
theorem mainS : Tryz.pinned.checked.prog.mainIs = some (Rows.triggerSourcesCard.stood.harness.1, Rows.triggerSourcesCard.stood.harness.2.toList) := by kernel_rfl
theorem goesS : false = Rows.triggerSourcesRow.goesBy Tryz.pinned.checked.prog := by kernel_rfl
theorem sources_card (law : ∀ [MaxLen] (S : Str), calV U 3 [.str S] = some (.bool true)) : Rows.TriggerSourcesCardSaid :=
  Claim7.holds_tied_plain_at .later [] [.data, .data, .data, .data, .sentinel, .sentinel, .pinned] true Rows.triggerSourcesCard.stood.harness true (sources_holds law) (fun _ h => by cases h) wfS (fun _ h => by cases h) triggerSources_row_tie rfl ⟨rfl, rfl⟩ mainS rfl
    (fun f fn hf hfn => by
      obtain rfl : f = 3 := Option.some.inj (namedS.symm.trans hf) |>.symm
      obtain rfl : fn = Tryz.f3 := (Option.some.inj (Tryz.func3.symm.trans hfn)).symm
      refine ⟨looksS, fun j t ht => ?_⟩
      rw [Tryz.params3] at ht
      have hm : t ∈ #[9].toList := by rw [← Array.getElem?_toList] at ht; exact List.mem_of_getElem? ht
      have := List.all_eq_true.1 standS t hm
      rw [Bool.not_eq_true'] at this
      exact this)
    goesS
end Go.Am
