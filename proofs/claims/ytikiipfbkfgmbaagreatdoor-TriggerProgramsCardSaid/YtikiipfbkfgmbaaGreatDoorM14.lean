/- A part of the proof of a statement of this seat: the machine on which the program is read, and what it computes; for every input. -/
import Derived.Test.YtikiipfbkfgmbaaGreatDoorM12
import Derived.Test.YtikiipfbkfgmbaaGreatDoorM13
set_option linter.all false
namespace Go.Am
open Go Go.Proofs Go.Proofs.YtikiipfbkfgmbaaGreatDoor Go.RowKit
open Go.ChangeShapes Go.WideShapes Go.ChangeAt
set_option maxRecDepth 100000

/-! # The row of a law of one program -/

theorem own8 : ownKnob Tryz.prog.godebug = none := by kernel_rfl
theorem laidOut8 : laidOutB Tryz.prog = true := by kernel_rfl
theorem read31 : Tryz.prog.readableRec 31 = true := by kernel_rfl
theorem row31 : 31 < Tryz.prog.types.size := of_decide_eq_true (by kernel_rfl)
theorem agg_of {v u : Value} {vs : Array Value} (hu : u = .agg vs) (h : v.cells.toList = u.cells.toList) (h2 : vs.size = 2) : v = u := by
  subst hu
  have hc : ∀ x : Value, ([x] : List Value) = vs.toList → False := fun x hx => by
    have := congrArg List.length hx
    have h3 : vs.toList.length = vs.size := Array.length_toList
    rw [h3, h2] at this
    cases this
  cases v <;> first
    | (exfalso; exact hc _ h)
    | skip
  rename_i cs
  have h : cs.toList = vs.toList := h
  rw [Array.toList_inj.1 h]

theorem programs_contract {H : Type} (enc : TypeId × Value → H) (law : ∀ [MaxLen] (p : Prog), calV U 11 [encP p] = some (.bool true)) (W : World) (args : Array Value) (ds gs : List (DataW H)) (before : List MemPlace)
    (hW : DataW.Whole enc Tryz.prog Tryz.f11.params.toList Rows.triggerProgramsSpec.vars false W args.toList ds gs before) (hL : laidMetH Tryz.prog laid7 W) (hsh : W.ShapedOpen Tryz.prog) :
    Calls Tryz.prog 11 args W fun e W' => ∃ v, e = .returned v ∧ Rows.triggerProgramsSpec.post enc Tryz.prog Tryz.f11 false true false false W args v W' := by
  have hW' := hW
  have hlt := hW.lt
  obtain ⟨p, q, hA0, hV, rfl, hfz, hnd⟩ := hW
  have hA : DataW.TrodAll enc Tryz.prog W 0 (fun _ => true) true Tryz.f11.params.toList args.toList ds p := hA0
  rw [Tryz.params11] at hA
  obtain ⟨v0, d0, rfl, rfl, h0⟩ := trodAll_one hA
  obtain ⟨rfl, rfl⟩ := trodVars_none hV
  obtain ⟨fuel, hf⟩ := id h0
  obtain ⟨m, G⟩ := globW_of hL hsh
  letI : MaxLen := ⟨m⟩
  obtain ⟨pr, u, hu, hu2⟩ := prog_of (σ := σ0 W) (fun b o h => h) hf
  obtain ⟨vs, hvs, hr⟩ := id hu
  have huv : v0 = u := agg_of hvs hu2.symm (by rw [← Array.length_toList, ← hr.length]; rfl)
  subst huv
  refine (enter_ok (W := W) G (f := 11) (by rw [U_ext]; rfl) (args := [encP pr]) (us := #[v0]) ⟨_, _, rfl, hu, rfl⟩ (law pr)).mono ?_
  rintro e W' ⟨u', σ', rfl, hr', hB⟩
  have hr' : u' = .bool true := hr'
  subst hr'
  refine ⟨_, rfl, [d0], [], p ++ [], [], p, [], hW', trodAll_mk1 (shut_bool Tryz.underlying4 _), trodAll_mk1 (Below.trod laidOut8 read31 row31 h0 hB fun x hx => hlt x (by simpa using hx)), rfl, hB.frame _, fun h => by cases h⟩

theorem programs_lifted (law : ∀ [MaxLen] (p : Prog), calV U 11 [encP p] = some (.bool true)) (os : Os) (started : os.Started) (H : Type) (enc : TypeId × Value → H) :
    ReturnsInHanded {} Tryz.checked os 11 .any (fun w args => (Rows.triggerProgramsSpec.pre enc Tryz.prog Tryz.f11 [] false w args ∧ laidMetH Tryz.prog laid7 w) ∧ sizedMet enc Tryz.prog Tryz.f11 (OpenSpec.ofChange Rows.triggerProgramsSpec) false w args)
      (Rows.triggerProgramsSpec.post enc Tryz.prog Tryz.f11 false true false false) := by
  refine returnsInHanded_of_calls own8 started (by kernel_rfl)
    (ChangeSpec.witness_shaped (enc := enc) (C := Tryz.checked) (os := os) (X := fun w _ => laidMetH Tryz.prog laid7 w) false (World.laidAll Tryz.prog os laid7) #[.agg #[.int .i64 0, .slice none 0 0]] 8 (World.laidAll_os _ _ _)
      (World.shaped_of_ZipB (by kernel_rfl) (by kernel_rfl)) (by kernel_rfl) (by kernel_rfl) (by kernel_rfl)
      (by rw [MakeChecks.laidMetH_plain _ _ _ (by kernel_rfl)]; exact laidMet_laidAll _ (by kernel_rfl) (by kernel_rfl))) ?_
  intro w tape i _ hsh _ hok hpre hholds
  obtain ⟨⟨⟨ds, gs, before, hw, hc⟩, hx⟩, hz⟩ := hpre
  have hw' := DataW.Whole.of_heap (w' := w.forCall tape i) (by rfl) hw
  refine (programs_contract enc law (w.forCall tape i) i.args ds gs before hw' (hx.of_heap (by rfl)) hsh).mono ?_
  rintro e W' ⟨v, rfl, hp⟩
  exact ChangeSpec.post_blind hp

theorem programs_holds (law : ∀ [MaxLen] (p : Prog), calV U 11 [encP p] = some (.bool true)) : Rows.TriggerProgramsSaid :=
  OpenClaim.holds_of_wide 11 Tryz.f11 rfl rfl rfl rfl rfl rfl rfl ⟨rfl, rfl, rfl, rfl, rfl⟩ rfl rfl rfl rfl rfl named11 Tryz.func11 closed11 inst11 wrap11 (fun os started H enc _ => programs_lifted law os started H enc)
theorem wf11 : Rows.triggerProgramsRow.wfByText (OpenSpec.ofChange Rows.triggerProgramsSpec) = true := by kernel_rfl
theorem looks11 : true = Tryz.prog.looks [] := by kernel_rfl
theorem stand11 : (#[31].toList.all fun u => !Tryz.prog.wantsStandIn u) = true := by kernel_rfl
theorem main11 : Tryz.pinned.checked.prog.mainIs = some (Rows.triggerProgramsCard.stood.harness.1, Rows.triggerProgramsCard.stood.harness.2.toList) := by kernel_rfl
theorem goes11 : false = Rows.triggerProgramsRow.goesBy Tryz.pinned.checked.prog := by kernel_rfl
theorem programs_card (law : ∀ [MaxLen] (p : Prog), calV U 11 [encP p] = some (.bool true)) : Rows.TriggerProgramsCardSaid :=
  Claim7.holds_tied_plain_at .later [] [.data, .data, .data, .data, .sentinel, .sentinel, .pinned] true Rows.triggerProgramsCard.stood.harness true (programs_holds law) (fun _ h => by cases h) wf11 (fun _ h => by cases h) triggerPrograms_row_tie rfl ⟨rfl, rfl⟩ main11 rfl
    (fun f fn hf hfn => by
      obtain rfl : f = 11 := Option.some.inj (named11.symm.trans hf) |>.symm
      obtain rfl : fn = Tryz.f11 := (Option.some.inj (Tryz.func11.symm.trans hfn)).symm
      refine ⟨looks11, fun j t ht => ?_⟩
      rw [Tryz.params11] at ht
      have hm : t ∈ #[31].toList := by rw [← Array.getElem?_toList] at ht; exact List.mem_of_getElem? ht
      have := List.all_eq_true.1 stand11 t hm
      rw [Bool.not_eq_true'] at this
      exact this)
    goes11
end Go.Am
