/- A part of the proof of a statement of this seat: the machine on which the program is read, and what it computes; for every input. -/
import Derived.Test.YtkmaeondbkpajaaGreatDoorT23
import Derived.Test.YtkmaeondbkpajaaGreatDoorT24
set_option linter.all false
set_option linter.all false
namespace Go.Am
open Go Go.Proofs Go.Proofs.YtkmaeondbkpajaaGreatDoor Go.RowKit
open Go.ChangeShapes Go.WideShapes Go.ChangeAt
set_option maxRecDepth 100000

/-! # The row of TriggerReads -/

theorem ownQ : ownKnob Tryz.prog.godebug = none := by kernel_rfl
theorem laidOutQ : laidOutB Tryz.prog = true := by kernel_rfl
theorem read31Q : Tryz.prog.readableRec 31 = true := by kernel_rfl
theorem row31Q : 31 < Tryz.prog.types.size := of_decide_eq_true (by kernel_rfl)
theorem read9T : Tryz.prog.readableRec 9 = true := by kernel_rfl
theorem row9T : 9 < Tryz.prog.types.size := of_decide_eq_true (by kernel_rfl)
theorem agg2_ofQ {v u : Value} {vs : Array Value} (hu : u = .agg vs) (h : v.cells.toList = u.cells.toList) (h2 : vs.size = 2) : v = u := by
  subst hu
  have hc : ∀ x : Value, ([x] : List Value) = vs.toList → False := fun x hx => by
    have := congrArg List.length hx
    have h3 : vs.toList.length = vs.size := Array.length_toList
    rw [h3, h2] at this
    cases this
  cases v <;> first
    | (exfalso; exact hc _ h)
    | skip
  rename_i cs
  have h : cs.toList = vs.toList := h
  rw [Array.toList_inj.1 h]

theorem reads_contract {H : Type} (enc : TypeId × Value → H) (law : ∀ [MaxLen] (p : Prog) (S : Str), calV U 5 [encP p, .str S] = some (.bool true)) (W : World) (args : Array Value) (ds gs : List (DataW H)) (before : List MemPlace)
    (hW : DataW.Whole enc Tryz.prog Tryz.f5.params.toList Rows.triggerReadsSpec.vars false W args.toList ds gs before) (hL : laidMetH Tryz.prog laid7 W) (hsh : W.ShapedOpen Tryz.prog) {b0 : Nat}
    (hok : ∀ (j : Nat) t v, Tryz.f5.params[j]? = some t → args[j]? = some v → Value.okWide Tryz.prog W .any b0 t v) :
    Calls Tryz.prog 5 args W fun e W' => ∃ v, e = .returned v ∧ Rows.triggerReadsSpec.post enc Tryz.prog Tryz.f5 false true false false W args v W' := by
  have hW' := hW
  have hlt := hW.lt
  obtain ⟨p, q, hA0, hV, rfl, hfz, hnd⟩ := hW
  have hA : DataW.TrodAll enc Tryz.prog W 0 (fun _ => true) true Tryz.f5.params.toList args.toList ds p := hA0
  rw [Tryz.params5] at hA
  obtain ⟨v0, v1, d0, d1, p0, p1, rfl, rfl, rfl, h0, h1⟩ := trodAll_two hA
  obtain ⟨rfl, rfl⟩ := trodVars_none hV
  obtain ⟨fuel1, hf1⟩ := id h0
  obtain ⟨m, G⟩ := globW_of hL hsh
  letI : MaxLen := ⟨m⟩
  obtain ⟨pr, u, hu, hu2⟩ := prog_of (σ := σ0 W) (fun b o h => h) hf1
  have huv : v0 = u := by
    obtain ⟨vs, hvs, hr⟩ := id hu
    exact agg2_ofQ hvs hu2.symm (by rw [← Array.length_toList, ← hr.length]; rfl)
  subst huv
  have k1 := hok 1 9 v1 (by rw [Tryz.params5]; rfl) rfl
  obtain ⟨s0, rfl⟩ := okWide_string Tryz.underlying9 k1
  refine (enter_ok (W := W) G (f := 5) (by rw [U_ext]; rfl) (args := [encP pr, .str s0.data.toList]) (us := #[v0, .string s0]) ⟨_, _, rfl, hu, _, _, rfl, ⟨s0, rfl, rfl⟩, rfl⟩ (law pr _)).mono ?_
  rintro e W' ⟨u', σ', rfl, hr', hB⟩
  have hr' : u' = .bool true := hr'
  subst hr'
  refine ⟨_, rfl, [d0, d1], [], _, [], _, [], hW', trodAll_mk1 (shut_bool Tryz.underlying4 _), trodAll_mk2 (Below.trod laidOutQ read31Q row31Q h0 hB fun x hx => hlt x (by simp [hx])) (Below.trod laidOutQ read9T row9T h1 hB fun x hx => hlt x (by simp [hx])), rfl, hB.frame _, fun h => by cases h⟩

theorem reads_lifted (law : ∀ [MaxLen] (p : Prog) (S : Str), calV U 5 [encP p, .str S] = some (.bool true)) (os : Os) (started : os.Started) (H : Type) (enc : TypeId × Value → H) :
    ReturnsInHanded {} Tryz.checked os 5 .any (fun w args => (Rows.triggerReadsSpec.pre enc Tryz.prog Tryz.f5 [] false w args ∧ laidMetH Tryz.prog laid7 w) ∧ sizedMet enc Tryz.prog Tryz.f5 (OpenSpec.ofChange Rows.triggerReadsSpec) false w args)
      (Rows.triggerReadsSpec.post enc Tryz.prog Tryz.f5 false true false false) := by
  refine returnsInHanded_of_calls ownQ started (by kernel_rfl)
    (ChangeSpec.witness_shaped (enc := enc) (C := Tryz.checked) (os := os) (X := fun w _ => laidMetH Tryz.prog laid7 w) false (World.laidAll Tryz.prog os laid7) #[.agg #[.int .i64 0, .slice none 0 0], .string ⟨#[]⟩] 8 (World.laidAll_os _ _ _)
      (World.shaped_of_ZipB (by kernel_rfl) (by kernel_rfl)) (by kernel_rfl) (by kernel_rfl) (by kernel_rfl)
      (by rw [MakeChecks.laidMetH_plain _ _ _ (by kernel_rfl)]; exact laidMet_laidAll _ (by kernel_rfl) (by kernel_rfl))) ?_
  intro w tape i _ hsh _ hok hpre hholds
  obtain ⟨⟨⟨ds, gs, before, hw, hc⟩, hx⟩, hz⟩ := hpre
  have hw' := DataW.Whole.of_heap (w' := w.forCall tape i) (by rfl) hw
  obtain ⟨_, _, _, fn, hfn, _, _, _, _, hargs⟩ := hok
  obtain rfl : fn = Tryz.f5 := (Option.some.inj (Tryz.func5.symm.trans hfn)).symm
  refine (reads_contract enc law (w.forCall tape i) i.args ds gs before hw' (hx.of_heap (by rfl)) hsh hargs).mono ?_
  rintro e W' ⟨v, rfl, hp⟩
  exact ChangeSpec.post_blind hp

theorem reads_holds (law : ∀ [MaxLen] (p : Prog) (S : Str), calV U 5 [encP p, .str S] = some (.bool true)) : Rows.TriggerReadsSaid :=
  OpenClaim.holds_of_wide 5 Tryz.f5 rfl rfl rfl rfl rfl rfl rfl ⟨rfl, rfl, rfl, rfl, rfl⟩ rfl rfl rfl rfl rfl namedT Tryz.func5 closedT instT wrapT (fun os started H enc _ => reads_lifted law os started H enc)
theorem wfT : Rows.triggerReadsRow.wfByText (OpenSpec.ofChange Rows.triggerReadsSpec) = true := by kernel_rfl
theorem looksT : true = Tryz.prog.looks [] := by kernel_rfl
theorem standT : (#[31, 9].toList.all fun u => !Tryz.prog.wantsStandIn u) = true := by kernel_rfl
theorem mainT : Tryz.pinned.checked.prog.mainIs = some (Rows.triggerReadsCard.stood.harness.1, Rows.triggerReadsCard.stood.harness.2.toList) := by kernel_rfl
theorem goesT : false = Rows.triggerReadsRow.goesBy Tryz.pinned.checked.prog := by kernel_rfl
theorem reads_card (law : ∀ [MaxLen] (p : Prog) (S : Str), calV U 5 [encP p, .str S] = some (.bool true)) : Rows.TriggerReadsCardSaid :=
  Claim7.holds_tied_plain_at .later [] [.data, .data, .data, .data, .sentinel, .sentinel, .pinned] true Rows.triggerReadsCard.stood.harness true (reads_holds law) (fun _ h => by cases h) wfT (fun _ h => by cases h) triggerReads_row_tie rfl ⟨rfl, rfl⟩ mainT rfl
    (fun f fn hf hfn => by
      obtain rfl : f = 5 := Option.some.inj (namedT.symm.trans hf) |>.symm
      obtain rfl : fn = Tryz.f5 := (Option.some.inj (Tryz.func5.symm.trans hfn)).symm
      refine ⟨looksT, fun j t ht => ?_⟩
      rw [Tryz.params5] at ht
      have hm : t ∈ #[31, 9].toList := by rw [← Array.getElem?_toList] at ht; exact List.mem_of_getElem? ht
      have := List.all_eq_true.1 standT t hm
      rw [Bool.not_eq_true'] at this
      exact this)
    goesT
end Go.Am
