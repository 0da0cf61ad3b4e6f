/- A part of the proof of a statement of this seat: the machine on which the program is read, and what it computes; for every input. -/
import Derived.Test.YtikiipfbkfgmbaaGreatDoorN11
import Derived.Test.YtikiipfbkfgmbaaGreatDoorP01
set_option linter.all false
namespace Go.Am
open Go Go.Proofs Go.Proofs.YtikiipfbkfgmbaaGreatDoor Go.RowKit
open Go.ChangeShapes Go.WideShapes Go.ChangeAt
set_option maxRecDepth 100000

/-! # The row of TriggerTimes -/

theorem own8I : ownKnob Tryz.prog.godebug = none := by kernel_rfl
theorem laidOut8I : laidOutB Tryz.prog = true := by kernel_rfl
theorem cz_40I : Tryz.prog.cellsOf 40 = 1 := by kernel_rfl
theorem read31I : Tryz.prog.readableRec 31 = true := by kernel_rfl
theorem row31I : 31 < Tryz.prog.types.size := of_decide_eq_true (by kernel_rfl)
theorem read40I : Tryz.prog.readableRec 40 = true := by kernel_rfl
theorem row40I : 40 < Tryz.prog.types.size := of_decide_eq_true (by kernel_rfl)
theorem agg2_ofI {v u : Value} {vs : Array Value} (hu : u = .agg vs) (h : v.cells.toList = u.cells.toList) (h2 : vs.size = 2) : v = u := by
  subst hu
  have hc : ∀ x : Value, ([x] : List Value) = vs.toList → False := fun x hx => by
    have := congrArg List.length hx
    have h3 : vs.toList.length = vs.size := Array.length_toList
    rw [h3, h2] at this
    cases this
  cases v <;> first
    | (exfalso; exact hc _ h)
    | skip
  rename_i cs
  have h : cs.toList = vs.toList := h
  rw [Array.toList_inj.1 h]

theorem times_contract {H : Type} (enc : TypeId × Value → H) (law : ∀ [MaxLen] (p : Prog) (nl : Bool) (l : List Int), calV U 5 [encP p, encS nl (ints l)] = some (.bool true)) (W : World) (args : Array Value) (ds gs : List (DataW H)) (before : List MemPlace)
    (hW : DataW.Whole enc Tryz.prog Tryz.f5.params.toList Rows.triggerTimesSpec.vars false W args.toList ds gs before) (hL : laidMetH Tryz.prog laid7 W) (hsh : W.ShapedOpen Tryz.prog) {b0 : Nat}
    (hok : ∀ (j : Nat) t v, Tryz.f5.params[j]? = some t → args[j]? = some v → Value.okWide Tryz.prog W .any b0 t v) :
    Calls Tryz.prog 5 args W fun e W' => ∃ v, e = .returned v ∧ Rows.triggerTimesSpec.post enc Tryz.prog Tryz.f5 false true false false W args v W' := by
  have hW' := hW
  have hlt := hW.lt
  obtain ⟨p, q, hA0, hV, rfl, hfz, hnd⟩ := hW
  have hA : DataW.TrodAll enc Tryz.prog W 0 (fun _ => true) true Tryz.f5.params.toList args.toList ds p := hA0
  rw [Tryz.params5] at hA
  obtain ⟨v0, v1, d0, d1, p0, p1, rfl, rfl, rfl, h0, h1⟩ := trodAll_two hA
  obtain ⟨rfl, rfl⟩ := trodVars_none hV
  have k1 := hok 1 40 v1 (by rw [Tryz.params5]; rfl) rfl
  obtain ⟨a2, len2, cap2, rfl⟩ := okWide_slice Tryz.underlying40 k1
  obtain ⟨fuel1, hf1⟩ := id h0
  obtain ⟨fuel2, hf2⟩ := id h1
  obtain ⟨m, G⟩ := globW_of hL hsh
  letI : MaxLen := ⟨m⟩
  obtain ⟨pr, u, hu, hu2⟩ := prog_of (σ := σ0 W) (fun b o h => h) hf1
  have huv : v0 = u := by
    obtain ⟨vs, hvs, hr⟩ := id hu
    exact agg2_ofI hvs hu2.symm (by rw [← Array.length_toList, ← hr.length]; rfl)
  subst huv
  obtain ⟨nl, l, w2, hcs, hrow, _⟩ := open_row (σ := σ0 W) (fun b o h => h) (fun x : Int => AV.int .i64 x) (k := 1) (by omega) Tryz.underlying40 cz_3 hf2 fun m cs x hm hx => by
    obtain ⟨z, f, _, _⟩ := DataW.trod_int Tryz.underlying3 hx
    exact ⟨z, .int .i64 z, rfl, f.symm⟩
  have hw2 : w2 = .slice a2 len2 cap2 := by
    have : ([Value.slice a2 len2 cap2] : List Value) = [w2] := hcs
    exact (List.cons.inj this).1.symm
  subst hw2
  rw [encS'_eq] at hrow
  refine (enter_ok (W := W) G (f := 5) (by rw [U_ext]; rfl) (args := [encP pr, encS nl (ints l)]) (us := #[v0, .slice a2 len2 cap2]) ⟨_, _, rfl, hu, _, _, rfl, hrow, rfl⟩ (law pr nl l)).mono ?_
  rintro e W' ⟨u', σ', rfl, hr', hB⟩
  have hr' : u' = .bool true := hr'
  subst hr'
  refine ⟨_, rfl, [d0, d1], [], _, [], _, [], hW', trodAll_mk1 (shut_bool Tryz.underlying4 _), trodAll_mk2 (Below.trod laidOut8I read31I row31I h0 hB fun x hx => hlt x (by simp [hx])) (Below.trod laidOut8I read40I row40I h1 hB fun x hx => hlt x (by simp [hx])), rfl, hB.frame _, fun h => by cases h⟩

theorem times_lifted (law : ∀ [MaxLen] (p : Prog) (nl : Bool) (l : List Int), calV U 5 [encP p, encS nl (ints l)] = some (.bool true)) (os : Os) (started : os.Started) (H : Type) (enc : TypeId × Value → H) :
    ReturnsInHanded {} Tryz.checked os 5 .any (fun w args => (Rows.triggerTimesSpec.pre enc Tryz.prog Tryz.f5 [] false w args ∧ laidMetH Tryz.prog laid7 w) ∧ sizedMet enc Tryz.prog Tryz.f5 (OpenSpec.ofChange Rows.triggerTimesSpec) false w args)
      (Rows.triggerTimesSpec.post enc Tryz.prog Tryz.f5 false true false false) := by
  refine returnsInHanded_of_calls own8I started (by kernel_rfl)
    (ChangeSpec.witness_shaped (enc := enc) (C := Tryz.checked) (os := os) (X := fun w _ => laidMetH Tryz.prog laid7 w) false (World.laidAll Tryz.prog os laid7) #[.agg #[.int .i64 0, .slice none 0 0], .slice none 0 0] 8 (World.laidAll_os _ _ _)
      (World.shaped_of_ZipB (by kernel_rfl) (by kernel_rfl)) (by kernel_rfl) (by kernel_rfl) (by kernel_rfl)
      (by rw [MakeChecks.laidMetH_plain _ _ _ (by kernel_rfl)]; exact laidMet_laidAll _ (by kernel_rfl) (by kernel_rfl))) ?_
  intro w tape i _ hsh _ hok hpre hholds
  obtain ⟨⟨⟨ds, gs, before, hw, hc⟩, hx⟩, hz⟩ := hpre
  have hw' := DataW.Whole.of_heap (w' := w.forCall tape i) (by rfl) hw
  obtain ⟨_, _, _, fn, hfn, _, _, _, _, hargs⟩ := hok
  obtain rfl : fn = Tryz.f5 := (Option.some.inj (Tryz.func5.symm.trans hfn)).symm
  refine (times_contract enc law (w.forCall tape i) i.args ds gs before hw' (hx.of_heap (by rfl)) hsh hargs).mono ?_
  rintro e W' ⟨v, rfl, hp⟩
  exact ChangeSpec.post_blind hp

theorem times_holds (law : ∀ [MaxLen] (p : Prog) (nl : Bool) (l : List Int), calV U 5 [encP p, encS nl (ints l)] = some (.bool true)) : Rows.TriggerTimesSaid :=
  OpenClaim.holds_of_wide 5 Tryz.f5 rfl rfl rfl rfl rfl rfl rfl ⟨rfl, rfl, rfl, rfl, rfl⟩ rfl rfl rfl rfl rfl named5 Tryz.func5 closed5 inst5 wrap5 (fun os started H enc _ => times_lifted law os started H enc)
theorem wf5 : Rows.triggerTimesRow.wfByText (OpenSpec.ofChange Rows.triggerTimesSpec) = true := by kernel_rfl
theorem looks5 : true = Tryz.prog.looks [] := by kernel_rfl
theorem stand5 : (#[31, 40].toList.all fun u => !Tryz.prog.wantsStandIn u) = true := by kernel_rfl
theorem main5 : Tryz.pinned.checked.prog.mainIs = some (Rows.triggerTimesCard.stood.harness.1, Rows.triggerTimesCard.stood.harness.2.toList) := by kernel_rfl
theorem goes5 : false = Rows.triggerTimesRow.goesBy Tryz.pinned.checked.prog := by kernel_rfl
theorem times_card (law : ∀ [MaxLen] (p : Prog) (nl : Bool) (l : List Int), calV U 5 [encP p, encS nl (ints l)] = some (.bool true)) : Rows.TriggerTimesCardSaid :=
  Claim7.holds_tied_plain_at .later [] [.data, .data, .data, .data, .sentinel, .sentinel, .pinned] true Rows.triggerTimesCard.stood.harness true (times_holds law) (fun _ h => by cases h) wf5 (fun _ h => by cases h) triggerTimes_row_tie rfl ⟨rfl, rfl⟩ main5 rfl
    (fun f fn hf hfn => by
      obtain rfl : f = 5 := Option.some.inj (named5.symm.trans hf) |>.symm
      obtain rfl : fn = Tryz.f5 := (Option.some.inj (Tryz.func5.symm.trans hfn)).symm
      refine ⟨looks5, fun j t ht => ?_⟩
      rw [Tryz.params5] at ht
      have hm : t ∈ #[31, 40].toList := by rw [← Array.getElem?_toList] at ht; exact List.mem_of_getElem? ht
      have := List.all_eq_true.1 stand5 t hm
      rw [Bool.not_eq_true'] at this
      exact this)
    goes5
end Go.Am
