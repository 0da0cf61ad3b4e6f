/- A part of the proof of a statement of this seat: the machine on which the program is read, and what it computes; for every input. -/
import Derived.Test.YtikiipfbkfgmbaaGreatDoorN11
import Derived.Test.YtikiipfbkfgmbaaGreatDoorN12
set_option linter.all false
namespace Go.Am
open Go Go.Proofs Go.Proofs.YtikiipfbkfgmbaaGreatDoor Go.RowKit
open Go.ChangeShapes Go.WideShapes Go.ChangeAt
set_option maxRecDepth 100000

/-! # The row of TriggerHolds -/

theorem own8H : ownKnob Tryz.prog.godebug = none := by kernel_rfl
theorem laidOut8H : laidOutB Tryz.prog = true := by kernel_rfl
theorem cz_40 : Tryz.prog.cellsOf 40 = 1 := by kernel_rfl
theorem read3 : Tryz.prog.readableRec 3 = true := by kernel_rfl
theorem row3 : 3 < Tryz.prog.types.size := of_decide_eq_true (by kernel_rfl)
theorem read39 : Tryz.prog.readableRec 39 = true := by kernel_rfl
theorem row39 : 39 < Tryz.prog.types.size := of_decide_eq_true (by kernel_rfl)
theorem read40 : Tryz.prog.readableRec 40 = true := by kernel_rfl
theorem row40 : 40 < Tryz.prog.types.size := of_decide_eq_true (by kernel_rfl)
theorem agg7_of {v u : Value} {vs : Array Value} (hu : u = .agg vs) (h : v.cells.toList = u.cells.toList) (h2 : vs.size = 7) : v = u := by
  subst hu
  have hc : ∀ x : Value, ([x] : List Value) = vs.toList → False := fun x hx => by
    have := congrArg List.length hx
    have h3 : vs.toList.length = vs.size := Array.length_toList
    rw [h3, h2] at this
    cases this
  cases v <;> first
    | (exfalso; exact hc _ h)
    | skip
  rename_i cs
  have h : cs.toList = vs.toList := h
  rw [Array.toList_inj.1 h]

theorem holds_contract {H : Type} (enc : TypeId × Value → H) (law : ∀ [MaxLen] (n : Int) (c : Cond) (nl : Bool) (l : List Int), calV U 4 [.int .i64 n, encC c, encS nl (ints l)] = some (.bool true)) (W : World) (args : Array Value) (ds gs : List (DataW H)) (before : List MemPlace)
    (hW : DataW.Whole enc Tryz.prog Tryz.f4.params.toList Rows.triggerHoldsSpec.vars false W args.toList ds gs before) (hL : laidMetH Tryz.prog laid7 W) (hsh : W.ShapedOpen Tryz.prog) {b0 : Nat}
    (hok : ∀ (j : Nat) t v, Tryz.f4.params[j]? = some t → args[j]? = some v → Value.okWide Tryz.prog W .any b0 t v) :
    Calls Tryz.prog 4 args W fun e W' => ∃ v, e = .returned v ∧ Rows.triggerHoldsSpec.post enc Tryz.prog Tryz.f4 false true false false W args v W' := by
  have hW' := hW
  have hlt := hW.lt
  obtain ⟨p, q, hA0, hV, rfl, hfz, hnd⟩ := hW
  have hA : DataW.TrodAll enc Tryz.prog W 0 (fun _ => true) true Tryz.f4.params.toList args.toList ds p := hA0
  rw [Tryz.params4] at hA
  obtain ⟨v0, v1, v2, d0, d1, d2, p0, p1, p2, rfl, rfl, rfl, h0, h1, h2⟩ := trodAll_three hA
  obtain ⟨rfl, rfl⟩ := trodVars_none hV
  have k0 := hok 0 3 v0 (by rw [Tryz.params4]; rfl) rfl
  have k2 := hok 2 40 v2 (by rw [Tryz.params4]; rfl) rfl
  obtain ⟨n, rfl⟩ := okWide_int Tryz.underlying3 k0
  obtain ⟨a2, len2, cap2, rfl⟩ := okWide_slice Tryz.underlying40 k2
  obtain ⟨fuel1, hf1⟩ := id h1
  obtain ⟨fuel2, hf2⟩ := id h2
  obtain ⟨m, G⟩ := globW_of hL hsh
  letI : MaxLen := ⟨m⟩
  obtain ⟨c, u, hu, hu2⟩ := cond_of (σ := σ0 W) (fun b o h => h) _ _ _ hf1
  have huv : v1 = u := by
    have hu' := hu
    rw [encC_cells] at hu'
    obtain ⟨vs, hvs, hr⟩ := hu'
    exact agg7_of hvs hu2.symm (by rw [← Array.length_toList, ← hr.length]; rfl)
  subst huv
  obtain ⟨nl, l, w2, hcs, hrow, _⟩ := open_row (σ := σ0 W) (fun b o h => h) (fun x : Int => AV.int .i64 x) (k := 1) (by omega) Tryz.underlying40 cz_3 hf2 fun m cs x hm hx => by
    obtain ⟨z, f, _, _⟩ := DataW.trod_int Tryz.underlying3 hx
    exact ⟨z, .int .i64 z, rfl, f.symm⟩
  have hw2 : w2 = .slice a2 len2 cap2 := by
    have : ([Value.slice a2 len2 cap2] : List Value) = [w2] := hcs
    exact (List.cons.inj this).1.symm
  subst hw2
  rw [encS'_eq] at hrow
  refine (enter_ok (W := W) G (f := 4) (by rw [U_ext]; rfl) (args := [.int .i64 n, encC c, encS nl (ints l)]) (us := #[.int .i64 n, v1, .slice a2 len2 cap2]) ⟨_, _, rfl, rfl, _, _, rfl, hu, _, _, rfl, hrow, rfl⟩ (law n c nl l)).mono ?_
  rintro e W' ⟨u', σ', rfl, hr', hB⟩
  have hr' : u' = .bool true := hr'
  subst hr'
  refine ⟨_, rfl, [d0, d1, d2], [], _, [], _, [], hW', trodAll_mk1 (shut_bool Tryz.underlying4 _), trodAll_mk3 (Below.trod laidOut8H read3 row3 h0 hB fun x hx => hlt x (by simp [hx])) (Below.trod laidOut8H read39 row39 h1 hB fun x hx => hlt x (by simp [hx])) (Below.trod laidOut8H read40 row40 h2 hB fun x hx => hlt x (by simp [hx])), rfl, hB.frame _, fun h => by cases h⟩

theorem holds_lifted (law : ∀ [MaxLen] (n : Int) (c : Cond) (nl : Bool) (l : List Int), calV U 4 [.int .i64 n, encC c, encS nl (ints l)] = some (.bool true)) (os : Os) (started : os.Started) (H : Type) (enc : TypeId × Value → H) :
    ReturnsInHanded {} Tryz.checked os 4 .any (fun w args => (Rows.triggerHoldsSpec.pre enc Tryz.prog Tryz.f4 [] false w args ∧ laidMetH Tryz.prog laid7 w) ∧ sizedMet enc Tryz.prog Tryz.f4 (OpenSpec.ofChange Rows.triggerHoldsSpec) false w args)
      (Rows.triggerHoldsSpec.post enc Tryz.prog Tryz.f4 false true false false) := by
  refine returnsInHanded_of_calls own8H started (by kernel_rfl)
    (ChangeSpec.witness_shaped (enc := enc) (C := Tryz.checked) (os := os) (X := fun w _ => laidMetH Tryz.prog laid7 w) false (World.laidAll Tryz.prog os laid7) #[.int .i64 0, .agg #[.string ⟨#[]⟩, .int .i64 0, .int .i64 0, .int .i64 0, .int .i64 0, .string ⟨#[]⟩, .slice none 0 0], .slice none 0 0] 8 (World.laidAll_os _ _ _)
      (World.shaped_of_ZipB (by kernel_rfl) (by kernel_rfl)) (by kernel_rfl) (by kernel_rfl) (by kernel_rfl)
      (by rw [MakeChecks.laidMetH_plain _ _ _ (by kernel_rfl)]; exact laidMet_laidAll _ (by kernel_rfl) (by kernel_rfl))) ?_
  intro w tape i _ hsh _ hok hpre hholds
  obtain ⟨⟨⟨ds, gs, before, hw, hc⟩, hx⟩, hz⟩ := hpre
  have hw' := DataW.Whole.of_heap (w' := w.forCall tape i) (by rfl) hw
  obtain ⟨_, _, _, fn, hfn, _, _, _, _, hargs⟩ := hok
  obtain rfl : fn = Tryz.f4 := (Option.some.inj (Tryz.func4.symm.trans hfn)).symm
  refine (holds_contract enc law (w.forCall tape i) i.args ds gs before hw' (hx.of_heap (by rfl)) hsh hargs).mono ?_
  rintro e W' ⟨v, rfl, hp⟩
  exact ChangeSpec.post_blind hp

theorem holds_holds (law : ∀ [MaxLen] (n : Int) (c : Cond) (nl : Bool) (l : List Int), calV U 4 [.int .i64 n, encC c, encS nl (ints l)] = some (.bool true)) : Rows.TriggerHoldsSaid :=
  OpenClaim.holds_of_wide 4 Tryz.f4 rfl rfl rfl rfl rfl rfl rfl ⟨rfl, rfl, rfl, rfl, rfl⟩ rfl rfl rfl rfl rfl named4 Tryz.func4 closed4 inst4 wrap4 (fun os started H enc _ => holds_lifted law os started H enc)
theorem wf4 : Rows.triggerHoldsRow.wfByText (OpenSpec.ofChange Rows.triggerHoldsSpec) = true := by kernel_rfl
theorem looks4 : true = Tryz.prog.looks [] := by kernel_rfl
theorem stand4 : (#[3, 39, 40].toList.all fun u => !Tryz.prog.wantsStandIn u) = true := by kernel_rfl
theorem main4 : Tryz.pinned.checked.prog.mainIs = some (Rows.triggerHoldsCard.stood.harness.1, Rows.triggerHoldsCard.stood.harness.2.toList) := by kernel_rfl
theorem goes4 : false = Rows.triggerHoldsRow.goesBy Tryz.pinned.checked.prog := by kernel_rfl
theorem holds_card (law : ∀ [MaxLen] (n : Int) (c : Cond) (nl : Bool) (l : List Int), calV U 4 [.int .i64 n, encC c, encS nl (ints l)] = some (.bool true)) : Rows.TriggerHoldsCardSaid :=
  Claim7.holds_tied_plain_at .later [] [.data, .data, .data, .data, .sentinel, .sentinel, .pinned] true Rows.triggerHoldsCard.stood.harness true (holds_holds law) (fun _ h => by cases h) wf4 (fun _ h => by cases h) triggerHolds_row_tie rfl ⟨rfl, rfl⟩ main4 rfl
    (fun f fn hf hfn => by
      obtain rfl : f = 4 := Option.some.inj (named4.symm.trans hf) |>.symm
      obtain rfl : fn = Tryz.f4 := (Option.some.inj (Tryz.func4.symm.trans hfn)).symm
      refine ⟨looks4, fun j t ht => ?_⟩
      rw [Tryz.params4] at ht
      have hm : t ∈ #[3, 39, 40].toList := by rw [← Array.getElem?_toList] at ht; exact List.mem_of_getElem? ht
      have := List.all_eq_true.1 stand4 t hm
      rw [Bool.not_eq_true'] at this
      exact this)
    goes4
end Go.Am
