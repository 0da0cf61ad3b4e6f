/- A part of the proof of a statement of this seat: the machine on which the program is read, and what it computes; for every input. -/
import Derived.Test.YtikiipfbkfgmbaaGreatDoorS07
import Derived.Test.YtikiipfbkfgmbaaGreatDoorS08
set_option linter.all false
namespace Go.Am
open Go Go.Proofs Go.Proofs.YtikiipfbkfgmbaaGreatDoor Go.RowKit
open Go.ChangeShapes Go.WideShapes Go.ChangeAt
set_option maxRecDepth 100000

/-! # The row of TriggerRuns -/

theorem own8U : ownKnob Tryz.prog.godebug = none := by kernel_rfl
theorem laidOut8U : laidOutB Tryz.prog = true := by kernel_rfl
theorem cz_40U : Tryz.prog.cellsOf 40 = 1 := by kernel_rfl
theorem read72U : Tryz.prog.readableRec 72 = true := by kernel_rfl
theorem row72U : 72 < Tryz.prog.types.size := of_decide_eq_true (by kernel_rfl)
theorem read40U : Tryz.prog.readableRec 40 = true := by kernel_rfl
theorem row40U : 40 < Tryz.prog.types.size := of_decide_eq_true (by kernel_rfl)
theorem agg3_ofU {v u : Value} {vs : Array Value} (hu : u = .agg vs) (h : v.cells.toList = u.cells.toList) (h2 : vs.size = 3) : v = u := by
  subst hu
  have hc : ∀ x : Value, ([x] : List Value) = vs.toList → False := fun x hx => by
    have := congrArg List.length hx
    have h3 : vs.toList.length = vs.size := Array.length_toList
    rw [h3, h2] at this
    cases this
  cases v <;> first
    | (exfalso; exact hc _ h)
    | skip
  rename_i cs
  have h : cs.toList = vs.toList := h
  rw [Array.toList_inj.1 h]

theorem cz_66U : Tryz.prog.cellsOf 66 = 1 := by kernel_rfl
theorem cz_67U : Tryz.prog.cellsOf 67 = 1 := by kernel_rfl
theorem cz_72U : Tryz.prog.cellsOf 72 = 3 := by kernel_rfl
theorem cz_43U : Tryz.prog.cellsOf 43 = 1 := by kernel_rfl
theorem cz_4U : Tryz.prog.cellsOf 4 = 1 := by kernel_rfl
section
variable {H : Type} {enc : TypeId × Value → H} {w : World} {σ : Sg}
theorem sl_cells {nl : Bool} {l : List AV} {v : Value} (h : vrel σ.bare (encS nl l) v) : v.cells.toList = [v] := by
  rw [← encS'_eq] at h
  unfold encS' at h
  split at h
  · have h : v = .slice none 0 0 := h
    subst h; rfl
  · obtain ⟨a, c, us, rfl, _⟩ := h
    rfl
theorem rowI_of (hz : ∀ b o, w.heap[b]? = some o → σ.fz b = some o) {base : Nat} {spare : Nat → Bool} {held : Bool} (fuel : Nat) (cs : List Value) (x : DataW H × List MemPlace) (h : DataW.trod enc Tryz.prog w base spare held fuel 40 cs = some x) :
    ∃ (y : Bool × List Int) (u : Value), vrel σ.bare (encRow y) u ∧ u.cells.toList = cs := by
  obtain ⟨nl, l, v, rfl, hr, _⟩ := open_row (σ := σ) hz (fun x : Int => AV.int .i64 x) (k := 1) (by omega) Tryz.underlying40 cz_3 h fun m cs x hm hx => by
    obtain ⟨z, f, _, _⟩ := DataW.trod_int Tryz.underlying3 hx
    exact ⟨z, .int .i64 z, rfl, f.symm⟩
  rw [encS'_eq] at hr
  exact ⟨(nl, l), v, hr, sl_cells hr⟩
theorem rowB_of (hz : ∀ b o, w.heap[b]? = some o → σ.fz b = some o) {base : Nat} {spare : Nat → Bool} {held : Bool} (fuel : Nat) (cs : List Value) (x : DataW H × List MemPlace) (h : DataW.trod enc Tryz.prog w base spare held fuel 43 cs = some x) :
    ∃ (y : Bool × List Bool) (u : Value), vrel σ.bare (encFRow y) u ∧ u.cells.toList = cs := by
  obtain ⟨nl, l, v, rfl, hr, _⟩ := open_row (σ := σ) hz (fun x : Bool => AV.bool x) (k := 1) (by omega) Tryz.underlying43 cz_4U h fun m cs x hm hx => by
    obtain ⟨z, f, _⟩ := DataW.trod_bool Tryz.underlying4 hx
    exact ⟨z, .bool z, rfl, f.symm⟩
  rw [encS'_eq] at hr
  exact ⟨(nl, l), v, hr, sl_cells hr⟩
theorem auto_of (hz : ∀ b o, w.heap[b]? = some o → σ.fz b = some o) {base : Nat} {spare : Nat → Bool} {held : Bool} {fuel : Nat} {cs : List Value} {x : DataW H × List MemPlace} (h : DataW.trod enc Tryz.prog w base spare held fuel 72 cs = some x) :
    ∃ (a : Auto) (u : Value), vrel σ.bare (encA a) u ∧ u.cells.toList = cs := by
  obtain ⟨xs, n, hn, _, hlen, hsz, hel⟩ := DataW.trod_struct Tryz.underlying72 h
  rw [cz_72U] at hlen
  match cs, hlen with
  | [v0, v1, v2], _ =>
    have hx7 : xs.length = 3 := hsz
    have h0 := hel 0 _ rfl
    have h1 := hel 1 _ rfl
    have h2 := hel 2 _ rfl
    try simp only [cz_3, cz_66U, cz_67U, List.drop_zero, List.drop_succ_cons, List.take_succ_cons, List.take_zero] at h0 h1 h2
    obtain ⟨x0, e0⟩ := some_of (l := xs) (i := 0) (by omega)
    obtain ⟨x1, e1⟩ := some_of (l := xs) (i := 1) (by omega)
    obtain ⟨x2, e2⟩ := some_of (l := xs) (i := 2) (by omega)
    rw [e0] at h0; rw [e1] at h1; rw [e2] at h2
    obtain ⟨n0, f0, _, _⟩ := DataW.trod_int Tryz.underlying3 h0
    obtain ⟨nN, rows, u1, f1, hr1, _⟩ := open_row hz encRow (k := 1) (by omega) Tryz.underlying66 cz_40U h1 fun m cs x hm hx => rowI_of hz m cs x hx
    obtain ⟨nF, fires, u2, f2, hr2, _⟩ := open_row hz encFRow (k := 1) (by omega) Tryz.underlying67 cz_43U h2 fun m cs x hm hx => rowB_of hz m cs x hx
    cases f0; cases f1; cases f2
    rw [encS'_eq] at hr1 hr2
    exact ⟨⟨n0, nN, rows, nF, fires⟩, .agg #[.int .i64 n0, v1, v2], ⟨_, rfl, _, _, rfl, rfl, _, _, rfl, hr1, _, _, rfl, hr2, rfl⟩, rfl⟩
end
theorem runs_contract {H : Type} (enc : TypeId × Value → H) (law : ∀ [MaxLen] (p : Auto) (nl : Bool) (l : List Int), calV U 10 [encA p, encS nl (ints l)] = some (.bool true)) (W : World) (args : Array Value) (ds gs : List (DataW H)) (before : List MemPlace)
    (hW : DataW.Whole enc Tryz.prog Tryz.f10.params.toList Rows.triggerRunsSpec.vars false W args.toList ds gs before) (hL : laidMetH Tryz.prog laid7 W) (hsh : W.ShapedOpen Tryz.prog) {b0 : Nat}
    (hok : ∀ (j : Nat) t v, Tryz.f10.params[j]? = some t → args[j]? = some v → Value.okWide Tryz.prog W .any b0 t v) :
    Calls Tryz.prog 10 args W fun e W' => ∃ v, e = .returned v ∧ Rows.triggerRunsSpec.post enc Tryz.prog Tryz.f10 false true false false W args v W' := by
  have hW' := hW
  have hlt := hW.lt
  obtain ⟨p, q, hA0, hV, rfl, hfz, hnd⟩ := hW
  have hA : DataW.TrodAll enc Tryz.prog W 0 (fun _ => true) true Tryz.f10.params.toList args.toList ds p := hA0
  rw [Tryz.params10] at hA
  obtain ⟨v0, v1, d0, d1, p0, p1, rfl, rfl, rfl, h0, h1⟩ := trodAll_two hA
  obtain ⟨rfl, rfl⟩ := trodVars_none hV
  have k1 := hok 1 40 v1 (by rw [Tryz.params10]; rfl) rfl
  obtain ⟨a2, len2, cap2, rfl⟩ := okWide_slice Tryz.underlying40 k1
  obtain ⟨fuel1, hf1⟩ := id h0
  obtain ⟨fuel2, hf2⟩ := id h1
  obtain ⟨m, G⟩ := globW_of hL hsh
  letI : MaxLen := ⟨m⟩
  obtain ⟨pr, u, hu, hu2⟩ := auto_of (σ := σ0 W) (fun b o h => h) hf1
  have huv : v0 = u := by
    obtain ⟨vs, hvs, hr⟩ := id hu
    exact agg3_ofU hvs hu2.symm (by rw [← Array.length_toList, ← hr.length]; rfl)
  subst huv
  obtain ⟨nl, l, w2, hcs, hrow, _⟩ := open_row (σ := σ0 W) (fun b o h => h) (fun x : Int => AV.int .i64 x) (k := 1) (by omega) Tryz.underlying40 cz_3 hf2 fun m cs x hm hx => by
    obtain ⟨z, f, _, _⟩ := DataW.trod_int Tryz.underlying3 hx
    exact ⟨z, .int .i64 z, rfl, f.symm⟩
  have hw2 : w2 = .slice a2 len2 cap2 := by
    have : ([Value.slice a2 len2 cap2] : List Value) = [w2] := hcs
    exact (List.cons.inj this).1.symm
  subst hw2
  rw [encS'_eq] at hrow
  refine (enter_ok (W := W) G (f := 10) (by rw [U_ext]; rfl) (args := [encA pr, encS nl (ints l)]) (us := #[v0, .slice a2 len2 cap2]) ⟨_, _, rfl, hu, _, _, rfl, hrow, rfl⟩ (law pr nl l)).mono ?_
  rintro e W' ⟨u', σ', rfl, hr', hB⟩
  have hr' : u' = .bool true := hr'
  subst hr'
  refine ⟨_, rfl, [d0, d1], [], _, [], _, [], hW', trodAll_mk1 (shut_bool Tryz.underlying4 _), trodAll_mk2 (Below.trod laidOut8U read72U row72U h0 hB fun x hx => hlt x (by simp [hx])) (Below.trod laidOut8U read40U row40U h1 hB fun x hx => hlt x (by simp [hx])), rfl, hB.frame _, fun h => by cases h⟩

theorem runs_lifted (law : ∀ [MaxLen] (p : Auto) (nl : Bool) (l : List Int), calV U 10 [encA p, encS nl (ints l)] = some (.bool true)) (os : Os) (started : os.Started) (H : Type) (enc : TypeId × Value → H) :
    ReturnsInHanded {} Tryz.checked os 10 .any (fun w args => (Rows.triggerRunsSpec.pre enc Tryz.prog Tryz.f10 [] false w args ∧ laidMetH Tryz.prog laid7 w) ∧ sizedMet enc Tryz.prog Tryz.f10 (OpenSpec.ofChange Rows.triggerRunsSpec) false w args)
      (Rows.triggerRunsSpec.post enc Tryz.prog Tryz.f10 false true false false) := by
  refine returnsInHanded_of_calls own8U started (by kernel_rfl)
    (ChangeSpec.witness_shaped (enc := enc) (C := Tryz.checked) (os := os) (X := fun w _ => laidMetH Tryz.prog laid7 w) false (World.laidAll Tryz.prog os laid7) #[.agg #[.int .i64 0, .slice none 0 0, .slice none 0 0], .slice none 0 0] 8 (World.laidAll_os _ _ _)
      (World.shaped_of_ZipB (by kernel_rfl) (by kernel_rfl)) (by kernel_rfl) (by kernel_rfl) (by kernel_rfl)
      (by rw [MakeChecks.laidMetH_plain _ _ _ (by kernel_rfl)]; exact laidMet_laidAll _ (by kernel_rfl) (by kernel_rfl))) ?_
  intro w tape i _ hsh _ hok hpre hholds
  obtain ⟨⟨⟨ds, gs, before, hw, hc⟩, hx⟩, hz⟩ := hpre
  have hw' := DataW.Whole.of_heap (w' := w.forCall tape i) (by rfl) hw
  obtain ⟨_, _, _, fn, hfn, _, _, _, _, hargs⟩ := hok
  obtain rfl : fn = Tryz.f10 := (Option.some.inj (Tryz.func10.symm.trans hfn)).symm
  refine (runs_contract enc law (w.forCall tape i) i.args ds gs before hw' (hx.of_heap (by rfl)) hsh hargs).mono ?_
  rintro e W' ⟨v, rfl, hp⟩
  exact ChangeSpec.post_blind hp

theorem runs_holds (law : ∀ [MaxLen] (p : Auto) (nl : Bool) (l : List Int), calV U 10 [encA p, encS nl (ints l)] = some (.bool true)) : Rows.TriggerRunsSaid :=
  OpenClaim.holds_of_wide 10 Tryz.f10 rfl rfl rfl rfl rfl rfl rfl ⟨rfl, rfl, rfl, rfl, rfl⟩ rfl rfl rfl rfl rfl named10 Tryz.func10 closed10 inst10 wrap10 (fun os started H enc _ => runs_lifted law os started H enc)
theorem wf10 : Rows.triggerRunsRow.wfByText (OpenSpec.ofChange Rows.triggerRunsSpec) = true := by kernel_rfl
theorem looks10 : true = Tryz.prog.looks [] := by kernel_rfl
theorem stand10 : (#[72, 40].toList.all fun u => !Tryz.prog.wantsStandIn u) = true := by kernel_rfl
theorem main10 : Tryz.pinned.checked.prog.mainIs = some (Rows.triggerRunsCard.stood.harness.1, Rows.triggerRunsCard.stood.harness.2.toList) := by kernel_rfl
theorem goes10 : false = Rows.triggerRunsRow.goesBy Tryz.pinned.checked.prog := by kernel_rfl
theorem runs_card (law : ∀ [MaxLen] (p : Auto) (nl : Bool) (l : List Int), calV U 10 [encA p, encS nl (ints l)] = some (.bool true)) : Rows.TriggerRunsCardSaid :=
  Claim7.holds_tied_plain_at .later [] [.data, .data, .data, .data, .sentinel, .sentinel, .pinned] true Rows.triggerRunsCard.stood.harness true (runs_holds law) (fun _ h => by cases h) wf10 (fun _ h => by cases h) triggerRuns_row_tie rfl ⟨rfl, rfl⟩ main10 rfl
    (fun f fn hf hfn => by
      obtain rfl : f = 10 := Option.some.inj (named10.symm.trans hf) |>.symm
      obtain rfl : fn = Tryz.f10 := (Option.some.inj (Tryz.func10.symm.trans hfn)).symm
      refine ⟨looks10, fun j t ht => ?_⟩
      rw [Tryz.params10] at ht
      have hm : t ∈ #[72, 40].toList := by rw [← Array.getElem?_toList] at ht; exact List.mem_of_getElem? ht
      have := List.all_eq_true.1 stand10 t hm
      rw [Bool.not_eq_true'] at this
      exact this)
    goes10
end Go.Am
