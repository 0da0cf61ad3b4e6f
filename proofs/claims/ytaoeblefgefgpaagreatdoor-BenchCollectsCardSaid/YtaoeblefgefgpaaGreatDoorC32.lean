/- A part of the proof of a statement of this seat: the machine on which the program is read, and what it computes; for every input. -/
import Derived.Test.YtaoeblefgefgpaaGreatDoorC30
import Derived.Test.YtaoeblefgefgpaaGreatDoorC31
set_option linter.all false
set_option linter.all false
namespace Go.Am
open Go Go.Proofs Go.Proofs.YtaoeblefgefgpaaGreatDoor Go.RowKit
open Go.ChangeShapes Go.WideShapes Go.ChangeAt
set_option maxRecDepth 100000

/-! # The row of BenchCollects -/

theorem ownC : ownKnob Tryz.prog.godebug = none := by kernel_rfl
theorem laidOutC : laidOutB Tryz.prog = true := by kernel_rfl
theorem read22C : Tryz.prog.readableRec 22 = true := by kernel_rfl
theorem row22C : 22 < Tryz.prog.types.size := of_decide_eq_true (by kernel_rfl)
/-- the machine's law, of shots as they come in -/
def LawC : Prop := ∀ (nl : Bool) (l : List Shot), l.length * 48 ≤ 2 ^ 47 → calV U 3 [encS nl (shotsA l)] = some (.bool true)
theorem vars_none {H : Type} : (OpenSpec.ofChange Rows.benchCollectsSpec).bare.plain.varTypes Tryz.prog = [] := by kernel_rfl
theorem collects_contract {H : Type} (enc : TypeId × Value → H) (law : LawC) (W : World) (args : Array Value) (ds gs : List (DataW H)) (before : List MemPlace)
    (hW : DataW.Whole enc Tryz.prog Tryz.f3.params.toList Rows.benchCollectsSpec.vars false W args.toList ds gs before) (hwt : (DataW.weightsEach Tryz.prog (Tryz.f3.params.toList ++ (OpenSpec.ofChange Rows.benchCollectsSpec).bare.plain.varTypes Tryz.prog) (ds ++ gs)).all (· ≤ reachBytes) = true)
    (hL : laidMetH Tryz.prog laid7 W) (hsh : W.ShapedOpen Tryz.prog) {b0 : Nat}
    (hok : ∀ (j : Nat) t v, Tryz.f3.params[j]? = some t → args[j]? = some v → Value.okWide Tryz.prog W .any b0 t v) :
    Calls Tryz.prog 3 args W fun e W' => ∃ v, e = .returned v ∧ Rows.benchCollectsSpec.post enc Tryz.prog Tryz.f3 false true false false W args v W' := by
  have hW' := hW
  have hlt := hW.lt
  obtain ⟨p, q, hA0, hV, rfl, hfz, hnd⟩ := hW
  have hA : DataW.TrodAll enc Tryz.prog W 0 (fun _ => true) true Tryz.f3.params.toList args.toList ds p := hA0
  rw [Tryz.params3] at hA
  obtain ⟨v0, d0, rfl, rfl, h0⟩ := trodAll_one hA
  obtain ⟨rfl, rfl⟩ := trodVars_none hV
  have k0 := hok 0 22 v0 (by rw [Tryz.params3]; rfl) rfl
  obtain ⟨a0, n0, c0, rfl⟩ := okWide_slice Tryz.underlying22 k0
  obtain ⟨fuel0, hf0⟩ := id h0
  obtain ⟨nl, l, u0, e0, r0, hlen⟩ := shots_of (σ := σ0 W) (fun b o h => h) hf0
  have e0 : ([.slice a0 n0 c0] : List Value) = [u0] := e0
  cases e0
  have hl : l.length * 48 ≤ 2 ^ 47 := by
    rcases hlen with rfl | ⟨es, sp, hd, hle⟩
    · simp
    · have h1 := sized_slice hwt (j := 0) (t := 22) (e := 42) (elems := es) (spare := sp) (by rw [Tryz.params3]; rfl) (by
        have hd : d0 = .slice es sp := hd
        rw [hd]; rfl) Tryz.underlying22
      rw [by_42] at h1
      have h2 : reachBytes ≤ 2 ^ 47 := by decide
      have h3 : l.length * 48 ≤ (es.length + sp.length) * 48 := Nat.mul_le_mul_right _ (by omega)
      omega
  have G := globW_of hL hsh
  refine (enter_ok (W := W) G (f := 3) (by rw [U_ext]; rfl) (args := [encS nl (shotsA l)]) (us := #[.slice a0 n0 c0]) ⟨_, _, rfl, r0, rfl⟩ (law nl l hl)).mono ?_
  rintro e W' ⟨u', σ', rfl, hr', hB⟩
  have hr' : u' = .bool true := hr'
  subst hr'
  refine ⟨_, rfl, [d0], [], _, [], _, [], hW', trodAll_mk1 (shut_bool Tryz.underlying4 _), trodAll_mk1 (Below.trod laidOutC read22C row22C h0 hB fun x hx => hlt x (by simp [hx])), rfl, hB.frame _, fun h => by cases h⟩

theorem collects_lifted (law : LawC) (os : Os) (started : os.Started) (H : Type) (enc : TypeId × Value → H) :
    ReturnsInHanded {} Tryz.checked os 3 .any (fun w args => (Rows.benchCollectsSpec.pre enc Tryz.prog Tryz.f3 [] false w args ∧ laidMetH Tryz.prog laid7 w) ∧ sizedMet enc Tryz.prog Tryz.f3 (OpenSpec.ofChange Rows.benchCollectsSpec) false w args)
      (Rows.benchCollectsSpec.post enc Tryz.prog Tryz.f3 false true false false) := by
  refine returnsInHanded_of_calls ownC started (by kernel_rfl)
    (ChangeSpec.witness_shaped (enc := enc) (C := Tryz.checked) (os := os) (X := fun w _ => laidMetH Tryz.prog laid7 w) false (World.laidAll Tryz.prog os laid7) #[.slice none 0 0] 8 (World.laidAll_os _ _ _)
      (World.shaped_of_ZipB (by kernel_rfl) (by kernel_rfl)) (by kernel_rfl) (by kernel_rfl) (by kernel_rfl)
      (by rw [MakeChecks.laidMetH_plain _ _ _ (by kernel_rfl)]; exact laidMet_laidAll _ (by kernel_rfl) (by kernel_rfl))) ?_
  intro w tape i _ hsh _ hok hpre hholds
  obtain ⟨⟨_, hx⟩, hz⟩ := hpre
  obtain ⟨_, ds, gs, before, hw, hwt⟩ := hz
  have hw' := DataW.Whole.of_heap (w' := w.forCall tape i) (by rfl) hw
  obtain ⟨_, _, _, fn, hfn, _, _, _, _, hargs⟩ := hok
  obtain rfl : fn = Tryz.f3 := (Option.some.inj (Tryz.func3.symm.trans hfn)).symm
  refine (collects_contract enc law (w.forCall tape i) i.args ds gs before hw' hwt (hx.of_heap (by rfl)) hsh hargs).mono ?_
  rintro e W' ⟨v, rfl, hp⟩
  exact ChangeSpec.post_blind hp

theorem collects_holds (law : LawC) : Rows.BenchCollectsSaid :=
  OpenClaim.holds_of_wide 3 Tryz.f3 rfl rfl rfl rfl rfl rfl rfl ⟨rfl, rfl, rfl, rfl, rfl⟩ rfl rfl rfl rfl rfl namedC Tryz.func3 closedC instC wrapC (fun os started H enc _ => collects_lifted law os started H enc)
theorem wfC : Rows.benchCollectsRow.wfByText (OpenSpec.ofChange Rows.benchCollectsSpec) = true := by kernel_rfl
theorem looksC : true = Tryz.prog.looks [] := by kernel_rfl
theorem standC : (#[22].toList.all fun u => !Tryz.prog.wantsStandIn u) = true := by kernel_rfl
theorem mainC : Tryz.pinned.checked.prog.mainIs = some (Rows.benchCollectsCard.stood.harness.1, Rows.benchCollectsCard.stood.harness.2.toList) := by kernel_rfl
theorem goesC : false = Rows.benchCollectsRow.goesBy Tryz.pinned.checked.prog := by kernel_rfl
theorem collects_card (law : LawC) : Rows.BenchCollectsCardSaid :=
  Claim7.holds_tied_plain_at .later [] [.data, .data, .data, .data, .sentinel, .sentinel, .pinned] true Rows.benchCollectsCard.stood.harness true (collects_holds law) (fun _ h => by cases h) wfC (fun _ h => by cases h) benchCollects_row_tie rfl ⟨rfl, rfl⟩ mainC rfl
    (fun f fn hf hfn => by
      obtain rfl : f = 3 := Option.some.inj (namedC.symm.trans hf) |>.symm
      obtain rfl : fn = Tryz.f3 := (Option.some.inj (Tryz.func3.symm.trans hfn)).symm
      refine ⟨looksC, fun j t ht => ?_⟩
      rw [Tryz.params3] at ht
      have hm : t ∈ #[22].toList := by rw [← Array.getElem?_toList] at ht; exact List.mem_of_getElem? ht
      have := List.all_eq_true.1 standC t hm
      rw [Bool.not_eq_true'] at this
      exact this)
    goesC
end Go.Am
