/-
  DERIVED. GIVEN WITH THE SEED: THE CARDS: each row of YtikiipfbkfgmbaaGreatDoorRows.lean that lists a variable, with what it lists TIED to the program's text (the seventh form; the later family's looks); each row that meets fmt, with fmt's text TOLD by the authors' own Lean function (tested against real Go, not proved from fmt's source: count such statements apart). THE CARD IS WHAT COUNTS. Prove the row's statement (the work); the ties are given (YtikiipfbkfgmbaaGreatDoorTie.lean); close each card by the builder's one call (the guide's Derived/Test/ToyasCard.lean, 'card_holds'). Laid BY PROGRAM, IN A SANDBOX (cutbox-door.mjs). By AI agents, Wed Nov 11 2026. No macro, syntax, notation, axiom, sorry.
-/
import Derived.Test.YtikiipfbkfgmbaaGreatDoorRows
import GoSem.ClaimSeven
namespace Go.Proofs.YtikiipfbkfgmbaaGreatDoor
namespace Rows

/-- THE TIED CARD OF 'strobelaw04.TriggerSources'. -/
def triggerSourcesCard : Claim7 := { stood := { row := triggerSourcesRow, standIns := [], harness := (true, "2e823234b50608edc6f0b8f1d2cfefee591d50793a2420efa9e86cce3ccee6ae"), looks := true }, kinds := [], alts := [], laidByText := true, laidKinds := [.data, .data, .data, .data, .sentinel, .sentinel, .pinned], laidTests := true, laidLooks := .later }
def TriggerSourcesCardSaid : Prop := Claim7.holds Tryz.pinned (.plain (OpenSpec.ofChange triggerSourcesSpec)) triggerSourcesCard

/-- THE TIED CARD OF 'strobelaw04.TriggerHolds'. -/
def triggerHoldsCard : Claim7 := { stood := { row := triggerHoldsRow, standIns := [], harness := (true, "2e823234b50608edc6f0b8f1d2cfefee591d50793a2420efa9e86cce3ccee6ae"), looks := true }, kinds := [], alts := [], laidByText := true, laidKinds := [.data, .data, .data, .data, .sentinel, .sentinel, .pinned], laidTests := true, laidLooks := .later }
def TriggerHoldsCardSaid : Prop := Claim7.holds Tryz.pinned (.plain (OpenSpec.ofChange triggerHoldsSpec)) triggerHoldsCard

/-- THE TIED CARD OF 'strobelaw04.TriggerTimes'. -/
def triggerTimesCard : Claim7 := { stood := { row := triggerTimesRow, standIns := [], harness := (true, "2e823234b50608edc6f0b8f1d2cfefee591d50793a2420efa9e86cce3ccee6ae"), looks := true }, kinds := [], alts := [], laidByText := true, laidKinds := [.data, .data, .data, .data, .sentinel, .sentinel, .pinned], laidTests := true, laidLooks := .later }
def TriggerTimesCardSaid : Prop := Claim7.holds Tryz.pinned (.plain (OpenSpec.ofChange triggerTimesSpec)) triggerTimesCard

/-- THE TIED CARD OF 'strobelaw04.TriggerCompiles'. -/
def triggerCompilesCard : Claim7 := { stood := { row := triggerCompilesRow, standIns := [], harness := (true, "2e823234b50608edc6f0b8f1d2cfefee591d50793a2420efa9e86cce3ccee6ae"), looks := true }, kinds := [], alts := [], laidByText := true, laidKinds := [.data, .data, .data, .data, .sentinel, .sentinel, .pinned], laidTests := true, laidLooks := .later }
def TriggerCompilesCardSaid : Prop := Claim7.holds Tryz.pinned (.plain (OpenSpec.ofChange triggerCompilesSpec)) triggerCompilesCard

/-- THE TIED CARD OF 'strobelaw04.TriggerCombines'. -/
def triggerCombinesCard : Claim7 := { stood := { row := triggerCombinesRow, standIns := [], harness := (true, "2e823234b50608edc6f0b8f1d2cfefee591d50793a2420efa9e86cce3ccee6ae"), looks := true }, kinds := [], alts := [], laidByText := true, laidKinds := [.data, .data, .data, .data, .sentinel, .sentinel, .pinned], laidTests := true, laidLooks := .later }
def TriggerCombinesCardSaid : Prop := Claim7.holds Tryz.pinned (.plain (OpenSpec.ofChange triggerCombinesSpec)) triggerCombinesCard

/-- THE TIED CARD OF 'strobelaw04.TriggerMeans'. -/
def triggerMeansCard : Claim7 := { stood := { row := triggerMeansRow, standIns := [], harness := (true, "2e823234b50608edc6f0b8f1d2cfefee591d50793a2420efa9e86cce3ccee6ae"), looks := true }, kinds := [], alts := [], laidByText := true, laidKinds := [.data, .data, .data, .data, .sentinel, .sentinel, .pinned], laidTests := true, laidLooks := .later }
def TriggerMeansCardSaid : Prop := Claim7.holds Tryz.pinned (.plain (OpenSpec.ofChange triggerMeansSpec)) triggerMeansCard

/-- THE TIED CARD OF 'strobelaw04.TriggerLogic'. -/
def triggerLogicCard : Claim7 := { stood := { row := triggerLogicRow, standIns := [], harness := (true, "2e823234b50608edc6f0b8f1d2cfefee591d50793a2420efa9e86cce3ccee6ae"), looks := true }, kinds := [], alts := [], laidByText := true, laidKinds := [.data, .data, .data, .data, .sentinel, .sentinel, .pinned], laidTests := true, laidLooks := .later }
def TriggerLogicCardSaid : Prop := Claim7.holds Tryz.pinned (.plain (OpenSpec.ofChange triggerLogicSpec)) triggerLogicCard

/-- THE TIED CARD OF 'strobelaw04.TriggerRuns'. -/
def triggerRunsCard : Claim7 := { stood := { row := triggerRunsRow, standIns := [], harness := (true, "2e823234b50608edc6f0b8f1d2cfefee591d50793a2420efa9e86cce3ccee6ae"), looks := true }, kinds := [], alts := [], laidByText := true, laidKinds := [.data, .data, .data, .data, .sentinel, .sentinel, .pinned], laidTests := true, laidLooks := .later }
def TriggerRunsCardSaid : Prop := Claim7.holds Tryz.pinned (.plain (OpenSpec.ofChange triggerRunsSpec)) triggerRunsCard

/-- THE TIED CARD OF 'strobelaw04.TriggerPrograms'. -/
def triggerProgramsCard : Claim7 := { stood := { row := triggerProgramsRow, standIns := [], harness := (true, "2e823234b50608edc6f0b8f1d2cfefee591d50793a2420efa9e86cce3ccee6ae"), looks := true }, kinds := [], alts := [], laidByText := true, laidKinds := [.data, .data, .data, .data, .sentinel, .sentinel, .pinned], laidTests := true, laidLooks := .later }
def TriggerProgramsCardSaid : Prop := Claim7.holds Tryz.pinned (.plain (OpenSpec.ofChange triggerProgramsSpec)) triggerProgramsCard

/-- THE TIED CARD OF 'strobelaw04.TriggerReads'. -/
def triggerReadsCard : Claim7 := { stood := { row := triggerReadsRow, standIns := [], harness := (true, "2e823234b50608edc6f0b8f1d2cfefee591d50793a2420efa9e86cce3ccee6ae"), looks := true }, kinds := [], alts := [], laidByText := true, laidKinds := [.data, .data, .data, .data, .sentinel, .sentinel, .pinned], laidTests := true, laidLooks := .later }
def TriggerReadsCardSaid : Prop := Claim7.holds Tryz.pinned (.plain (OpenSpec.ofChange triggerReadsSpec)) triggerReadsCard

/-- THE TIED CARD OF 'strobelaw04.TriggerCompares'. -/
def triggerComparesCard : Claim7 := { stood := { row := triggerComparesRow, standIns := [], harness := (true, "2e823234b50608edc6f0b8f1d2cfefee591d50793a2420efa9e86cce3ccee6ae"), looks := true }, kinds := [], alts := [], laidByText := true, laidKinds := [.data, .data, .data, .data, .sentinel, .sentinel, .pinned], laidTests := true, laidLooks := .later }
def TriggerComparesCardSaid : Prop := Claim7.holds Tryz.pinned (.plain (OpenSpec.ofChange triggerComparesSpec)) triggerComparesCard

/-- THE TIED CARD OF 'strobelaw04.TriggerEqual'. -/
def triggerEqualCard : Claim7 := { stood := { row := triggerEqualRow, standIns := [], harness := (true, "2e823234b50608edc6f0b8f1d2cfefee591d50793a2420efa9e86cce3ccee6ae"), looks := true }, kinds := [], alts := [], laidByText := true, laidKinds := [.data, .data, .data, .data, .sentinel, .sentinel, .pinned], laidTests := true, laidLooks := .later }
def TriggerEqualCardSaid : Prop := Claim7.holds Tryz.pinned (.plain (OpenSpec.ofChange triggerEqualSpec)) triggerEqualCard

/-- THE TIED CARD OF 'strobelaw04.TriggerMinimal'. -/
def triggerMinimalCard : Claim7 := { stood := { row := triggerMinimalRow, standIns := [], harness := (true, "2e823234b50608edc6f0b8f1d2cfefee591d50793a2420efa9e86cce3ccee6ae"), looks := true }, kinds := [], alts := [], laidByText := true, laidKinds := [.data, .data, .data, .data, .sentinel, .sentinel, .pinned], laidTests := true, laidLooks := .later }
def TriggerMinimalCardSaid : Prop := Claim7.holds Tryz.pinned (.plain (OpenSpec.ofChange triggerMinimalSpec)) triggerMinimalCard

/-- THE SECOND FORM's CARD OF 'strobelaw04.TriggerSources'. -/
def triggerSourcesUptoCard : Claim7 := { stood := { row := triggerSourcesUptoRow, standIns := [], harness := (true, "2e823234b50608edc6f0b8f1d2cfefee591d50793a2420efa9e86cce3ccee6ae"), looks := true }, kinds := [], alts := [], laidByText := true, laidKinds := [.data, .data, .data, .data, .sentinel, .sentinel, .pinned], laidTests := true, laidLooks := .later }
def TriggerSourcesUptoCardSaid : Prop := Claim7.holds Tryz.pinned (.plain (OpenSpec.upto triggerSourcesSpec)) triggerSourcesUptoCard

/-- THE SECOND FORM's CARD OF 'strobelaw04.TriggerHolds'. -/
def triggerHoldsUptoCard : Claim7 := { stood := { row := triggerHoldsUptoRow, standIns := [], harness := (true, "2e823234b50608edc6f0b8f1d2cfefee591d50793a2420efa9e86cce3ccee6ae"), looks := true }, kinds := [], alts := [], laidByText := true, laidKinds := [.data, .data, .data, .data, .sentinel, .sentinel, .pinned], laidTests := true, laidLooks := .later }
def TriggerHoldsUptoCardSaid : Prop := Claim7.holds Tryz.pinned (.plain (OpenSpec.upto triggerHoldsSpec)) triggerHoldsUptoCard

/-- THE SECOND FORM's CARD OF 'strobelaw04.TriggerTimes'. -/
def triggerTimesUptoCard : Claim7 := { stood := { row := triggerTimesUptoRow, standIns := [], harness := (true, "2e823234b50608edc6f0b8f1d2cfefee591d50793a2420efa9e86cce3ccee6ae"), looks := true }, kinds := [], alts := [], laidByText := true, laidKinds := [.data, .data, .data, .data, .sentinel, .sentinel, .pinned], laidTests := true, laidLooks := .later }
def TriggerTimesUptoCardSaid : Prop := Claim7.holds Tryz.pinned (.plain (OpenSpec.upto triggerTimesSpec)) triggerTimesUptoCard

/-- THE SECOND FORM's CARD OF 'strobelaw04.TriggerCompiles'. -/
def triggerCompilesUptoCard : Claim7 := { stood := { row := triggerCompilesUptoRow, standIns := [], harness := (true, "2e823234b50608edc6f0b8f1d2cfefee591d50793a2420efa9e86cce3ccee6ae"), looks := true }, kinds := [], alts := [], laidByText := true, laidKinds := [.data, .data, .data, .data, .sentinel, .sentinel, .pinned], laidTests := true, laidLooks := .later }
def TriggerCompilesUptoCardSaid : Prop := Claim7.holds Tryz.pinned (.plain (OpenSpec.upto triggerCompilesSpec)) triggerCompilesUptoCard

/-- THE SECOND FORM's CARD OF 'strobelaw04.TriggerCombines'. -/
def triggerCombinesUptoCard : Claim7 := { stood := { row := triggerCombinesUptoRow, standIns := [], harness := (true, "2e823234b50608edc6f0b8f1d2cfefee591d50793a2420efa9e86cce3ccee6ae"), looks := true }, kinds := [], alts := [], laidByText := true, laidKinds := [.data, .data, .data, .data, .sentinel, .sentinel, .pinned], laidTests := true, laidLooks := .later }
def TriggerCombinesUptoCardSaid : Prop := Claim7.holds Tryz.pinned (.plain (OpenSpec.upto triggerCombinesSpec)) triggerCombinesUptoCard

/-- THE SECOND FORM's CARD OF 'strobelaw04.TriggerMeans'. -/
def triggerMeansUptoCard : Claim7 := { stood := { row := triggerMeansUptoRow, standIns := [], harness := (true, "2e823234b50608edc6f0b8f1d2cfefee591d50793a2420efa9e86cce3ccee6ae"), looks := true }, kinds := [], alts := [], laidByText := true, laidKinds := [.data, .data, .data, .data, .sentinel, .sentinel, .pinned], laidTests := true, laidLooks := .later }
def TriggerMeansUptoCardSaid : Prop := Claim7.holds Tryz.pinned (.plain (OpenSpec.upto triggerMeansSpec)) triggerMeansUptoCard

/-- THE SECOND FORM's CARD OF 'strobelaw04.TriggerLogic'. -/
def triggerLogicUptoCard : Claim7 := { stood := { row := triggerLogicUptoRow, standIns := [], harness := (true, "2e823234b50608edc6f0b8f1d2cfefee591d50793a2420efa9e86cce3ccee6ae"), looks := true }, kinds := [], alts := [], laidByText := true, laidKinds := [.data, .data, .data, .data, .sentinel, .sentinel, .pinned], laidTests := true, laidLooks := .later }
def TriggerLogicUptoCardSaid : Prop := Claim7.holds Tryz.pinned (.plain (OpenSpec.upto triggerLogicSpec)) triggerLogicUptoCard

/-- THE SECOND FORM's CARD OF 'strobelaw04.TriggerRuns'. -/
def triggerRunsUptoCard : Claim7 := { stood := { row := triggerRunsUptoRow, standIns := [], harness := (true, "2e823234b50608edc6f0b8f1d2cfefee591d50793a2420efa9e86cce3ccee6ae"), looks := true }, kinds := [], alts := [], laidByText := true, laidKinds := [.data, .data, .data, .data, .sentinel, .sentinel, .pinned], laidTests := true, laidLooks := .later }
def TriggerRunsUptoCardSaid : Prop := Claim7.holds Tryz.pinned (.plain (OpenSpec.upto triggerRunsSpec)) triggerRunsUptoCard

/-- THE SECOND FORM's CARD OF 'strobelaw04.TriggerPrograms'. -/
def triggerProgramsUptoCard : Claim7 := { stood := { row := triggerProgramsUptoRow, standIns := [], harness := (true, "2e823234b50608edc6f0b8f1d2cfefee591d50793a2420efa9e86cce3ccee6ae"), looks := true }, kinds := [], alts := [], laidByText := true, laidKinds := [.data, .data, .data, .data, .sentinel, .sentinel, .pinned], laidTests := true, laidLooks := .later }
def TriggerProgramsUptoCardSaid : Prop := Claim7.holds Tryz.pinned (.plain (OpenSpec.upto triggerProgramsSpec)) triggerProgramsUptoCard

/-- THE SECOND FORM's CARD OF 'strobelaw04.TriggerReads'. -/
def triggerReadsUptoCard : Claim7 := { stood := { row := triggerReadsUptoRow, standIns := [], harness := (true, "2e823234b50608edc6f0b8f1d2cfefee591d50793a2420efa9e86cce3ccee6ae"), looks := true }, kinds := [], alts := [], laidByText := true, laidKinds := [.data, .data, .data, .data, .sentinel, .sentinel, .pinned], laidTests := true, laidLooks := .later }
def TriggerReadsUptoCardSaid : Prop := Claim7.holds Tryz.pinned (.plain (OpenSpec.upto triggerReadsSpec)) triggerReadsUptoCard

/-- THE SECOND FORM's CARD OF 'strobelaw04.TriggerCompares'. -/
def triggerComparesUptoCard : Claim7 := { stood := { row := triggerComparesUptoRow, standIns := [], harness := (true, "2e823234b50608edc6f0b8f1d2cfefee591d50793a2420efa9e86cce3ccee6ae"), looks := true }, kinds := [], alts := [], laidByText := true, laidKinds := [.data, .data, .data, .data, .sentinel, .sentinel, .pinned], laidTests := true, laidLooks := .later }
def TriggerComparesUptoCardSaid : Prop := Claim7.holds Tryz.pinned (.plain (OpenSpec.upto triggerComparesSpec)) triggerComparesUptoCard

/-- THE SECOND FORM's CARD OF 'strobelaw04.TriggerEqual'. -/
def triggerEqualUptoCard : Claim7 := { stood := { row := triggerEqualUptoRow, standIns := [], harness := (true, "2e823234b50608edc6f0b8f1d2cfefee591d50793a2420efa9e86cce3ccee6ae"), looks := true }, kinds := [], alts := [], laidByText := true, laidKinds := [.data, .data, .data, .data, .sentinel, .sentinel, .pinned], laidTests := true, laidLooks := .later }
def TriggerEqualUptoCardSaid : Prop := Claim7.holds Tryz.pinned (.plain (OpenSpec.upto triggerEqualSpec)) triggerEqualUptoCard

/-- THE SECOND FORM's CARD OF 'strobelaw04.TriggerMinimal'. -/
def triggerMinimalUptoCard : Claim7 := { stood := { row := triggerMinimalUptoRow, standIns := [], harness := (true, "2e823234b50608edc6f0b8f1d2cfefee591d50793a2420efa9e86cce3ccee6ae"), looks := true }, kinds := [], alts := [], laidByText := true, laidKinds := [.data, .data, .data, .data, .sentinel, .sentinel, .pinned], laidTests := true, laidLooks := .later }
def TriggerMinimalUptoCardSaid : Prop := Claim7.holds Tryz.pinned (.plain (OpenSpec.upto triggerMinimalSpec)) triggerMinimalUptoCard
end Rows
end Go.Proofs.YtikiipfbkfgmbaaGreatDoor
