/-
  DERIVED. GIVEN WITH THE SEED: THE CARDS: each row of YtkmaeondbkpajaaGreatDoorRows.lean that lists a variable, with what it lists TIED to the program's text (the seventh form; the later family's looks); each row that meets fmt, with fmt's text TOLD by the authors' own Lean function (tested against real Go, not proved from fmt's source: count such statements apart). THE CARD IS WHAT COUNTS. Prove the row's statement (the work); the ties are given (YtkmaeondbkpajaaGreatDoorTie.lean); close each card by the builder's one call (the guide's Derived/Test/ToyasCard.lean, 'card_holds'). Laid BY PROGRAM, IN A SANDBOX (cutbox-door.mjs). By AI agents, Wed Nov 11 2026. No macro, syntax, notation, axiom, sorry.
-/
import Derived.Test.YtkmaeondbkpajaaGreatDoorRows
import GoSem.ClaimSeven
namespace Go.Proofs.YtkmaeondbkpajaaGreatDoor
namespace Rows

/-- THE TIED CARD OF 'strobelaw04.TriggerSources'. -/
def triggerSourcesCard : Claim7 := { stood := { row := triggerSourcesRow, standIns := [], harness := (true, "ab35607005ba67d11f4da0137ec9358600097a26f14de901931fc878f023cbd0"), looks := true }, kinds := [], alts := [], laidByText := true, laidKinds := [.data, .data, .data, .data, .sentinel, .sentinel, .pinned], laidTests := true, laidLooks := .later }
def TriggerSourcesCardSaid : Prop := Claim7.holds Tryz.pinned (.plain (OpenSpec.ofChange triggerSourcesSpec)) triggerSourcesCard

/-- THE TIED CARD OF 'strobetop.TopSweepSignals'. -/
def topSweepSignalsCard : Claim7 := { stood := { row := topSweepSignalsRow, standIns := [], harness := (true, "ab35607005ba67d11f4da0137ec9358600097a26f14de901931fc878f023cbd0"), looks := true }, kinds := [], alts := [], laidByText := true, laidKinds := [.data, .data, .data, .data, .pinned], laidTests := true, laidLooks := .later }
def TopSweepSignalsCardSaid : Prop := Claim7.holds Tryz.pinned (.plain (OpenSpec.ofChange topSweepSignalsSpec)) topSweepSignalsCard

/-- THE TIED CARD OF 'strobelaw04.TriggerReads'. -/
def triggerReadsCard : Claim7 := { stood := { row := triggerReadsRow, standIns := [], harness := (true, "ab35607005ba67d11f4da0137ec9358600097a26f14de901931fc878f023cbd0"), looks := true }, kinds := [], alts := [], laidByText := true, laidKinds := [.data, .data, .data, .data, .sentinel, .sentinel, .pinned], laidTests := true, laidLooks := .later }
def TriggerReadsCardSaid : Prop := Claim7.holds Tryz.pinned (.plain (OpenSpec.ofChange triggerReadsSpec)) triggerReadsCard

/-- THE TIED CARD OF 'strobelaw04.TriggerEqual'. -/
def triggerEqualCard : Claim7 := { stood := { row := triggerEqualRow, standIns := [], harness := (true, "ab35607005ba67d11f4da0137ec9358600097a26f14de901931fc878f023cbd0"), looks := true }, kinds := [], alts := [], laidByText := true, laidKinds := [.data, .data, .data, .data, .sentinel, .sentinel, .pinned], laidTests := true, laidLooks := .later }
def TriggerEqualCardSaid : Prop := Claim7.holds Tryz.pinned (.plain (OpenSpec.ofChange triggerEqualSpec)) triggerEqualCard

/-- THE TIED CARD OF 'strobelaw04.TriggerMinimal'. -/
def triggerMinimalCard : Claim7 := { stood := { row := triggerMinimalRow, standIns := [], harness := (true, "ab35607005ba67d11f4da0137ec9358600097a26f14de901931fc878f023cbd0"), looks := true }, kinds := [], alts := [], laidByText := true, laidKinds := [.data, .data, .data, .data, .sentinel, .sentinel, .pinned], laidTests := true, laidLooks := .later }
def TriggerMinimalCardSaid : Prop := Claim7.holds Tryz.pinned (.plain (OpenSpec.ofChange triggerMinimalSpec)) triggerMinimalCard

/-- THE SECOND FORM's CARD OF 'strobelaw04.TriggerSources'. -/
def triggerSourcesUptoCard : Claim7 := { stood := { row := triggerSourcesUptoRow, standIns := [], harness := (true, "ab35607005ba67d11f4da0137ec9358600097a26f14de901931fc878f023cbd0"), looks := true }, kinds := [], alts := [], laidByText := true, laidKinds := [.data, .data, .data, .data, .sentinel, .sentinel, .pinned], laidTests := true, laidLooks := .later }
def TriggerSourcesUptoCardSaid : Prop := Claim7.holds Tryz.pinned (.plain (OpenSpec.upto triggerSourcesSpec)) triggerSourcesUptoCard

/-- THE SECOND FORM's CARD OF 'strobetop.TopSweepSignals'. -/
def topSweepSignalsUptoCard : Claim7 := { stood := { row := topSweepSignalsUptoRow, standIns := [], harness := (true, "ab35607005ba67d11f4da0137ec9358600097a26f14de901931fc878f023cbd0"), looks := true }, kinds := [], alts := [], laidByText := true, laidKinds := [.data, .data, .data, .data, .pinned], laidTests := true, laidLooks := .later }
def TopSweepSignalsUptoCardSaid : Prop := Claim7.holds Tryz.pinned (.plain (OpenSpec.upto topSweepSignalsSpec)) topSweepSignalsUptoCard

/-- THE SECOND FORM's CARD OF 'strobelaw04.TriggerReads'. -/
def triggerReadsUptoCard : Claim7 := { stood := { row := triggerReadsUptoRow, standIns := [], harness := (true, "ab35607005ba67d11f4da0137ec9358600097a26f14de901931fc878f023cbd0"), looks := true }, kinds := [], alts := [], laidByText := true, laidKinds := [.data, .data, .data, .data, .sentinel, .sentinel, .pinned], laidTests := true, laidLooks := .later }
def TriggerReadsUptoCardSaid : Prop := Claim7.holds Tryz.pinned (.plain (OpenSpec.upto triggerReadsSpec)) triggerReadsUptoCard

/-- THE SECOND FORM's CARD OF 'strobelaw04.TriggerEqual'. -/
def triggerEqualUptoCard : Claim7 := { stood := { row := triggerEqualUptoRow, standIns := [], harness := (true, "ab35607005ba67d11f4da0137ec9358600097a26f14de901931fc878f023cbd0"), looks := true }, kinds := [], alts := [], laidByText := true, laidKinds := [.data, .data, .data, .data, .sentinel, .sentinel, .pinned], laidTests := true, laidLooks := .later }
def TriggerEqualUptoCardSaid : Prop := Claim7.holds Tryz.pinned (.plain (OpenSpec.upto triggerEqualSpec)) triggerEqualUptoCard

/-- THE SECOND FORM's CARD OF 'strobelaw04.TriggerMinimal'. -/
def triggerMinimalUptoCard : Claim7 := { stood := { row := triggerMinimalUptoRow, standIns := [], harness := (true, "ab35607005ba67d11f4da0137ec9358600097a26f14de901931fc878f023cbd0"), looks := true }, kinds := [], alts := [], laidByText := true, laidKinds := [.data, .data, .data, .data, .sentinel, .sentinel, .pinned], laidTests := true, laidLooks := .later }
def TriggerMinimalUptoCardSaid : Prop := Claim7.holds Tryz.pinned (.plain (OpenSpec.upto triggerMinimalSpec)) triggerMinimalUptoCard
end Rows
end Go.Proofs.YtkmaeondbkpajaaGreatDoor
