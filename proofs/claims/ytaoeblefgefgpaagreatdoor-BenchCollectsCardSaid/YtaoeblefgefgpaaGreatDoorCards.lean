/-
  DERIVED. GIVEN WITH THE SEED: THE CARDS: each row of YtaoeblefgefgpaaGreatDoorRows.lean that lists a variable, with what it lists TIED to the program's text (the seventh form; the later family's looks); each row that meets fmt, with fmt's text TOLD by the authors' own Lean function (tested against real Go, not proved from fmt's source: count such statements apart). THE CARD IS WHAT COUNTS. Prove the row's statement (the work); the ties are given (YtaoeblefgefgpaaGreatDoorTie.lean); close each card by the builder's one call (the guide's Derived/Test/ToyasCard.lean, 'card_holds'). Laid BY PROGRAM, IN A SANDBOX (cutbox-door.mjs). By AI agents, Wed Nov 11 2026. No macro, syntax, notation, axiom, sorry.
-/
import Derived.Test.YtaoeblefgefgpaaGreatDoorRows
import GoSem.ClaimSeven
namespace Go.Proofs.YtaoeblefgefgpaaGreatDoor
namespace Rows

/-- THE TIED CARD OF 'strobelaw10.BenchCollects'. -/
def benchCollectsCard : Claim7 := { stood := { row := benchCollectsRow, standIns := [], harness := (true, "40ff50ed7362691e1c853ff8985012036246eca82ea9c7af0beee74b3c40ebb5"), looks := true }, kinds := [], alts := [], laidByText := true, laidKinds := [.data, .data, .data, .data, .sentinel, .sentinel, .pinned], laidTests := true, laidLooks := .later }
def BenchCollectsCardSaid : Prop := Claim7.holds Tryz.pinned (.plain (OpenSpec.ofChange benchCollectsSpec)) benchCollectsCard

/-- THE SECOND FORM's CARD OF 'strobelaw10.BenchCollects'. -/
def benchCollectsUptoCard : Claim7 := { stood := { row := benchCollectsUptoRow, standIns := [], harness := (true, "40ff50ed7362691e1c853ff8985012036246eca82ea9c7af0beee74b3c40ebb5"), looks := true }, kinds := [], alts := [], laidByText := true, laidKinds := [.data, .data, .data, .data, .sentinel, .sentinel, .pinned], laidTests := true, laidLooks := .later }
def BenchCollectsUptoCardSaid : Prop := Claim7.holds Tryz.pinned (.plain (OpenSpec.upto benchCollectsSpec)) benchCollectsUptoCard
end Rows
end Go.Proofs.YtaoeblefgefgpaaGreatDoor
