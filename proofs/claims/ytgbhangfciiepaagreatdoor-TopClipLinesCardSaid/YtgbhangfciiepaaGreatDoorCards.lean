/-
  DERIVED. GIVEN WITH THE SEED: THE CARDS: each row of YtgbhangfciiepaaGreatDoorRows.lean that lists a variable, with what it lists TIED to the program's text (the seventh form; the later family's looks); each row that meets fmt, with fmt's text TOLD by the authors' own Lean function (tested against real Go, not proved from fmt's source: count such statements apart). THE CARD IS WHAT COUNTS. Prove the row's statement (the work); the ties are given (YtgbhangfciiepaaGreatDoorTie.lean); close each card by the builder's one call (the guide's Derived/Test/ToyasCard.lean, 'card_holds'). Laid BY PROGRAM, IN A SANDBOX (cutbox-door.mjs). By AI agents, Wed Nov 11 2026. No macro, syntax, notation, axiom, sorry.
-/
import Derived.Test.YtgbhangfciiepaaGreatDoorRows
import GoSem.ClaimSeven
namespace Go.Proofs.YtgbhangfciiepaaGreatDoor
namespace Rows

/-- THE TIED CARD OF 'strobetop.TopClipLines'. -/
def topClipLinesCard : Claim7 := { stood := { row := topClipLinesRow, standIns := [], harness := (true, "0ac7f845504f2d7787aa62bb427082ea3f689d6fbd6f7a24d7b0bdfcc6f825f8"), looks := true }, kinds := [], alts := [], laidByText := true, laidKinds := [.data, .data, .data, .data, .sentinel, .sentinel, .pinned], laidTests := true, laidLooks := .later }
def TopClipLinesCardSaid : Prop := Claim7.holds Tryz.pinned (.plain (OpenSpec.ofChange topClipLinesSpec)) topClipLinesCard

/-- THE SECOND FORM's CARD OF 'strobetop.TopClipLines'. -/
def topClipLinesUptoCard : Claim7 := { stood := { row := topClipLinesUptoRow, standIns := [], harness := (true, "0ac7f845504f2d7787aa62bb427082ea3f689d6fbd6f7a24d7b0bdfcc6f825f8"), looks := true }, kinds := [], alts := [], laidByText := true, laidKinds := [.data, .data, .data, .data, .sentinel, .sentinel, .pinned], laidTests := true, laidLooks := .later }
def TopClipLinesUptoCardSaid : Prop := Claim7.holds Tryz.pinned (.plain (OpenSpec.upto topClipLinesSpec)) topClipLinesUptoCard
end Rows
end Go.Proofs.YtgbhangfciiepaaGreatDoor
