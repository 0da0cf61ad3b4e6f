/- A part of the proof of a statement of this seat: the machine on which the program is read, and what it computes; for every input. -/
import Derived.Test.YtaoeblefgefgpaaGreatDoorC30
set_option linter.all false
set_option linter.all false
namespace Go.Am
open Go Go.Proofs Go.Proofs.YtaoeblefgefgpaaGreatDoor Go.RowKit
set_option maxRecDepth 100000
set_option maxHeartbeats 10000000
theorem namedC : Tryz.pinned.checked.prog.funcNamed Rows.benchCollectsRow.func = some 3 := by kernel_rfl
theorem instC : Tryz.f3.isInstance Tryz.pinned.checked.prog Rows.benchCollectsRow.origin Rows.benchCollectsRow.targs := of_decide_eq_true (by kernel_rfl)
theorem wrapC : Tryz.f3.isWrapper Tryz.pinned.checked.prog Rows.benchCollectsRow.wrapper Rows.benchCollectsRow.mainSum := by unfold Func.isWrapper; first | (rw [if_pos (by decide +kernel)]; kernel_rfl) | (rw [if_neg (by decide +kernel)]; exact ⟨rfl, rfl⟩)
theorem closedC : joinedFacts Tryz.pinned.checked.prog 3 Tryz.f3 Rows.benchCollectsSpec Rows.benchCollectsRow = true := by
  unfold joinedFacts
  repeat' (with_reducible refine Bool.and_eq_true_iff.2 ⟨?_, ?_⟩)
  all_goals as_aux_lemma => kernel_rfl
end Go.Am
