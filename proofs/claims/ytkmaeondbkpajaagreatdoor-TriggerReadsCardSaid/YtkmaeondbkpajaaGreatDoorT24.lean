/- A part of the proof of a statement of this seat: the machine on which the program is read, and what it computes; for every input. -/
import Derived.Test.YtkmaeondbkpajaaGreatDoorT23
set_option linter.all false
set_option linter.all false
namespace Go.Am
open Go Go.Proofs Go.Proofs.YtkmaeondbkpajaaGreatDoor Go.RowKit
set_option maxRecDepth 100000
set_option maxHeartbeats 10000000
theorem namedT : Tryz.pinned.checked.prog.funcNamed Rows.triggerReadsRow.func = some 5 := by kernel_rfl
theorem instT : Tryz.f5.isInstance Tryz.pinned.checked.prog Rows.triggerReadsRow.origin Rows.triggerReadsRow.targs := of_decide_eq_true (by kernel_rfl)
theorem wrapT : Tryz.f5.isWrapper Tryz.pinned.checked.prog Rows.triggerReadsRow.wrapper Rows.triggerReadsRow.mainSum := by unfold Func.isWrapper; first | (rw [if_pos (by decide +kernel)]; kernel_rfl) | (rw [if_neg (by decide +kernel)]; exact ⟨rfl, rfl⟩)
theorem closedT : joinedFacts Tryz.pinned.checked.prog 5 Tryz.f5 Rows.triggerReadsSpec Rows.triggerReadsRow = true := by
  unfold joinedFacts
  repeat' (with_reducible refine Bool.and_eq_true_iff.2 ⟨?_, ?_⟩)
  all_goals as_aux_lemma => kernel_rfl
end Go.Am
