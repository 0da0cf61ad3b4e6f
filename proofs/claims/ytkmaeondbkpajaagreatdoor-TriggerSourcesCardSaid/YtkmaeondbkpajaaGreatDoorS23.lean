/- A part of the proof of a statement of this seat: the machine on which the program is read, and what it computes; for every input. -/
import Derived.Test.YtkmaeondbkpajaaGreatDoorS22
set_option linter.all false
set_option linter.all false
namespace Go.Am
open Go Go.Proofs Go.Proofs.YtkmaeondbkpajaaGreatDoor Go.RowKit
set_option maxRecDepth 100000
set_option maxHeartbeats 10000000
theorem namedS : Tryz.pinned.checked.prog.funcNamed Rows.triggerSourcesRow.func = some 3 := by kernel_rfl
theorem instS : Tryz.f3.isInstance Tryz.pinned.checked.prog Rows.triggerSourcesRow.origin Rows.triggerSourcesRow.targs := of_decide_eq_true (by kernel_rfl)
theorem wrapS : Tryz.f3.isWrapper Tryz.pinned.checked.prog Rows.triggerSourcesRow.wrapper Rows.triggerSourcesRow.mainSum := by unfold Func.isWrapper; first | (rw [if_pos (by decide +kernel)]; kernel_rfl) | (rw [if_neg (by decide +kernel)]; exact ⟨rfl, rfl⟩)
theorem closedS : joinedFacts Tryz.pinned.checked.prog 3 Tryz.f3 Rows.triggerSourcesSpec Rows.triggerSourcesRow = true := by
  unfold joinedFacts
  repeat' (with_reducible refine Bool.and_eq_true_iff.2 ⟨?_, ?_⟩)
  all_goals as_aux_lemma => kernel_rfl
end Go.Am
