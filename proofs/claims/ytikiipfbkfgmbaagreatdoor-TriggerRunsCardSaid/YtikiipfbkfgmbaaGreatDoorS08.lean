/- A part of the proof of a statement of this seat: the machine on which the program is read, and what it computes; for every input. -/
import Derived.Test.YtikiipfbkfgmbaaGreatDoorS07
set_option linter.all false
namespace Go.Am
open Go Go.Proofs Go.Proofs.YtikiipfbkfgmbaaGreatDoor Go.RowKit
set_option maxRecDepth 100000
set_option maxHeartbeats 10000000
theorem named10 : Tryz.pinned.checked.prog.funcNamed Rows.triggerRunsRow.func = some 10 := by kernel_rfl
theorem inst10 : Tryz.f10.isInstance Tryz.pinned.checked.prog Rows.triggerRunsRow.origin Rows.triggerRunsRow.targs := of_decide_eq_true (by kernel_rfl)
theorem wrap10 : Tryz.f10.isWrapper Tryz.pinned.checked.prog Rows.triggerRunsRow.wrapper Rows.triggerRunsRow.mainSum := by unfold Func.isWrapper; first | (rw [if_pos (by decide +kernel)]; kernel_rfl) | (rw [if_neg (by decide +kernel)]; exact ⟨rfl, rfl⟩)
theorem closed10 : joinedFacts Tryz.pinned.checked.prog 10 Tryz.f10 Rows.triggerRunsSpec Rows.triggerRunsRow = true := by
  unfold joinedFacts
  repeat' (with_reducible refine Bool.and_eq_true_iff.2 ⟨?_, ?_⟩)
  all_goals as_aux_lemma => kernel_rfl
end Go.Am
