/- A part of the proof of a statement of this seat: the machine on which the program is read, and what it computes; for every input. -/
import Derived.Test.YtkmaeondbkpajaaGreatDoorN35
set_option linter.all false
namespace Go.Am
open Go Go.Proofs Go.Proofs.YtkmaeondbkpajaaGreatDoor Go.RowKit
set_option maxRecDepth 100000
set_option maxHeartbeats 10000000
theorem Br:Tryz.pinned.checked.prog.funcNamed Rows.triggerMinimalRow.func=some 7:=by kernel_rfl
theorem lB:Tryz.f7.isInstance Tryz.pinned.checked.prog Rows.triggerMinimalRow.origin Rows.triggerMinimalRow.targs:=of_decide_eq_true (by kernel_rfl)
theorem lz:Tryz.f7.isWrapper Tryz.pinned.checked.prog Rows.triggerMinimalRow.wrapper Rows.triggerMinimalRow.mainSum:=by unfold Func.isWrapper;first|(rw[if_pos (by decide +kernel)];kernel_rfl)|(rw[if_neg (by decide +kernel)];exact⟨rfl,rfl⟩)
theorem wT:joinedFacts Tryz.pinned.checked.prog 7 Tryz.f7 Rows.triggerMinimalSpec Rows.triggerMinimalRow=true:=by
 unfold joinedFacts
 repeat' (with_reducible refine Bool.and_eq_true_iff.2 ⟨?_,?_⟩)
 all_goals as_aux_lemma=>kernel_rfl
end Go.Am
