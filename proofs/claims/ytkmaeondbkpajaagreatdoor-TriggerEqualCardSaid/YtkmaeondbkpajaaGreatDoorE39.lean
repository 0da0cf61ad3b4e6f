/- A part of the proof. -/
import Derived.Test.YtkmaeondbkpajaaGreatDoorE38
set_option linter.all false
set_option maxHeartbeats 10000000
set_option maxRecDepth 100000
namespace Go.Am
open Go Go.Proofs Go.Proofs.YtkmaeondbkpajaaGreatDoor Go.RowKit
def dZ:Tryz.pinned.checked.prog.funcNamed Rows.triggerEqualRow.func=some 6:=It
def aiT:Tryz.f6.isInstance Tryz.pinned.checked.prog Rows.triggerEqualRow.origin Rows.triggerEqualRow.targs:=of_decide_eq_true It
def aiU:Tryz.f6.isWrapper Tryz.pinned.checked.prog Rows.triggerEqualRow.wrapper Rows.triggerEqualRow.mainSum:=by unfold Func.isWrapper;first|(rw[Of (by decide +kernel)];kernel_rfl)|(rw[O3 (by decide +kernel)];exact⟨rfl,rfl⟩)
def abr:joinedFacts Tryz.pinned.checked.prog 6 Tryz.f6 Rows.triggerEqualSpec Rows.triggerEqualRow=true:=by
 unfold joinedFacts
 repeat' (with_reducible refine Bool.and_eq_true_iff.2 ⟨?_,?_⟩)
 all_goals as_aux_lemma=>kernel_rfl
end Go.Am
