/- A part of the proof of a statement of this seat: the machine on which the program is read, and what it computes; for every input. -/
import Derived.Test.YtkmaeondbkpajaaGreatDoorN33
set_option linter.all false
namespace Go.Am
open Go Go.Proofs
set_option maxRecDepth 100000
variable {H:Type}{enc:TypeId×Value->H}{w:World}{σ:Sg}
theorem dh:Tryz.prog.cellsOf 9=1:=by kernel_rfl
end Go.Am
