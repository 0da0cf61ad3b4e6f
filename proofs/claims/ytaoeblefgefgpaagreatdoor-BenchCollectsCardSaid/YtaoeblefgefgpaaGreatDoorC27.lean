/- A part of the proof of a statement of this seat: the machine on which the program is read, and what it computes; for every input. -/
import Derived.Test.YtaoeblefgefgpaaGreatDoorC26
set_option linter.all false
set_option linter.all false
namespace Go.Am
open Go
set_option maxRecDepth 100000
theorem aw1 : preE M2 100000 15 c17 (bindArgs 0 [] .nil) (ownSt M2) = some (e15, s15, restC 15 c17) := by kernel_rfl
end Go.Am
