/- A part of the proof of a statement of this seat: the machine on which the program is read, and what it computes; for every input. -/
import Derived.Test.YtaoeblefgefgpaaGreatDoorC05
set_option linter.all false
set_option linter.all false
namespace Go.Am
open Go
set_option maxRecDepth 100000
theorem q19 : callQ U1 (exec U1 100000) 17 a19 true = some v19 := by kernel_rfl
theorem q78a : callQ U1 (exec U1 100000) 18 a78a true = some v78a := by kernel_rfl
theorem q27a : callQ U1 (exec U1 100000) 20 a27a true = some v27a := by kernel_rfl
end Go.Am
