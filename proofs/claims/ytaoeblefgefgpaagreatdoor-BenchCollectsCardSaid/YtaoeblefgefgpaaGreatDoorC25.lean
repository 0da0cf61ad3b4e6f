/- A part of the proof of a statement of this seat: the machine on which the program is read, and what it computes; for every input. -/
import Derived.Test.YtaoeblefgefgpaaGreatDoorC05
set_option linter.all false
set_option linter.all false
namespace Go.Am
open Go
set_option maxRecDepth 100000
theorem q41a : callQ M1 (exec M1 100000) 29 a41a true = some v41a := by kernel_rfl
theorem q41b : callQ M1 (exec M1 100000) 29 a41b true = some v41b := by kernel_rfl
theorem q66 : callQ M1 (exec M1 100000) 35 a66 true = some v66 := by kernel_rfl
theorem q66b : callQ M1 (exec M1 100000) 35 a66b true = some v66b := by kernel_rfl
end Go.Am
