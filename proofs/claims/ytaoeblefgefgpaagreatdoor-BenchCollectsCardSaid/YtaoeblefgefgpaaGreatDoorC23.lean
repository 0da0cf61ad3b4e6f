/- A part of the proof of a statement of this seat: the machine on which the program is read, and what it computes; for every input. -/
import Derived.Test.YtaoeblefgefgpaaGreatDoorC05
set_option linter.all false
set_option linter.all false
namespace Go.Am
open Go
set_option maxRecDepth 100000
theorem q18 : callQ U1 (exec U1 100000) 15 a18 true = some v18 := by kernel_rfl
theorem q23 : callQ U1 (exec U1 100000) 46 a23 true = some v23 := by kernel_rfl
theorem q77a : callQ U1 (exec U1 100000) 19 a77a true = some v77a := by kernel_rfl
theorem q77b : callQ U1 (exec U1 100000) 19 a77b true = some v77b := by kernel_rfl
theorem q78b : callQ U1 (exec U1 100000) 18 a78b true = some v78b := by kernel_rfl
theorem q108 : callQ U1 (exec U1 100000) 59 a108 true = some v108 := by kernel_rfl
theorem q27b : callQ U1 (exec U1 100000) 20 a27b false = some v27b := by kernel_rfl
theorem q84 : callQ U1 (exec U1 100000) 30 a84 true = some v84 := by kernel_rfl
end Go.Am
