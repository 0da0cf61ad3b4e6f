/- A part of the proof of a statement of this seat: the machine on which the program is read, and what it computes; for every input. -/
import Derived.Test.YtaoeblefgefgpaaGreatDoorC26
set_option linter.all false
set_option linter.all false
namespace Go.Am
open Go
set_option maxRecDepth 100000
/-- what the rest comes to, but for what lies in memory then -/
noncomputable def end17 : Option AV := match exec M2 100000 (restC 15 c17) e15 s15 with
  | some (.ret, e, _) => some (Env.get e 0)
  | _ => none
theorem aw2 : end17 = some (.bool true) := by kernel_rfl
end Go.Am
