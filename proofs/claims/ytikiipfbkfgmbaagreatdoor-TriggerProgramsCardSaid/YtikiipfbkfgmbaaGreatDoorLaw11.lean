/- The statement that this file ends with holds for every input, with no condition beyond its own. -/
import Derived.Test.YtikiipfbkfgmbaaGreatDoorM05
import Derived.Test.YtikiipfbkfgmbaaGreatDoorM10
import Derived.Test.YtikiipfbkfgmbaaGreatDoorM11
import Derived.Test.YtikiipfbkfgmbaaGreatDoorM14
set_option linter.all false
namespace Go.Proofs.YtikiipfbkfgmbaaGreatDoor
open Go.Am
/-- TriggerPrograms returns true for every input, and the input reads as it did. -/
theorem trigger_programs : Rows.TriggerProgramsCardSaid := programs_card fun p => c11 awake_ok c127 c129 c133 p
#print axioms trigger_programs
end Go.Proofs.YtikiipfbkfgmbaaGreatDoor
