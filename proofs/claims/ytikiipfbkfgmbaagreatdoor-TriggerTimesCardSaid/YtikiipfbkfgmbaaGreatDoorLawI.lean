/- The statement that this file ends with holds for every input, with no condition beyond its own. -/
import Derived.Test.YtikiipfbkfgmbaaGreatDoorP00
import Derived.Test.YtikiipfbkfgmbaaGreatDoorP02
import Derived.Test.YtikiipfbkfgmbaaGreatDoorN10
set_option linter.all false
namespace Go.Proofs.YtikiipfbkfgmbaaGreatDoor
open Go.Am
/-- TriggerTimes returns true for every input, and the input reads as it did. -/
theorem trigger_times : Rows.TriggerTimesCardSaid := times_card fun p nl l => c5 awake_ok p nl l
#print axioms trigger_times
end Go.Proofs.YtikiipfbkfgmbaaGreatDoor
