/- The statement that this file ends with holds for every input, with no condition beyond its own. -/
import Derived.Test.YtikiipfbkfgmbaaGreatDoorS06
import Derived.Test.YtikiipfbkfgmbaaGreatDoorS09
import Derived.Test.YtikiipfbkfgmbaaGreatDoorS14
set_option linter.all false
namespace Go.Proofs.YtikiipfbkfgmbaaGreatDoor
open Go.Am
/-- TriggerRuns returns true for every input, and the input reads as it did. -/
theorem trigger_runs : Rows.TriggerRunsCardSaid := runs_card fun p nl l => c10 awake_ok p nl l
#print axioms trigger_runs
end Go.Proofs.YtikiipfbkfgmbaaGreatDoor
