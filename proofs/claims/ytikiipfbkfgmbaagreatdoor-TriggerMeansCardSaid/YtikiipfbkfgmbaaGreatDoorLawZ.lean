/- The statement that this file ends with holds for every input, with no condition beyond its own. -/
import Derived.Test.YtikiipfbkfgmbaaGreatDoorZ41
import Derived.Test.YtikiipfbkfgmbaaGreatDoorZ43
import Derived.Test.YtikiipfbkfgmbaaGreatDoorZ22
set_option linter.all false
namespace Go.Proofs.YtikiipfbkfgmbaaGreatDoor
open Go.Am
theorem trigger_means:Rows.TriggerMeansCardSaid:=aoU fun p nl l=>c8m lS p nl l
#print axioms trigger_means
end Go.Proofs.YtikiipfbkfgmbaaGreatDoor
