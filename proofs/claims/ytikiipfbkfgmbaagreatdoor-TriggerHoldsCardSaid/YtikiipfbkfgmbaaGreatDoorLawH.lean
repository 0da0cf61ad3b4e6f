/- The statement that this file ends with holds for every input, with no condition beyond its own. -/
import Derived.Test.YtikiipfbkfgmbaaGreatDoorN11
import Derived.Test.YtikiipfbkfgmbaaGreatDoorN13
set_option linter.all false
namespace Go.Proofs.YtikiipfbkfgmbaaGreatDoor
open Go.Am
/-- TriggerHolds returns true for every input, and the input reads as it did. -/
theorem trigger_holds : Rows.TriggerHoldsCardSaid := holds_card fun n c nl l => c4_true n c nl l
#print axioms trigger_holds
end Go.Proofs.YtikiipfbkfgmbaaGreatDoor
