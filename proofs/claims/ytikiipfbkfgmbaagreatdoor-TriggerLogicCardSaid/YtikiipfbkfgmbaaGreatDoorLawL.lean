/- The statement that this file ends with holds for every input, with no condition beyond its own. -/
import Derived.Test.YtikiipfbkfgmbaaGreatDoorL06
import Derived.Test.YtikiipfbkfgmbaaGreatDoorL10
import Derived.Test.YtikiipfbkfgmbaaGreatDoorL15
set_option linter.all false
namespace Go.Proofs.YtikiipfbkfgmbaaGreatDoor
open Go.Am
theorem trigger_logic:Rows.TriggerLogicCardSaid:=logic_card fun p q nl l=>c9 awake_ok p q nl l
#print axioms trigger_logic
end Go.Proofs.YtikiipfbkfgmbaaGreatDoor
