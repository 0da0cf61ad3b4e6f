/- The statement that this file ends with holds for every input, with no condition beyond its own. -/
import Derived.Test.YtikiipfbkfgmbaaGreatDoorG06
import Derived.Test.YtikiipfbkfgmbaaGreatDoorG10
import Derived.Test.YtikiipfbkfgmbaaGreatDoorG15
set_option linter.all false
namespace Go.Proofs.YtikiipfbkfgmbaaGreatDoor
open Go.Am
theorem trigger_compares:Rows.TriggerComparesCardSaid:=compares_card fun p q nl l=>c13 awake_ok p q nl l
#print axioms trigger_compares
end Go.Proofs.YtikiipfbkfgmbaaGreatDoor
