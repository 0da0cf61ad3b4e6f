/- The statement that this file ends with holds for every input, with no condition beyond its own. -/
import Derived.Test.YtikiipfbkfgmbaaGreatDoorC07
import Derived.Test.YtikiipfbkfgmbaaGreatDoorC11
import Derived.Test.YtikiipfbkfgmbaaGreatDoorC16
set_option linter.all false
namespace Go.Proofs.YtikiipfbkfgmbaaGreatDoor
open Go.Am
theorem trigger_combines:Rows.TriggerCombinesCardSaid:=combines_card fun p q=>c7 awake_ok p q
#print axioms trigger_combines
end Go.Proofs.YtikiipfbkfgmbaaGreatDoor
