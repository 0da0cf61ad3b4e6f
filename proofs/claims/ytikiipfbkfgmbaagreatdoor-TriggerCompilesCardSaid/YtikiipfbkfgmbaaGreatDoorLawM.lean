/- The statement that this file ends with holds for every input, with no condition beyond its own. -/
import Derived.Test.YtikiipfbkfgmbaaGreatDoorM13
import Derived.Test.YtikiipfbkfgmbaaGreatDoorM14
import Derived.Test.YtikiipfbkfgmbaaGreatDoorM12
set_option linter.all false
namespace Go.Proofs.YtikiipfbkfgmbaaGreatDoor
open Go.Am
theorem trigger_compiles:Rows.TriggerCompilesCardSaid:=Ev fun p=>c6 lS p
#print axioms trigger_compiles
end Go.Proofs.YtikiipfbkfgmbaaGreatDoor
