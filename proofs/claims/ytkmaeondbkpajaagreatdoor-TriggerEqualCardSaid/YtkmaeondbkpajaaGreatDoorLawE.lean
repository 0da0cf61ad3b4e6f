/- The statement that this file ends with holds for every input, with no condition beyond its own. -/
import Derived.Test.YtkmaeondbkpajaaGreatDoorE35
import Derived.Test.YtkmaeondbkpajaaGreatDoorE40
set_option linter.all false
namespace Go.Proofs.YtkmaeondbkpajaaGreatDoor
open Go.Am
theorem trigger_equal:Rows.TriggerEqualCardSaid:=r9 λp o=>ajU p o
#print axioms trigger_equal
end Go.Proofs.YtkmaeondbkpajaaGreatDoor
