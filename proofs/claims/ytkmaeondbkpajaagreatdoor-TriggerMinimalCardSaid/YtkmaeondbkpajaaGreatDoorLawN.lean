/- The statement that this file ends with holds for every input, with no condition beyond its own. -/
import Derived.Test.YtkmaeondbkpajaaGreatDoorN32
import Derived.Test.YtkmaeondbkpajaaGreatDoorN38
set_option linter.all false
namespace Go.Proofs.YtkmaeondbkpajaaGreatDoor
open Go.Am
theorem trigger_minimal:Rows.TriggerMinimalCardSaid:=Hh fun p=>aE p
#print axioms trigger_minimal
end Go.Proofs.YtkmaeondbkpajaaGreatDoor
