/- The statement that this file ends with holds for every input, with no condition beyond its own. -/
import Derived.Test.YtkmaeondbkpajaaGreatDoorT21
import Derived.Test.YtkmaeondbkpajaaGreatDoorT25
set_option linter.all false
set_option linter.all false
namespace Go.Proofs.YtkmaeondbkpajaaGreatDoor
open Go.Am
/-- TriggerReads returns true for every program and every string, and they read as they did. -/
theorem trigger_reads : Rows.TriggerReadsCardSaid := reads_card fun p S => c1005 p S
#print axioms trigger_reads
end Go.Proofs.YtkmaeondbkpajaaGreatDoor
