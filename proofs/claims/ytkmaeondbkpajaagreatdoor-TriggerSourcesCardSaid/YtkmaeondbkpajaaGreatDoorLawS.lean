/- The statement that this file ends with holds for every input, with no condition beyond its own. -/
import Derived.Test.YtkmaeondbkpajaaGreatDoorS20
import Derived.Test.YtkmaeondbkpajaaGreatDoorS24
set_option linter.all false
set_option linter.all false
namespace Go.Proofs.YtkmaeondbkpajaaGreatDoor
open Go.Am
/-- TriggerSources returns true for every string, and it reads as it did. -/
theorem trigger_sources : Rows.TriggerSourcesCardSaid := sources_card fun S => c1003 S
#print axioms trigger_sources
end Go.Proofs.YtkmaeondbkpajaaGreatDoor
