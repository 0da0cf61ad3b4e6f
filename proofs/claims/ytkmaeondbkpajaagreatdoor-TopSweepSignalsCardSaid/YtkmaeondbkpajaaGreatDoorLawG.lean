/- The statement that this file ends with holds for every input, with no condition beyond its own. -/
import Derived.Test.YtkmaeondbkpajaaGreatDoorG34
import Derived.Test.YtkmaeondbkpajaaGreatDoorG36
set_option linter.all false
namespace Go.Proofs.YtkmaeondbkpajaaGreatDoor
open Go.Am
theorem top_sweep_signals:Rows.TopSweepSignalsCardSaid:=Dj fun p b hb=>acY p b hb
#print axioms top_sweep_signals
end Go.Proofs.YtkmaeondbkpajaaGreatDoor
