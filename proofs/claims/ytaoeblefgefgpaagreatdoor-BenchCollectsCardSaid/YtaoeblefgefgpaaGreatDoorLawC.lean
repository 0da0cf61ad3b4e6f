/- The statement that this file ends with holds for every input, with no condition beyond its own. -/
import Derived.Test.YtaoeblefgefgpaaGreatDoorC21
import Derived.Test.YtaoeblefgefgpaaGreatDoorC32
set_option linter.all false
set_option linter.all false
namespace Go.Proofs.YtaoeblefgefgpaaGreatDoor
open Go.Am
/-- BenchCollects returns true for every row of shots, and the row reads as it did. -/
theorem bench_collects : Rows.BenchCollectsCardSaid := collects_card fun nl l hl => c3 nl l hl
#print axioms bench_collects
end Go.Proofs.YtaoeblefgefgpaaGreatDoor
