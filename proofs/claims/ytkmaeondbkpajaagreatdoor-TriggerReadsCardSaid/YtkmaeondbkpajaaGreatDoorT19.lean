/- A part of the proof of a statement of this seat: the machine on which the program is read, and what it computes; for every input. -/
import Derived.Test.YtkmaeondbkpajaaGreatDoorT04
set_option linter.all false
set_option linter.all false
namespace Go.Am
open Go
variable [MaxLen]
set_option maxRecDepth 100000
/-- strobe/trigger.Compile -/
theorem aw3 : callQ U (exec U 100000) 16 [(.agg [(.int .i64 1), (.fz [(.agg [(.str [114, 105, 115, 101]), (.int .i64 0), (.int .i64 0), (.int .i64 0), (.int .i64 0), (.str []), .nils, (.int .i64 1), (.int .i64 0)])])])] true = some (.tup [(.agg [(.int .i64 1), (.fz [(.fz [(.int .i64 1), (.int .i64 0)]), (.fz [(.int .i64 1), (.int .i64 0)])]), (.fz [(.fz [(.bool false), (.bool false)]), (.fz [(.bool false), (.bool true)])])]), (.int .i64 0)]) := by kernel_rfl
/-- strobe/trigger.Compile -/
theorem aw4 : callQ U (exec U 100000) 16 [(.agg [(.int .i64 1), (.fz [(.agg [(.str [104, 105, 103, 104]), (.int .i64 0), (.int .i64 0), (.int .i64 0), (.int .i64 0), (.str []), .nils, (.int .i64 1), (.int .i64 0)])])])] true = some (.tup [(.agg [(.int .i64 1), (.fz [(.fz [(.int .i64 0), (.int .i64 0)])]), (.fz [(.fz [(.bool false), (.bool true)])])]), (.int .i64 0)]) := by kernel_rfl
end Go.Am
