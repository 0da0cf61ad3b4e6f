/- A part of the proof of a statement of this seat: the machine on which the program is read, and what it computes; for every input. -/
import Derived.Test.YtkmaeondbkpajaaGreatDoorT04
set_option linter.all false
set_option linter.all false
namespace Go.Am
open Go
variable [MaxLen]
set_option maxRecDepth 100000
/-- strobe/trigger.Parse -/
theorem aw10 : callQ U (exec U 100000) 9 [(.str [108, 105, 110, 101, 115, 32, 50, 59, 32, 114, 105, 115, 101, 32, 48, 59, 32, 114, 105, 115, 101, 32, 49, 32, 119, 105, 116, 104, 105, 110, 32, 50, 59])] true = some (.tup [(.agg [(.int .i64 2), (.fz [(.agg [(.str [114, 105, 115, 101]), (.int .i64 0), (.int .i64 0), (.int .i64 0), (.int .i64 0), (.str []), .nils, (.int .i64 1), (.int .i64 0)]), (.agg [(.str [114, 105, 115, 101]), (.int .i64 1), (.int .i64 0), (.int .i64 0), (.int .i64 0), (.str []), .nils, (.int .i64 1), (.int .i64 2)])])]), (.int .i64 0), (.int .i64 0)]) := by kernel_rfl
/-- strobe/trigger.Triggers -/
theorem aw11 : callQ U (exec U 100000) 18 [(.agg [(.int .i64 2), (.fz [(.agg [(.str [114, 105, 115, 101]), (.int .i64 0), (.int .i64 0), (.int .i64 0), (.int .i64 0), (.str []), .nils, (.int .i64 1), (.int .i64 0)]), (.agg [(.str [114, 105, 115, 101]), (.int .i64 1), (.int .i64 0), (.int .i64 0), (.int .i64 0), (.str []), .nils, (.int .i64 1), (.int .i64 2)])])]), (.fz [(.int .i64 0), (.int .i64 1), (.int .i64 1), (.int .i64 3)])] false = some (.tup [(.fz [(.int .i64 3)]), (.int .i64 0)]) := by kernel_rfl
/-- strobe/trigger.Triggers -/
theorem aw12 : callQ U (exec U 100000) 18 [(.agg [(.int .i64 2), (.fz [(.agg [(.str [114, 105, 115, 101]), (.int .i64 0), (.int .i64 0), (.int .i64 0), (.int .i64 0), (.str []), .nils, (.int .i64 1), (.int .i64 0)]), (.agg [(.str [114, 105, 115, 101]), (.int .i64 1), (.int .i64 0), (.int .i64 0), (.int .i64 0), (.str []), .nils, (.int .i64 1), (.int .i64 2)])])]), (.fz [(.int .i64 0), (.int .i64 1), (.int .i64 1), (.int .i64 1), (.int .i64 3)])] false = some (.tup [.nils, (.int .i64 0)]) := by kernel_rfl
/-- strobe/trigger.Distinguish -/
theorem aw13 : callQ U (exec U 100000) 27 [(.agg [(.int .i64 1), (.fz [(.fz [(.int .i64 1), (.int .i64 0)]), (.fz [(.int .i64 1), (.int .i64 0)])]), (.fz [(.fz [(.bool false), (.bool false)]), (.fz [(.bool false), (.bool true)])])]), (.agg [(.int .i64 1), (.fz [(.fz [(.int .i64 0), (.int .i64 0)])]), (.fz [(.fz [(.bool false), (.bool true)])])])] true = some (.tup [(.fz [(.int .i64 1)]), (.int .i64 0)]) := by kernel_rfl
/-- strobe/trigger.Shortest -/
theorem aw14 : callQ U (exec U 100000) 40 [(.agg [(.int .i64 1), (.fz [(.fz [(.int .i64 1), (.int .i64 0)]), (.fz [(.int .i64 1), (.int .i64 0)])]), (.fz [(.fz [(.bool false), (.bool false)]), (.fz [(.bool false), (.bool true)])])])] true = some (.tup [(.fz [(.int .i64 0), (.int .i64 1)]), (.int .i64 0)]) := by kernel_rfl
/-- strobe/trigger.Spacing -/
theorem aw15 : callQ U (exec U 100000) 41 [(.agg [(.int .i64 1), (.fz [(.fz [(.int .i64 1), (.int .i64 0)]), (.fz [(.int .i64 1), (.int .i64 0)])]), (.fz [(.fz [(.bool false), (.bool false)]), (.fz [(.bool false), (.bool true)])])])] true = some (.tup [(.int .i64 2), (.int .i64 0)]) := by kernel_rfl
end Go.Am
