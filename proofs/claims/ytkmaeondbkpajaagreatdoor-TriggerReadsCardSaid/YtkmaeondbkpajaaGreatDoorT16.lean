/- A part of the proof of a statement of this seat: the machine on which the program is read, and what it computes; for every input. -/
import Derived.Test.YtkmaeondbkpajaaGreatDoorT04
set_option linter.all false
set_option linter.all false
namespace Go.Am
open Go
variable [MaxLen]
set_option maxRecDepth 100000
/-- strobe/strobelaw04.one -/
theorem aw0 : callQ U (exec U 100000) 37 [(.agg [(.str [114, 105, 115, 101]), (.int .i64 0), (.int .i64 0), (.int .i64 0), (.int .i64 0), (.str []), .nils])] true = some (.agg [(.int .i64 1), (.fz [(.agg [(.str [114, 105, 115, 101]), (.int .i64 0), (.int .i64 0), (.int .i64 0), (.int .i64 0), (.str []), .nils, (.int .i64 1), (.int .i64 0)])])]) := by kernel_rfl
/-- strobe/strobelaw04.one -/
theorem aw1 : callQ U (exec U 100000) 37 [(.agg [(.str [104, 105, 103, 104]), (.int .i64 0), (.int .i64 0), (.int .i64 0), (.int .i64 0), (.str []), .nils])] true = some (.agg [(.int .i64 1), (.fz [(.agg [(.str [104, 105, 103, 104]), (.int .i64 0), (.int .i64 0), (.int .i64 0), (.int .i64 0), (.str []), .nils, (.int .i64 1), (.int .i64 0)])])]) := by kernel_rfl
/-- strobe/trigger.Triggers -/
theorem aw2 : callQ U (exec U 100000) 18 [(.agg [(.int .i64 1), (.fz [(.agg [(.str [114, 105, 115, 101]), (.int .i64 0), (.int .i64 0), (.int .i64 0), (.int .i64 0), (.str []), .nils, (.int .i64 1), (.int .i64 0)])])]), (.fz [(.int .i64 0), (.int .i64 1), (.int .i64 1), (.int .i64 0), (.int .i64 1)])] false = some (.tup [(.fz [(.int .i64 1), (.int .i64 4)]), (.int .i64 0)]) := by kernel_rfl
/-- strobe/trigger.Size -/
theorem aw5 : callQ U (exec U 100000) 38 [(.agg [(.int .i64 1), (.fz [(.agg [(.str [114, 105, 115, 101]), (.int .i64 0), (.int .i64 0), (.int .i64 0), (.int .i64 0), (.str []), .nils, (.int .i64 1), (.int .i64 0)])])])] true = some (.tup [(.int .i64 3), (.int .i64 0)]) := by kernel_rfl
/-- strobe/stroberef04.SameTimes -/
theorem aw6 : callQ U (exec U 100000) 32 [(.fz [(.int .i64 1), (.int .i64 4)]), (.fz [(.int .i64 1), (.int .i64 4)])] false = some (.bool true) := by kernel_rfl
/-- strobe/stroberef04.SameAutomata -/
theorem aw7 : callQ U (exec U 100000) 29 [(.agg [(.int .i64 1), (.fz [(.fz [(.int .i64 1), (.int .i64 0)]), (.fz [(.int .i64 1), (.int .i64 0)])]), (.fz [(.fz [(.bool false), (.bool false)]), (.fz [(.bool false), (.bool true)])])]), (.agg [(.int .i64 1), (.fz [(.fz [(.int .i64 1), (.int .i64 0)]), (.fz [(.int .i64 1), (.int .i64 0)])]), (.fz [(.fz [(.bool false), (.bool false)]), (.fz [(.bool false), (.bool true)])])])] false = some (.bool true) := by kernel_rfl
/-- strobe/trigger.Holds -/
theorem aw8 : callQ U (exec U 100000) 39 [(.int .i64 1), (.agg [(.str [112, 117, 108, 115, 101]), (.int .i64 0), (.int .i64 0), (.int .i64 2), (.int .i64 2), (.str []), .nils]), (.fz [(.int .i64 0), (.int .i64 1), (.int .i64 1), (.int .i64 0), (.int .i64 1), (.int .i64 0)])] false = some (.tup [(.fz [(.bool false), (.bool false), (.bool false), (.bool true), (.bool false), (.bool false)]), (.int .i64 0)]) := by kernel_rfl
/-- strobe/trigger.Holds -/
theorem aw9 : callQ U (exec U 100000) 39 [(.int .i64 2), (.agg [(.str [114, 117, 110, 116]), (.int .i64 0), (.int .i64 1), (.int .i64 0), (.int .i64 0), (.str []), .nils]), (.fz [(.int .i64 0), (.int .i64 1), (.int .i64 1), (.int .i64 0)])] false = some (.tup [(.fz [(.bool false), (.bool false), (.bool false), (.bool true)]), (.int .i64 0)]) := by kernel_rfl
end Go.Am
