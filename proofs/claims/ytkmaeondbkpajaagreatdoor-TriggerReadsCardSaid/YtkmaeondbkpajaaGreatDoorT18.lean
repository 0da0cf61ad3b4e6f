/- A part of the proof of a statement of this seat: the machine on which the program is read, and what it computes; for every input. -/
import Derived.Test.YtkmaeondbkpajaaGreatDoorT04
set_option linter.all false
set_option linter.all false
namespace Go.Am
open Go
variable [MaxLen]
set_option maxRecDepth 100000
/-- strobe/trigger.Both -/
theorem aw16 : callQ U (exec U 100000) 42 [(.agg [(.int .i64 1), (.fz [(.fz [(.int .i64 1), (.int .i64 0)]), (.fz [(.int .i64 1), (.int .i64 0)])]), (.fz [(.fz [(.bool false), (.bool false)]), (.fz [(.bool false), (.bool true)])])]), (.agg [(.int .i64 1), (.fz [(.fz [(.int .i64 0), (.int .i64 0)])]), (.fz [(.fz [(.bool false), (.bool true)])])])] true = some (.tup [(.agg [(.int .i64 1), (.fz [(.fz [(.int .i64 1), (.int .i64 0)]), (.fz [(.int .i64 1), (.int .i64 0)])]), (.fz [(.fz [(.bool false), (.bool false)]), (.fz [(.bool false), (.bool true)])])]), (.int .i64 0)]) := by kernel_rfl
/-- strobe/trigger.Either -/
theorem aw17 : callQ U (exec U 100000) 43 [(.agg [(.int .i64 1), (.fz [(.fz [(.int .i64 1), (.int .i64 0)]), (.fz [(.int .i64 1), (.int .i64 0)])]), (.fz [(.fz [(.bool false), (.bool false)]), (.fz [(.bool false), (.bool true)])])]), (.agg [(.int .i64 1), (.fz [(.fz [(.int .i64 0), (.int .i64 0)])]), (.fz [(.fz [(.bool false), (.bool true)])])])] true = some (.tup [(.agg [(.int .i64 1), (.fz [(.fz [(.int .i64 0), (.int .i64 0)])]), (.fz [(.fz [(.bool false), (.bool true)])])]), (.int .i64 0)]) := by kernel_rfl
/-- strobe/trigger.Parse -/
theorem aw18 : callQ U (exec U 100000) 9 [(.str [108, 105, 110, 101, 115, 32, 49, 59, 32, 114, 105, 122, 101, 32, 48, 59])] true = some (.tup [(.agg [(.int .i64 0), .nils]), (.int .i64 9), (.int .i64 25)]) := by kernel_rfl
/-- strobe/strobelaw04.sameFlags -/
theorem aw19 : callQ U (exec U 100000) 44 [(.fz [(.bool false), (.bool false), (.bool false), (.bool true), (.bool false), (.bool false)]), (.fz [(.bool false), (.bool false), (.bool false), (.bool true), (.bool false), (.bool false)])] false = some (.bool true) := by kernel_rfl
/-- strobe/strobelaw04.sameFlags -/
theorem aw20 : callQ U (exec U 100000) 44 [(.fz [(.bool false), (.bool false), (.bool false), (.bool true)]), (.fz [(.bool false), (.bool false), (.bool false), (.bool true)])] false = some (.bool true) := by kernel_rfl
/-- strobe/stroberef04.SameTimes -/
theorem aw21 : callQ U (exec U 100000) 32 [(.fz [(.int .i64 3)]), (.fz [(.int .i64 3)])] false = some (.bool true) := by kernel_rfl
/-- strobe/stroberef04.SameTimes -/
theorem aw22 : callQ U (exec U 100000) 32 [(.fz [(.int .i64 1)]), (.fz [(.int .i64 1)])] false = some (.bool true) := by kernel_rfl
/-- strobe/stroberef04.SameTimes -/
theorem aw23 : callQ U (exec U 100000) 32 [(.fz [(.int .i64 0), (.int .i64 1)]), (.fz [(.int .i64 0), (.int .i64 1)])] false = some (.bool true) := by kernel_rfl
/-- strobe/stroberef04.SameAutomata -/
theorem aw24 : callQ U (exec U 100000) 29 [(.agg [(.int .i64 1), (.fz [(.fz [(.int .i64 0), (.int .i64 0)])]), (.fz [(.fz [(.bool false), (.bool true)])])]), (.agg [(.int .i64 1), (.fz [(.fz [(.int .i64 0), (.int .i64 0)])]), (.fz [(.fz [(.bool false), (.bool true)])])])] true = some (.bool true) := by kernel_rfl
end Go.Am
