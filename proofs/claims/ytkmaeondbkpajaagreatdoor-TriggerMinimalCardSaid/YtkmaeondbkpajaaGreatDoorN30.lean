/- A part of the proof of a statement of this seat: the machine on which the program is read, and what it computes; for every input. -/
import Derived.Test.YtkmaeondbkpajaaGreatDoorN03
set_option linter.all false
namespace Go.Am
open Go
variable [Z3]
set_option maxRecDepth 100000
theorem aw3:YV U (exec U 100000) 16 [(.agg [(iI 1),(.fz [(.agg [(.str [114,105,115,101]),(iI 0),(iI 0),(iI 0),(iI 0),(.str []),.ZR,(iI 1),(iI 0)])])])] true=some (.X' [(.agg [(iI 1),(.fz [(.fz [(iI 1),(iI 0)]),(.fz [(iI 1),(iI 0)])]),(.fz [(.fz [bF,bF]),(.fz [bF,bT])])]),(iI 0)]):=by kernel_rfl
theorem aw4:YV U (exec U 100000) 16 [(.agg [(iI 1),(.fz [(.agg [(.str [104,105,103,104]),(iI 0),(iI 0),(iI 0),(iI 0),(.str []),.ZR,(iI 1),(iI 0)])])])] true=some (.X' [(.agg [(iI 1),(.fz [(.fz [(iI 0),(iI 0)])]),(.fz [(.fz [bF,bT])])]),(iI 0)]):=by kernel_rfl
end Go.Am
