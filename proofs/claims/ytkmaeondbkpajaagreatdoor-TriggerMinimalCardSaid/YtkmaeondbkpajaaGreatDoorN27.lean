/- A part of the proof of a statement of this seat: the machine on which the program is read, and what it computes; for every input. -/
import Derived.Test.YtkmaeondbkpajaaGreatDoorN03
set_option linter.all false
namespace Go.Am
open Go
variable [Z3]
set_option maxRecDepth 100000
theorem aw0:YV U (exec U 100000) 37 [(.agg [(.str [114,105,115,101]),(iI 0),(iI 0),(iI 0),(iI 0),(.str []),.ZR])] true=some (.agg [(iI 1),(.fz [(.agg [(.str [114,105,115,101]),(iI 0),(iI 0),(iI 0),(iI 0),(.str []),.ZR,(iI 1),(iI 0)])])]):=by kernel_rfl
theorem aw1:YV U (exec U 100000) 37 [(.agg [(.str [104,105,103,104]),(iI 0),(iI 0),(iI 0),(iI 0),(.str []),.ZR])] true=some (.agg [(iI 1),(.fz [(.agg [(.str [104,105,103,104]),(iI 0),(iI 0),(iI 0),(iI 0),(.str []),.ZR,(iI 1),(iI 0)])])]):=by kernel_rfl
theorem aw2:YV U (exec U 100000) 18 [(.agg [(iI 1),(.fz [(.agg [(.str [114,105,115,101]),(iI 0),(iI 0),(iI 0),(iI 0),(.str []),.ZR,(iI 1),(iI 0)])])]),(.fz [(iI 0),(iI 1),(iI 1),(iI 0),(iI 1)])] false=some (.X' [(.fz [(iI 1),(iI 4)]),(iI 0)]):=by kernel_rfl
theorem aw5:YV U (exec U 100000) 38 [(.agg [(iI 1),(.fz [(.agg [(.str [114,105,115,101]),(iI 0),(iI 0),(iI 0),(iI 0),(.str []),.ZR,(iI 1),(iI 0)])])])] true=some (.X' [(iI 3),(iI 0)]):=by kernel_rfl
theorem aw6:YV U (exec U 100000) 32 [(.fz [(iI 1),(iI 4)]),(.fz [(iI 1),(iI 4)])] false=some bT:=by kernel_rfl
theorem aw7:YV U (exec U 100000) 29 [(.agg [(iI 1),(.fz [(.fz [(iI 1),(iI 0)]),(.fz [(iI 1),(iI 0)])]),(.fz [(.fz [bF,bF]),(.fz [bF,bT])])]),(.agg [(iI 1),(.fz [(.fz [(iI 1),(iI 0)]),(.fz [(iI 1),(iI 0)])]),(.fz [(.fz [bF,bF]),(.fz [bF,bT])])])] false=some bT:=by kernel_rfl
theorem aw8:YV U (exec U 100000) 39 [(iI 1),(.agg [(.str [112,117,108,115,101]),(iI 0),(iI 0),(iI 2),(iI 2),(.str []),.ZR]),(.fz [(iI 0),(iI 1),(iI 1),(iI 0),(iI 1),(iI 0)])] false=some (.X' [(.fz [bF,bF,bF,bT,bF,bF]),(iI 0)]):=by kernel_rfl
theorem aw9:YV U (exec U 100000) 39 [(iI 2),(.agg [(.str [114,117,110,116]),(iI 0),(iI 1),(iI 0),(iI 0),(.str []),.ZR]),(.fz [(iI 0),(iI 1),(iI 1),(iI 0)])] false=some (.X' [(.fz [bF,bF,bF,bT]),(iI 0)]):=by kernel_rfl
end Go.Am
