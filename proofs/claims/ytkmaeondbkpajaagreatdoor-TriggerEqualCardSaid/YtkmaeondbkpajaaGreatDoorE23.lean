/- A part of the proof. -/
import Derived.Test.YtkmaeondbkpajaaGreatDoorE03
set_option linter.all false
set_option maxHeartbeats 8000000
set_option maxRecDepth 100000
namespace Go.Am
open Go
variable [Z8]
def aw3:X7 U (exec U 100000) 16 [(.agg [(iI 1),(.fz [(.agg [(.str [114,105,115,101]),(iI 0),(iI 0),(iI 0),(iI 0),(.str []),.ZQ,(iI 1),(iI 0)])])])] true=some (.XQ [(.agg [(iI 1),(.fz [(.fz [(iI 1),(iI 0)]),(.fz [(iI 1),(iI 0)])]),(.fz [(.fz [bF,bF]),(.fz [bF,bT])])]),(iI 0)]):=by kernel_rfl
def aw4:X7 U (exec U 100000) 16 [(.agg [(iI 1),(.fz [(.agg [(.str [104,105,103,104]),(iI 0),(iI 0),(iI 0),(iI 0),(.str []),.ZQ,(iI 1),(iI 0)])])])] true=some (.XQ [(.agg [(iI 1),(.fz [(.fz [(iI 0),(iI 0)])]),(.fz [(.fz [bF,bT])])]),(iI 0)]):=by kernel_rfl
end Go.Am
