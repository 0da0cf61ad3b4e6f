/- A part of the proof. -/
import Derived.Test.YtkmaeondbkpajaaGreatDoorE03
set_option linter.all false
set_option maxHeartbeats 8000000
set_option maxRecDepth 100000
namespace Go.Am
open Go
variable [Z8]
def aw0:X7 U (exec U 100000) 37 [(.agg [(.str [114,105,115,101]),(iI 0),(iI 0),(iI 0),(iI 0),(.str []),.ZQ])] true=some (.agg [(iI 1),(.fz [(.agg [(.str [114,105,115,101]),(iI 0),(iI 0),(iI 0),(iI 0),(.str []),.ZQ,(iI 1),(iI 0)])])]):=by kernel_rfl
def aw1:X7 U (exec U 100000) 37 [(.agg [(.str [104,105,103,104]),(iI 0),(iI 0),(iI 0),(iI 0),(.str []),.ZQ])] true=some (.agg [(iI 1),(.fz [(.agg [(.str [104,105,103,104]),(iI 0),(iI 0),(iI 0),(iI 0),(.str []),.ZQ,(iI 1),(iI 0)])])]):=by kernel_rfl
def aw2:X7 U (exec U 100000) 18 [(.agg [(iI 1),(.fz [(.agg [(.str [114,105,115,101]),(iI 0),(iI 0),(iI 0),(iI 0),(.str []),.ZQ,(iI 1),(iI 0)])])]),(.fz [(iI 0),(iI 1),(iI 1),(iI 0),(iI 1)])] false=some (.XQ [(.fz [(iI 1),(iI 4)]),(iI 0)]):=by kernel_rfl
def aw5:X7 U (exec U 100000) 38 [(.agg [(iI 1),(.fz [(.agg [(.str [114,105,115,101]),(iI 0),(iI 0),(iI 0),(iI 0),(.str []),.ZQ,(iI 1),(iI 0)])])])] true=some (.XQ [(iI 3),(iI 0)]):=by kernel_rfl
def aw6:X7 U (exec U 100000) 32 [(.fz [(iI 1),(iI 4)]),(.fz [(iI 1),(iI 4)])] false=some bT:=by kernel_rfl
def aw7:X7 U (exec U 100000) 29 [(.agg [(iI 1),(.fz [(.fz [(iI 1),(iI 0)]),(.fz [(iI 1),(iI 0)])]),(.fz [(.fz [bF,bF]),(.fz [bF,bT])])]),(.agg [(iI 1),(.fz [(.fz [(iI 1),(iI 0)]),(.fz [(iI 1),(iI 0)])]),(.fz [(.fz [bF,bF]),(.fz [bF,bT])])])] false=some bT:=by kernel_rfl
def aw8:X7 U (exec U 100000) 39 [(iI 1),(.agg [(.str [112,117,108,115,101]),(iI 0),(iI 0),(iI 2),(iI 2),(.str []),.ZQ]),(.fz [(iI 0),(iI 1),(iI 1),(iI 0),(iI 1),(iI 0)])] false=some (.XQ [(.fz [bF,bF,bF,bT,bF,bF]),(iI 0)]):=by kernel_rfl
def aw9:X7 U (exec U 100000) 39 [(iI 2),(.agg [(.str [114,117,110,116]),(iI 0),(iI 1),(iI 0),(iI 0),(.str []),.ZQ]),(.fz [(iI 0),(iI 1),(iI 1),(iI 0)])] false=some (.XQ [(.fz [bF,bF,bF,bT]),(iI 0)]):=by kernel_rfl
end Go.Am
