/- A part of the proof. -/
import Derived.Test.YtkmaeondbkpajaaGreatDoorE03
set_option linter.all false
set_option maxHeartbeats 8000000
set_option maxRecDepth 100000
namespace Go.Am
open Go
variable [Z8]
def amk:X7 U (exec U 100000) 9 [(.str [108,105,110,101,115,32,50,59,32,114,105,115,101,32,48,59,32,114,105,115,101,32,49,32,119,105,116,104,105,110,32,50,59])] true=some (.XQ [(.agg [(iI 2),(.fz [(.agg [(.str [114,105,115,101]),(iI 0),(iI 0),(iI 0),(iI 0),(.str []),.ZQ,(iI 1),(iI 0)]),(.agg [(.str [114,105,115,101]),(iI 1),(iI 0),(iI 0),(iI 0),(.str []),.ZQ,(iI 1),(iI 2)])])]),(iI 0),(iI 0)]):=by kernel_rfl
def aml:X7 U (exec U 100000) 18 [(.agg [(iI 2),(.fz [(.agg [(.str [114,105,115,101]),(iI 0),(iI 0),(iI 0),(iI 0),(.str []),.ZQ,(iI 1),(iI 0)]),(.agg [(.str [114,105,115,101]),(iI 1),(iI 0),(iI 0),(iI 0),(.str []),.ZQ,(iI 1),(iI 2)])])]),(.fz [(iI 0),(iI 1),(iI 1),(iI 3)])] false=some (.XQ [(.fz [(iI 3)]),(iI 0)]):=by kernel_rfl
def amm:X7 U (exec U 100000) 18 [(.agg [(iI 2),(.fz [(.agg [(.str [114,105,115,101]),(iI 0),(iI 0),(iI 0),(iI 0),(.str []),.ZQ,(iI 1),(iI 0)]),(.agg [(.str [114,105,115,101]),(iI 1),(iI 0),(iI 0),(iI 0),(.str []),.ZQ,(iI 1),(iI 2)])])]),(.fz [(iI 0),(iI 1),(iI 1),(iI 1),(iI 3)])] false=some (.XQ [.ZQ,(iI 0)]):=by kernel_rfl
def amn:X7 U (exec U 100000) 27 [(.agg [(iI 1),(.fz [(.fz [(iI 1),(iI 0)]),(.fz [(iI 1),(iI 0)])]),(.fz [(.fz [bF,bF]),(.fz [bF,bT])])]),(.agg [(iI 1),(.fz [(.fz [(iI 0),(iI 0)])]),(.fz [(.fz [bF,bT])])])] true=some (.XQ [(.fz [(iI 1)]),(iI 0)]):=by kernel_rfl
def amo:X7 U (exec U 100000) 40 [(.agg [(iI 1),(.fz [(.fz [(iI 1),(iI 0)]),(.fz [(iI 1),(iI 0)])]),(.fz [(.fz [bF,bF]),(.fz [bF,bT])])])] true=some (.XQ [(.fz [(iI 0),(iI 1)]),(iI 0)]):=by kernel_rfl
def amp:X7 U (exec U 100000) 41 [(.agg [(iI 1),(.fz [(.fz [(iI 1),(iI 0)]),(.fz [(iI 1),(iI 0)])]),(.fz [(.fz [bF,bF]),(.fz [bF,bT])])])] true=some (.XQ [(iI 2),(iI 0)]):=by kernel_rfl
end Go.Am
