/- A part of the proof of a statement of this seat: the machine on which the program is read, and what it computes; for every input. -/
import Derived.Test.YtikiipfbkfgmbaaGreatDoorZ03
set_option linter.all false
namespace Go.Am
open Go
variable [Z4]
set_option maxRecDepth 100000
theorem aiC:Yg U (exec U 100000) 17 [(.str [108,105,110,101,115,32,50,59,32,114,105,115,101,32,48,59,32,114,105,115,101,32,49,32,119,105,116,104,105,110,32,50,59])] true=some (.XU [(.agg [(iI 2),(.fz [(.agg [(.str [114,105,115,101]),(iI 0),(iI 0),(iI 0),(iI 0),(.str []),.ZW,(iI 1),(iI 0)]),(.agg [(.str [114,105,115,101]),(iI 1),(iI 0),(iI 0),(iI 0),(.str []),.ZW,(iI 1),(iI 2)])])]),(iI 0),(iI 0)]):=by kernel_rfl
theorem aiD:Yg U (exec U 100000) 32 [(.agg [(iI 2),(.fz [(.agg [(.str [114,105,115,101]),(iI 0),(iI 0),(iI 0),(iI 0),(.str []),.ZW,(iI 1),(iI 0)]),(.agg [(.str [114,105,115,101]),(iI 1),(iI 0),(iI 0),(iI 0),(.str []),.ZW,(iI 1),(iI 2)])])]),(.fz [(iI 0),(iI 1),(iI 1),(iI 3)])] false=some (.XU [(.fz [(iI 3)]),(iI 0)]):=by kernel_rfl
theorem aiE:Yg U (exec U 100000) 32 [(.agg [(iI 2),(.fz [(.agg [(.str [114,105,115,101]),(iI 0),(iI 0),(iI 0),(iI 0),(.str []),.ZW,(iI 1),(iI 0)]),(.agg [(.str [114,105,115,101]),(iI 1),(iI 0),(iI 0),(iI 0),(.str []),.ZW,(iI 1),(iI 2)])])]),(.fz [(iI 0),(iI 1),(iI 1),(iI 1),(iI 3)])] false=some (.XU [.ZW,(iI 0)]):=by kernel_rfl
theorem aiF:Yg U (exec U 100000) 68 [(.agg [(iI 1),(.fz [(.fz [(iI 1),(iI 0)]),(.fz [(iI 1),(iI 0)])]),(.fz [(.fz [bF,bF]),(.fz [bF,bT])])]),(.agg [(iI 1),(.fz [(.fz [(iI 0),(iI 0)])]),(.fz [(.fz [bF,bT])])])] true=some (.XU [(.fz [(iI 1)]),(iI 0)]):=by kernel_rfl
theorem aiG:Yg U (exec U 100000) 47 [(.agg [(iI 1),(.fz [(.fz [(iI 1),(iI 0)]),(.fz [(iI 1),(iI 0)])]),(.fz [(.fz [bF,bF]),(.fz [bF,bT])])])] true=some (.XU [(.fz [(iI 0),(iI 1)]),(iI 0)]):=by kernel_rfl
theorem aiH:Yg U (exec U 100000) 48 [(.agg [(iI 1),(.fz [(.fz [(iI 1),(iI 0)]),(.fz [(iI 1),(iI 0)])]),(.fz [(.fz [bF,bF]),(.fz [bF,bT])])])] true=some (.XU [(iI 2),(iI 0)]):=by kernel_rfl
end Go.Am
