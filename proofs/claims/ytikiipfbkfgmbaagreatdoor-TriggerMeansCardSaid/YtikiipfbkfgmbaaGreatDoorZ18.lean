/- A part of the proof of a statement of this seat: the machine on which the program is read, and what it computes; for every input. -/
import Derived.Test.YtikiipfbkfgmbaaGreatDoorZ03
set_option linter.all false
namespace Go.Am
open Go
variable [Z4]
set_option maxRecDepth 100000
theorem aw0:Yg U (exec U 100000) 76 [(.agg [(.str [114,105,115,101]),(iI 0),(iI 0),(iI 0),(iI 0),(.str []),.ZW])] true=some (.agg [(iI 1),(.fz [(.agg [(.str [114,105,115,101]),(iI 0),(iI 0),(iI 0),(iI 0),(.str []),.ZW,(iI 1),(iI 0)])])]):=by kernel_rfl
theorem aw1:Yg U (exec U 100000) 76 [(.agg [(.str [104,105,103,104]),(iI 0),(iI 0),(iI 0),(iI 0),(.str []),.ZW])] true=some (.agg [(iI 1),(.fz [(.agg [(.str [104,105,103,104]),(iI 0),(iI 0),(iI 0),(iI 0),(.str []),.ZW,(iI 1),(iI 0)])])]):=by kernel_rfl
theorem aw2:Yg U (exec U 100000) 32 [(.agg [(iI 1),(.fz [(.agg [(.str [114,105,115,101]),(iI 0),(iI 0),(iI 0),(iI 0),(.str []),.ZW,(iI 1),(iI 0)])])]),(.fz [(iI 0),(iI 1),(iI 1),(iI 0),(iI 1)])] false=some (.XU [(.fz [(iI 1),(iI 4)]),(iI 0)]):=by kernel_rfl
theorem aw5:Yg U (exec U 100000) 65 [(.agg [(iI 1),(.fz [(.agg [(.str [114,105,115,101]),(iI 0),(iI 0),(iI 0),(iI 0),(.str []),.ZW,(iI 1),(iI 0)])])])] true=some (.XU [(iI 3),(iI 0)]):=by kernel_rfl
theorem aw6:Yg U (exec U 100000) 56 [(.fz [(iI 1),(iI 4)]),(.fz [(iI 1),(iI 4)])] false=some bT:=by kernel_rfl
theorem aw7:Yg U (exec U 100000) 60 [(.agg [(iI 1),(.fz [(.fz [(iI 1),(iI 0)]),(.fz [(iI 1),(iI 0)])]),(.fz [(.fz [bF,bF]),(.fz [bF,bT])])]),(.agg [(iI 1),(.fz [(.fz [(iI 1),(iI 0)]),(.fz [(iI 1),(iI 0)])]),(.fz [(.fz [bF,bF]),(.fz [bF,bT])])])] false=some bT:=by kernel_rfl
theorem aw8:Yg U (exec U 100000) 23 [(iI 1),(.agg [(.str [112,117,108,115,101]),(iI 0),(iI 0),(iI 2),(iI 2),(.str []),.ZW]),(.fz [(iI 0),(iI 1),(iI 1),(iI 0),(iI 1),(iI 0)])] false=some (.XU [(.fz [bF,bF,bF,bT,bF,bF]),(iI 0)]):=by kernel_rfl
theorem aw9:Yg U (exec U 100000) 23 [(iI 2),(.agg [(.str [114,117,110,116]),(iI 0),(iI 1),(iI 0),(iI 0),(.str []),.ZW]),(.fz [(iI 0),(iI 1),(iI 1),(iI 0)])] false=some (.XU [(.fz [bF,bF,bF,bT]),(iI 0)]):=by kernel_rfl
end Go.Am
