/- A part of the proof of a statement of this seat: the machine on which the program is read, and what it computes; for every input. -/
import Derived.Test.YtkmaeondbkpajaaGreatDoorN03
set_option linter.all false
namespace Go.Am
open Go
variable [Z3]
set_option maxRecDepth 100000
theorem acg:YV U (exec U 100000) 9 [(.str [108,105,110,101,115,32,50,59,32,114,105,115,101,32,48,59,32,114,105,115,101,32,49,32,119,105,116,104,105,110,32,50,59])] true=some (.X' [(.agg [(iI 2),(.fz [(.agg [(.str [114,105,115,101]),(iI 0),(iI 0),(iI 0),(iI 0),(.str []),.ZR,(iI 1),(iI 0)]),(.agg [(.str [114,105,115,101]),(iI 1),(iI 0),(iI 0),(iI 0),(.str []),.ZR,(iI 1),(iI 2)])])]),(iI 0),(iI 0)]):=by kernel_rfl
theorem ach:YV U (exec U 100000) 18 [(.agg [(iI 2),(.fz [(.agg [(.str [114,105,115,101]),(iI 0),(iI 0),(iI 0),(iI 0),(.str []),.ZR,(iI 1),(iI 0)]),(.agg [(.str [114,105,115,101]),(iI 1),(iI 0),(iI 0),(iI 0),(.str []),.ZR,(iI 1),(iI 2)])])]),(.fz [(iI 0),(iI 1),(iI 1),(iI 3)])] false=some (.X' [(.fz [(iI 3)]),(iI 0)]):=by kernel_rfl
theorem aci:YV U (exec U 100000) 18 [(.agg [(iI 2),(.fz [(.agg [(.str [114,105,115,101]),(iI 0),(iI 0),(iI 0),(iI 0),(.str []),.ZR,(iI 1),(iI 0)]),(.agg [(.str [114,105,115,101]),(iI 1),(iI 0),(iI 0),(iI 0),(.str []),.ZR,(iI 1),(iI 2)])])]),(.fz [(iI 0),(iI 1),(iI 1),(iI 1),(iI 3)])] false=some (.X' [.ZR,(iI 0)]):=by kernel_rfl
theorem acj:YV U (exec U 100000) 27 [(.agg [(iI 1),(.fz [(.fz [(iI 1),(iI 0)]),(.fz [(iI 1),(iI 0)])]),(.fz [(.fz [bF,bF]),(.fz [bF,bT])])]),(.agg [(iI 1),(.fz [(.fz [(iI 0),(iI 0)])]),(.fz [(.fz [bF,bT])])])] true=some (.X' [(.fz [(iI 1)]),(iI 0)]):=by kernel_rfl
theorem ack:YV U (exec U 100000) 40 [(.agg [(iI 1),(.fz [(.fz [(iI 1),(iI 0)]),(.fz [(iI 1),(iI 0)])]),(.fz [(.fz [bF,bF]),(.fz [bF,bT])])])] true=some (.X' [(.fz [(iI 0),(iI 1)]),(iI 0)]):=by kernel_rfl
theorem acm:YV U (exec U 100000) 41 [(.agg [(iI 1),(.fz [(.fz [(iI 1),(iI 0)]),(.fz [(iI 1),(iI 0)])]),(.fz [(.fz [bF,bF]),(.fz [bF,bT])])])] true=some (.X' [(iI 2),(iI 0)]):=by kernel_rfl
end Go.Am
