/- A part of the proof of a statement of this seat: the machine on which the program is read, and what it computes; for every input. -/
import Derived.Test.YtikiipfbkfgmbaaGreatDoorZ03
set_option linter.all false
namespace Go.Am
open Go
variable [Z4]
set_option maxRecDepth 100000
theorem ahI:Yg U (exec U 100000) 46 [(.agg [(iI 1),(.fz [(.fz [(iI 1),(iI 0)]),(.fz [(iI 1),(iI 0)])]),(.fz [(.fz [bF,bF]),(.fz [bF,bT])])]),(.agg [(iI 1),(.fz [(.fz [(iI 0),(iI 0)])]),(.fz [(.fz [bF,bT])])])] true=some (.XU [(.agg [(iI 1),(.fz [(.fz [(iI 1),(iI 0)]),(.fz [(iI 1),(iI 0)])]),(.fz [(.fz [bF,bF]),(.fz [bF,bT])])]),(iI 0)]):=by kernel_rfl
theorem ahJ:Yg U (exec U 100000) 45 [(.agg [(iI 1),(.fz [(.fz [(iI 1),(iI 0)]),(.fz [(iI 1),(iI 0)])]),(.fz [(.fz [bF,bF]),(.fz [bF,bT])])]),(.agg [(iI 1),(.fz [(.fz [(iI 0),(iI 0)])]),(.fz [(.fz [bF,bT])])])] true=some (.XU [(.agg [(iI 1),(.fz [(.fz [(iI 0),(iI 0)])]),(.fz [(.fz [bF,bT])])]),(iI 0)]):=by kernel_rfl
theorem ahK:Yg U (exec U 100000) 17 [(.str [108,105,110,101,115,32,49,59,32,114,105,122,101,32,48,59])] true=some (.XU [(.agg [(iI 0),.ZW]),(iI 9),(iI 25)]):=by kernel_rfl
theorem ahL:Yg U (exec U 100000) 29 [(.fz [bF,bF,bF,bT,bF,bF]),(.fz [bF,bF,bF,bT,bF,bF])] false=some bT:=by kernel_rfl
theorem ahM:Yg U (exec U 100000) 29 [(.fz [bF,bF,bF,bT]),(.fz [bF,bF,bF,bT])] false=some bT:=by kernel_rfl
theorem ahN:Yg U (exec U 100000) 56 [(.fz [(iI 3)]),(.fz [(iI 3)])] false=some bT:=by kernel_rfl
theorem ahO:Yg U (exec U 100000) 56 [(.fz [(iI 1)]),(.fz [(iI 1)])] false=some bT:=by kernel_rfl
theorem ahP:Yg U (exec U 100000) 56 [(.fz [(iI 0),(iI 1)]),(.fz [(iI 0),(iI 1)])] false=some bT:=by kernel_rfl
theorem ahQ:Yg U (exec U 100000) 60 [(.agg [(iI 1),(.fz [(.fz [(iI 0),(iI 0)])]),(.fz [(.fz [bF,bT])])]),(.agg [(iI 1),(.fz [(.fz [(iI 0),(iI 0)])]),(.fz [(.fz [bF,bT])])])] true=some bT:=by kernel_rfl
end Go.Am
