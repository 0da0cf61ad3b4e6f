/- A part of the proof of a statement of this seat: the machine on which the program is read, and what it computes; for every input. -/
import Derived.Test.YtkmaeondbkpajaaGreatDoorN03
set_option linter.all false
namespace Go.Am
open Go
variable [Z3]
set_option maxRecDepth 100000
theorem abp:YV U (exec U 100000) 42 [(.agg [(iI 1),(.fz [(.fz [(iI 1),(iI 0)]),(.fz [(iI 1),(iI 0)])]),(.fz [(.fz [bF,bF]),(.fz [bF,bT])])]),(.agg [(iI 1),(.fz [(.fz [(iI 0),(iI 0)])]),(.fz [(.fz [bF,bT])])])] true=some (.X' [(.agg [(iI 1),(.fz [(.fz [(iI 1),(iI 0)]),(.fz [(iI 1),(iI 0)])]),(.fz [(.fz [bF,bF]),(.fz [bF,bT])])]),(iI 0)]):=by kernel_rfl
theorem abq:YV U (exec U 100000) 43 [(.agg [(iI 1),(.fz [(.fz [(iI 1),(iI 0)]),(.fz [(iI 1),(iI 0)])]),(.fz [(.fz [bF,bF]),(.fz [bF,bT])])]),(.agg [(iI 1),(.fz [(.fz [(iI 0),(iI 0)])]),(.fz [(.fz [bF,bT])])])] true=some (.X' [(.agg [(iI 1),(.fz [(.fz [(iI 0),(iI 0)])]),(.fz [(.fz [bF,bT])])]),(iI 0)]):=by kernel_rfl
theorem abr:YV U (exec U 100000) 9 [(.str [108,105,110,101,115,32,49,59,32,114,105,122,101,32,48,59])] true=some (.X' [(.agg [(iI 0),.ZR]),(iI 9),(iI 25)]):=by kernel_rfl
theorem abt:YV U (exec U 100000) 44 [(.fz [bF,bF,bF,bT,bF,bF]),(.fz [bF,bF,bF,bT,bF,bF])] false=some bT:=by kernel_rfl
theorem abu:YV U (exec U 100000) 44 [(.fz [bF,bF,bF,bT]),(.fz [bF,bF,bF,bT])] false=some bT:=by kernel_rfl
theorem abv:YV U (exec U 100000) 32 [(.fz [(iI 3)]),(.fz [(iI 3)])] false=some bT:=by kernel_rfl
theorem abw:YV U (exec U 100000) 32 [(.fz [(iI 1)]),(.fz [(iI 1)])] false=some bT:=by kernel_rfl
theorem abx:YV U (exec U 100000) 32 [(.fz [(iI 0),(iI 1)]),(.fz [(iI 0),(iI 1)])] false=some bT:=by kernel_rfl
theorem aby:YV U (exec U 100000) 29 [(.agg [(iI 1),(.fz [(.fz [(iI 0),(iI 0)])]),(.fz [(.fz [bF,bT])])]),(.agg [(iI 1),(.fz [(.fz [(iI 0),(iI 0)])]),(.fz [(.fz [bF,bT])])])] true=some bT:=by kernel_rfl
end Go.Am
