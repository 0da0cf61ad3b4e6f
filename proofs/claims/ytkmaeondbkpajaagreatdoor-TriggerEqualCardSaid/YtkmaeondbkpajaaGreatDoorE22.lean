/- A part of the proof. -/
import Derived.Test.YtkmaeondbkpajaaGreatDoorE03
set_option linter.all false
set_option maxHeartbeats 8000000
set_option maxRecDepth 100000
namespace Go.Am
open Go
variable [Z8]
def alf:X7 U (exec U 100000) 42 [(.agg [(iI 1),(.fz [(.fz [(iI 1),(iI 0)]),(.fz [(iI 1),(iI 0)])]),(.fz [(.fz [bF,bF]),(.fz [bF,bT])])]),(.agg [(iI 1),(.fz [(.fz [(iI 0),(iI 0)])]),(.fz [(.fz [bF,bT])])])] true=some (.XQ [(.agg [(iI 1),(.fz [(.fz [(iI 1),(iI 0)]),(.fz [(iI 1),(iI 0)])]),(.fz [(.fz [bF,bF]),(.fz [bF,bT])])]),(iI 0)]):=by kernel_rfl
def alg:X7 U (exec U 100000) 43 [(.agg [(iI 1),(.fz [(.fz [(iI 1),(iI 0)]),(.fz [(iI 1),(iI 0)])]),(.fz [(.fz [bF,bF]),(.fz [bF,bT])])]),(.agg [(iI 1),(.fz [(.fz [(iI 0),(iI 0)])]),(.fz [(.fz [bF,bT])])])] true=some (.XQ [(.agg [(iI 1),(.fz [(.fz [(iI 0),(iI 0)])]),(.fz [(.fz [bF,bT])])]),(iI 0)]):=by kernel_rfl
def alh:X7 U (exec U 100000) 9 [(.str [108,105,110,101,115,32,49,59,32,114,105,122,101,32,48,59])] true=some (.XQ [(.agg [(iI 0),.ZQ]),(iI 9),(iI 25)]):=by kernel_rfl
def ali:X7 U (exec U 100000) 44 [(.fz [bF,bF,bF,bT,bF,bF]),(.fz [bF,bF,bF,bT,bF,bF])] false=some bT:=by kernel_rfl
def alj:X7 U (exec U 100000) 44 [(.fz [bF,bF,bF,bT]),(.fz [bF,bF,bF,bT])] false=some bT:=by kernel_rfl
def alm:X7 U (exec U 100000) 32 [(.fz [(iI 3)]),(.fz [(iI 3)])] false=some bT:=by kernel_rfl
def aln:X7 U (exec U 100000) 32 [(.fz [(iI 1)]),(.fz [(iI 1)])] false=some bT:=by kernel_rfl
def alo:X7 U (exec U 100000) 32 [(.fz [(iI 0),(iI 1)]),(.fz [(iI 0),(iI 1)])] false=some bT:=by kernel_rfl
def alp:X7 U (exec U 100000) 29 [(.agg [(iI 1),(.fz [(.fz [(iI 0),(iI 0)])]),(.fz [(.fz [bF,bT])])]),(.agg [(iI 1),(.fz [(.fz [(iI 0),(iI 0)])]),(.fz [(.fz [bF,bT])])])] true=some bT:=by kernel_rfl
end Go.Am
