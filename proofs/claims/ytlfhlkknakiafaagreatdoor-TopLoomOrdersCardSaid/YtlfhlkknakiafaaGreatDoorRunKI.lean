import Derived.Test.YtlfhlkknakiafaaGreatDoorRunD
set_option linter.unusedSimpArgs false
set_option linter.unusedVariables false
namespace Go.Ev
open Go Go.Proofs
set_option maxRecDepth 100000
theorem kg_1:r73 1 gN1 [0,1,2,3,4,7]=true:=by kernel_rfl
theorem pl_7:plB 7 gN7=true:=by kernel_rfl
theorem ch_7:chB 7 gN7 pN7 0 [0,1,2,4] [0,1,2,3]=true:=by kernel_rfl
theorem kp_7:r73 7 pN7 [0,1,2,3]=true:=by kernel_rfl
theorem qdk:r73 10 gN10 [0,1,2]=true:=by kernel_rfl
theorem qdo:r73 11 pN11 [0,1,2,3]=true:=by kernel_rfl
end Go.Ev
