import Derived.Test.YtlfhlkknakiafaaGreatDoorRunD
set_option linter.unusedSimpArgs false
set_option linter.unusedVariables false
namespace Go.Ev
open Go Go.Proofs
set_option maxRecDepth 100000
theorem pl_1:plB 1 gN1=true:=by kernel_rfl
theorem ch_1:chB 1 gN1 pN1 0 [0,1,2,3,4,7] [0,1,2,3,4,7]=true:=by kernel_rfl
theorem kg_3:r73 3 gN3 [0,1,2,4]=true:=by kernel_rfl
theorem kp_4:r73 4 pN4 [0,1,2,3,5]=true:=by kernel_rfl
theorem qds:r73 12 pN12 [0,1,2,3,5]=true:=by kernel_rfl
end Go.Ev
