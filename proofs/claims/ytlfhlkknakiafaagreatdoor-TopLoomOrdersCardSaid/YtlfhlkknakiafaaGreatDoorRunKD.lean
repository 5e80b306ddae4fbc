import Derived.Test.YtlfhlkknakiafaaGreatDoorRunD
set_option linter.unusedSimpArgs false
set_option linter.unusedVariables false
namespace Go.Ev
open Go Go.Proofs
set_option maxRecDepth 100000
theorem kp_1:r73 1 pN1 [0,1,2,3,4,7]=true:=by kernel_rfl
theorem kp_5:r73 5 pN5 [0,1,2,3]=true:=by kernel_rfl
theorem kg_8:r73 8 gN8 [0,1,2,4]=true:=by kernel_rfl
theorem qd2:r73 15 gN15 [0,1,2,4]=true:=by kernel_rfl
end Go.Ev
