import Derived.Test.YtlfhlkknakiafaaGreatDoorRunD
set_option linter.unusedSimpArgs false
set_option linter.unusedVariables false
namespace Go.Ev
open Go Go.Proofs
set_option maxRecDepth 100000
theorem pl_8:plB 8 gN8=true:=by kernel_rfl
theorem ch_8:chB 8 gN8 pN8 0 [0,1,2,4] [0,1,2,3,5]=true:=by kernel_rfl
theorem kp_8:r73 8 pN8 [0,1,2,3,5]=true:=by kernel_rfl
theorem qdn:r73 11 gN11 [0,1,2,4]=true:=by kernel_rfl
theorem qdp:plB 12 gN12=true:=by kernel_rfl
theorem qdq:chB 12 gN12 pN12 0 [0,1,2,4] [0,1,2,3,5]=true:=by kernel_rfl
end Go.Ev
