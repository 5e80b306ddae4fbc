import Derived.Test.YtlfhlkknakiafaaGreatDoorRunD
set_option linter.unusedSimpArgs false
set_option linter.unusedVariables false
namespace Go.Ev
open Go Go.Proofs
set_option maxRecDepth 100000
theorem pl_3:plB 3 gN3=true:=by kernel_rfl
theorem ch_3:chB 3 gN3 [] 7 [0,1,2,4] []=true:=by kernel_rfl
theorem kg_4:r73 4 gN4 [0,1,2,4]=true:=by kernel_rfl
theorem kg_7:r73 7 gN7 [0,1,2,4]=true:=by kernel_rfl
theorem kg_9:r73 9 gN9 [0,1,2,4]=true:=by kernel_rfl
theorem qdv:r73 13 gN13 [0,1,2,4]=true:=by kernel_rfl
end Go.Ev
