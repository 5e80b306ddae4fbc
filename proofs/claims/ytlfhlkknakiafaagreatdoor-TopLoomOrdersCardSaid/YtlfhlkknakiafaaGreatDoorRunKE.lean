import Derived.Test.YtlfhlkknakiafaaGreatDoorRunD
set_option linter.unusedSimpArgs false
set_option linter.unusedVariables false
namespace Go.Ev
open Go Go.Proofs
set_option maxRecDepth 100000
theorem pl_4:plB 4 gN4=true:=by kernel_rfl
theorem ch_4:chB 4 gN4 pN4 0 [0,1,2,4] [0,1,2,3,5]=true:=by kernel_rfl
theorem pl_6:plB 6 gN6=true:=by kernel_rfl
theorem ch_6:chB 6 gN6 [] 7 [0,1,2] []=true:=by kernel_rfl
theorem kg_6:r73 6 gN6 [0,1,2]=true:=by kernel_rfl
theorem qdw:r73 13 pN13 [0,1,2,3]=true:=by kernel_rfl
theorem qdx:plB 14 gN14=true:=by kernel_rfl
theorem qdy:chB 14 gN14 [] 7 [0,1,2] []=true:=by kernel_rfl
end Go.Ev
