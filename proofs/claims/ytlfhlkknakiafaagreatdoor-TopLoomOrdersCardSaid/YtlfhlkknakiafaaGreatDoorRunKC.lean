import Derived.Test.YtlfhlkknakiafaaGreatDoorRunD
set_option linter.unusedSimpArgs false
set_option linter.unusedVariables false
namespace Go.Ev
open Go Go.Proofs
set_option maxRecDepth 100000
theorem kg_5:r73 5 gN5 [0,1,2,4]=true:=by kernel_rfl
theorem qdl:plB 11 gN11=true:=by kernel_rfl
theorem qdm:chB 11 gN11 pN11 0 [0,1,2,4] [0,1,2,3]=true:=by kernel_rfl
theorem qd5:r73 16 gN16 [0,1,2,4]=true:=by kernel_rfl
end Go.Ev
