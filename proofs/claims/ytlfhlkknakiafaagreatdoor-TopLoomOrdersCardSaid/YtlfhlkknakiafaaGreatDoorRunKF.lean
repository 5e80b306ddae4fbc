import Derived.Test.YtlfhlkknakiafaaGreatDoorRunD
set_option linter.unusedSimpArgs false
set_option linter.unusedVariables false
namespace Go.Ev
open Go Go.Proofs
set_option maxRecDepth 100000
theorem pl_5:plB 5 gN5=true:=by kernel_rfl
theorem ch_5:chB 5 gN5 pN5 0 [0,1,2,4] [0,1,2,3]=true:=by kernel_rfl
theorem qdi:plB 10 gN10=true:=by kernel_rfl
theorem qdj:chB 10 gN10 [] 7 [0,1,2] []=true:=by kernel_rfl
theorem qdz:r73 14 gN14 [0,1,2]=true:=by kernel_rfl
theorem qd0:plB 15 gN15=true:=by kernel_rfl
theorem qd1:chB 15 gN15 [] 7 [0,1,2,4] []=true:=by kernel_rfl
end Go.Ev
