import Derived.Test.YtlfhlkknakiafaaGreatDoorRunD
set_option linter.unusedSimpArgs false
set_option linter.unusedVariables false
namespace Go.Ev
open Go Go.Proofs
set_option maxRecDepth 100000
theorem pl_9:plB 9 gN9=true:=by kernel_rfl
theorem ch_9:chB 9 gN9 [] 7 [0,1,2,4] []=true:=by kernel_rfl
theorem qdr:r73 12 gN12 [0,1,2,4]=true:=by kernel_rfl
theorem qdt:plB 13 gN13=true:=by kernel_rfl
theorem qdu:chB 13 gN13 pN13 0 [0,1,2,4] [0,1,2,3]=true:=by kernel_rfl
theorem qd3:plB 16 gN16=true:=by kernel_rfl
theorem qd4:chB 16 gN16 aK 0 [0,1,2,4] [0,1,2,3,5]=true:=by kernel_rfl
end Go.Ev
