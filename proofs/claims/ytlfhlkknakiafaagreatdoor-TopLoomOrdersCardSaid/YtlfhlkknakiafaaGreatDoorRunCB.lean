import Derived.Test.YtlfhlkknakiafaaGreatDoorWordsa
set_option linter.unusedSimpArgs false
set_option linter.unusedVariables false
namespace Go.Ev
open Go Go.Proofs
set_option maxRecDepth 100000
theorem zl5:jB 2 1=true:=by kernel_rfl
theorem zl6:jB 4 2=true:=by kernel_rfl
theorem zl7:jB 7 1=true:=by kernel_rfl
theorem zh6:jB 11 0=true:=by kernel_rfl
theorem zh7:jB 13 1=true:=by kernel_rfl
theorem zh8:jB 15 2=true:=by kernel_rfl
end Go.Ev
