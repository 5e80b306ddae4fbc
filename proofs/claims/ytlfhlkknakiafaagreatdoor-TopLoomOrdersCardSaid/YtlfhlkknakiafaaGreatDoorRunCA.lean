import Derived.Test.YtlfhlkknakiafaaGreatDoorWordsa
set_option linter.unusedSimpArgs false
set_option linter.unusedVariables false
namespace Go.Ev
open Go Go.Proofs
set_option maxRecDepth 100000
theorem zl0:jB 3 0=true:=by kernel_rfl
theorem zl1:jB 5 1=true:=by kernel_rfl
theorem zl2:jB 6 1=true:=by kernel_rfl
theorem zl3:jB 8 2=true:=by kernel_rfl
theorem zl4:jB 9 2=true:=by kernel_rfl
theorem zh5:jB 16 2=true:=by kernel_rfl
end Go.Ev
