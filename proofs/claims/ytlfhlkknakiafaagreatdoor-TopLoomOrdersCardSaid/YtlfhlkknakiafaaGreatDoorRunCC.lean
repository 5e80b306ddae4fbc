import Derived.Test.YtlfhlkknakiafaaGreatDoorWordsa
set_option linter.unusedSimpArgs false
set_option linter.unusedVariables false
namespace Go.Ev
open Go Go.Proofs
set_option maxRecDepth 100000
theorem zl8:jB 1 0=true:=by kernel_rfl
theorem zl9:jB 3 1=true:=by kernel_rfl
theorem zma:jB 4 1=true:=by kernel_rfl
theorem zmb:jB 6 2=true:=by kernel_rfl
theorem zmc:jB 7 2=true:=by kernel_rfl
theorem zh9:jB 11 1=true:=by kernel_rfl
theorem zia:jB 11 2=true:=by kernel_rfl
theorem zib:jB 14 2=true:=by kernel_rfl
end Go.Ev
