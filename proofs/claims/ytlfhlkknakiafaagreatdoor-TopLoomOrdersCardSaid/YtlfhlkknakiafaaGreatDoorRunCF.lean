import Derived.Test.YtlfhlkknakiafaaGreatDoorWordsa
set_option linter.unusedSimpArgs false
set_option linter.unusedVariables false
namespace Go.Ev
open Go Go.Proofs
set_option maxRecDepth 100000
theorem zmj:jB 2 0=true:=by kernel_rfl
theorem zmk:jB 4 0=true:=by kernel_rfl
theorem zml:jB 8 0=true:=by kernel_rfl
theorem zmm:jB 9 0=true:=by kernel_rfl
theorem zil:jB 12 0=true:=by kernel_rfl
theorem zim:jB 12 2=true:=by kernel_rfl
theorem zin:jB 16 0=true:=by kernel_rfl
end Go.Ev
