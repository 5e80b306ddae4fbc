import Derived.Test.YtlfhlkknakiafaaGreatDoorWordsa
set_option linter.unusedSimpArgs false
set_option linter.unusedVariables false
namespace Go.Ev
open Go Go.Proofs
set_option maxRecDepth 100000
theorem zmg:jB 1 1=true:=by kernel_rfl
theorem zmh:jB 5 2=true:=by kernel_rfl
theorem zmi:jB 6 0=true:=by kernel_rfl
theorem zih:jB 10 1=true:=by kernel_rfl
theorem zii:jB 12 1=true:=by kernel_rfl
theorem zij:jB 13 2=true:=by kernel_rfl
theorem zik:jB 14 1=true:=by kernel_rfl
end Go.Ev
