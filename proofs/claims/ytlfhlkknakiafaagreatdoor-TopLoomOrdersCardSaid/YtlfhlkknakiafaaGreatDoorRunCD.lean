import Derived.Test.YtlfhlkknakiafaaGreatDoorWordsa
set_option linter.unusedSimpArgs false
set_option linter.unusedVariables false
namespace Go.Ev
open Go Go.Proofs
set_option maxRecDepth 100000
theorem zmd:jB 2 2=true:=by kernel_rfl
theorem zme:jB 5 0=true:=by kernel_rfl
theorem zmf:jB 7 0=true:=by kernel_rfl
theorem zic:jB 10 0=true:=by kernel_rfl
theorem zid:jB 10 2=true:=by kernel_rfl
theorem zie:jB 14 0=true:=by kernel_rfl
theorem zif:jB 16 1=true:=by kernel_rfl
end Go.Ev
