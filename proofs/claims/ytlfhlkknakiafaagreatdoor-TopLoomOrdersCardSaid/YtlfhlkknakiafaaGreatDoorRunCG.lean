import Derived.Test.YtlfhlkknakiafaaGreatDoorWordsa
set_option linter.unusedSimpArgs false
set_option linter.unusedVariables false
namespace Go.Ev
open Go Go.Proofs
set_option maxRecDepth 100000
theorem zmn:jB 1 2=true:=by kernel_rfl
theorem zmo:jB 3 2=true:=by kernel_rfl
theorem zmp:jB 8 1=true:=by kernel_rfl
theorem zmq:jB 9 1=true:=by kernel_rfl
theorem zio:jB 13 0=true:=by kernel_rfl
theorem ziq:jB 15 0=true:=by kernel_rfl
theorem zir:jB 15 1=true:=by kernel_rfl
end Go.Ev
