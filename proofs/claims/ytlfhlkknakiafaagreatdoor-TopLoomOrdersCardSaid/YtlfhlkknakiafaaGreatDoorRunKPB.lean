import Derived.Test.YtlfhlkknakiafaaGreatDoorRunKPA
set_option linter.unusedSimpArgs false
set_option linter.unusedVariables false
namespace Go.Ev
open Go Go.Proofs
set_option maxRecDepth 100000
theorem mp16:rk zrr 255 [figV 16 aK] (.bool true)=true:=by kernel_rfl
end Go.Ev
