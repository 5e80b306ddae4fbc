import Derived.Test.YtlfhlkknakiafaaGreatDoorRunB
set_option linter.unusedSimpArgs false
set_option linter.unusedVariables false
namespace Go.Ev
open Go Go.Proofs
set_option maxRecDepth 100000
theorem run66_12_2 : kZ 12 2 = true := by kernel_rfl
end Go.Ev
