import Derived.Test.YtlfhlkknakiafaaGreatDoorRunB
set_option linter.unusedSimpArgs false
set_option linter.unusedVariables false
namespace Go.Ev
open Go Go.Proofs
set_option maxRecDepth 100000
theorem run66_7_1 : kZ 7 1 = true := by kernel_rfl
theorem run66_10_1 : kZ 10 1 = true := by kernel_rfl
end Go.Ev
