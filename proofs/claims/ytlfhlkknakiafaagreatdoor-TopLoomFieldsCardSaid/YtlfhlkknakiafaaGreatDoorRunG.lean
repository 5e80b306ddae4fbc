import Derived.Test.YtlfhlkknakiafaaGreatDoorRunF
set_option linter.unusedSimpArgs false
set_option linter.unusedVariables false
namespace Go.Ev
open Go Go.Proofs
set_option maxRecDepth 100000
theorem run16_3_0 : k8 3 0 1 = true := by kernel_rfl
theorem run16_3_1 : k8 3 1 0 = true := by kernel_rfl
end Go.Ev
