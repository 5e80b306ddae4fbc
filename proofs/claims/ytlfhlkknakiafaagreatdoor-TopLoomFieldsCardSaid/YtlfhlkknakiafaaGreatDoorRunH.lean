import Derived.Test.YtlfhlkknakiafaaGreatDoorRunF
set_option linter.unusedSimpArgs false
set_option linter.unusedVariables false
namespace Go.Ev
open Go Go.Proofs
set_option maxRecDepth 100000
theorem run16_4_01 : k8 4 0 1 = true := by kernel_rfl
end Go.Ev
