import Derived.Test.YtlfhlkknakiafaaGreatDoorRunF
set_option linter.unusedSimpArgs false
set_option linter.unusedVariables false
namespace Go.Ev
open Go Go.Proofs
set_option maxRecDepth 100000
theorem run16_4_10 : k8 4 1 0 = true := by kernel_rfl
end Go.Ev
