import Derived.Test.YtepfaegpjddehaaGreatDoorCards
import Derived.JoinedOf
import Derived.SevenTiedAt
set_option linter.unusedSimpArgs false
set_option linter.unusedVariables false
namespace Go.Proofs.YtepfaegpjddehaaGreatDoor
open Go
set_option maxRecDepth 100000
theorem fc16_inp : (Rows.countConstantsRow.inPlace == Tryz.prog.inPlace 16) = true := by kernel_rfl
theorem fc16_unf : (Rows.countConstantsRow.unfollowed == Tryz.prog.unfollowed 16) = true := by kernel_rfl
theorem fc16_rec : (Rows.countConstantsRow.recurses == Tryz.prog.recurses 16) = true := by kernel_rfl
theorem fc16_named : (Rows.countConstantsRow.named == Tryz.prog.varsNamed 16) = true := by kernel_rfl
theorem fc16_goes : false = Rows.countConstantsRow.goesBy Tryz.prog := by kernel_rfl
theorem fc16_wf : Rows.countConstantsRow.wf (OpenSpec.ofChange Rows.countConstantsSpec) = true := by kernel_rfl
theorem fc16_wfT : Rows.countConstantsRow.wfByText (OpenSpec.ofChange Rows.countConstantsSpec) = true := by kernel_rfl
theorem fc16_tie : namedTie Tryz.prog Rows.countConstantsRow.named Rows.countConstantsSpec.vars = true := by kernel_rfl
end Go.Proofs.YtepfaegpjddehaaGreatDoor
