import Derived.Test.YtepfaegpjddehaaGreatDoorCards
import Derived.JoinedOf
import Derived.SevenTiedAt
set_option linter.unusedSimpArgs false
set_option linter.unusedVariables false
namespace Go.Proofs.YtepfaegpjddehaaGreatDoor
open Go
set_option maxRecDepth 100000
theorem fc9_inp : (Rows.countMeetsRow.inPlace == Tryz.prog.inPlace 9) = true := by kernel_rfl
theorem fc9_unf : (Rows.countMeetsRow.unfollowed == Tryz.prog.unfollowed 9) = true := by kernel_rfl
theorem fc9_rec : (Rows.countMeetsRow.recurses == Tryz.prog.recurses 9) = true := by kernel_rfl
theorem fc9_named : (Rows.countMeetsRow.named == Tryz.prog.varsNamed 9) = true := by kernel_rfl
theorem fc9_goes : false = Rows.countMeetsRow.goesBy Tryz.prog := by kernel_rfl
theorem fc9_wf : Rows.countMeetsRow.wf (OpenSpec.ofChange Rows.countMeetsSpec) = true := by kernel_rfl
theorem fc9_wfT : Rows.countMeetsRow.wfByText (OpenSpec.ofChange Rows.countMeetsSpec) = true := by kernel_rfl
theorem fc9_tie : namedTie Tryz.prog Rows.countMeetsRow.named Rows.countMeetsSpec.vars = true := by kernel_rfl
end Go.Proofs.YtepfaegpjddehaaGreatDoor
