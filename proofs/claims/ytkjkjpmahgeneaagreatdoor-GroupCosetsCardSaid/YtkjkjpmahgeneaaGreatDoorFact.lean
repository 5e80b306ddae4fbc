import Derived.Test.YtkjkjpmahgeneaaGreatDoorCards
import Derived.JoinedOf
import Derived.SevenTiedAt
set_option linter.unusedSimpArgs false
set_option linter.unusedVariables false
namespace Go.Proofs.YtkjkjpmahgeneaaGreatDoor
open Go
set_option maxRecDepth 100000
theorem fc7_inp : (Rows.groupCosetsRow.inPlace == Tryz.prog.inPlace 7) = true := by kernel_rfl
theorem fc7_unf : (Rows.groupCosetsRow.unfollowed == Tryz.prog.unfollowed 7) = true := by kernel_rfl
theorem fc7_rec : (Rows.groupCosetsRow.recurses == Tryz.prog.recurses 7) = true := by kernel_rfl
theorem fc7_named : (Rows.groupCosetsRow.named == Tryz.prog.varsNamed 7) = true := by kernel_rfl
theorem fc7_goes : false = Rows.groupCosetsRow.goesBy Tryz.prog := by kernel_rfl
theorem fc7_wf : Rows.groupCosetsRow.wf (OpenSpec.ofChange Rows.groupCosetsSpec) = true := by kernel_rfl
theorem fc7_wfT : Rows.groupCosetsRow.wfByText (OpenSpec.ofChange Rows.groupCosetsSpec) = true := by kernel_rfl
theorem fc7_tie : namedTie Tryz.prog Rows.groupCosetsRow.named Rows.groupCosetsSpec.vars = true := by kernel_rfl
end Go.Proofs.YtkjkjpmahgeneaaGreatDoor
