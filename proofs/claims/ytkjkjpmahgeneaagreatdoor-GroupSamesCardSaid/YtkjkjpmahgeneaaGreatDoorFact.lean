import Derived.Test.YtkjkjpmahgeneaaGreatDoorCards
import Derived.JoinedOf
import Derived.SevenTiedAt
set_option linter.unusedSimpArgs false
set_option linter.unusedVariables false
namespace Go.Proofs.YtkjkjpmahgeneaaGreatDoor
open Go
set_option maxRecDepth 100000
theorem fc16_inp : (Rows.groupSamesRow.inPlace == Tryz.prog.inPlace 16) = true := by kernel_rfl
theorem fc16_unf : (Rows.groupSamesRow.unfollowed == Tryz.prog.unfollowed 16) = true := by kernel_rfl
theorem fc16_rec : (Rows.groupSamesRow.recurses == Tryz.prog.recurses 16) = true := by kernel_rfl
theorem fc16_named : (Rows.groupSamesRow.named == Tryz.prog.varsNamed 16) = true := by kernel_rfl
theorem fc16_goes : false = Rows.groupSamesRow.goesBy Tryz.prog := by kernel_rfl
theorem fc16_wf : Rows.groupSamesRow.wf (OpenSpec.ofChange Rows.groupSamesSpec) = true := by kernel_rfl
theorem fc16_wfT : Rows.groupSamesRow.wfByText (OpenSpec.ofChange Rows.groupSamesSpec) = true := by kernel_rfl
theorem fc16_tie : namedTie Tryz.prog Rows.groupSamesRow.named Rows.groupSamesSpec.vars = true := by kernel_rfl
end Go.Proofs.YtkjkjpmahgeneaaGreatDoor
