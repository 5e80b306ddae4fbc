import Derived.Test.YtkjkjpmahgeneaaGreatDoorCards
import Derived.JoinedOf
import Derived.SevenTiedAt
set_option linter.unusedSimpArgs false
set_option linter.unusedVariables false
namespace Go.Proofs.YtkjkjpmahgeneaaGreatDoor
open Go
set_option maxRecDepth 100000
theorem fc3_inp : (Rows.groupChecksRow.inPlace == Tryz.prog.inPlace 3) = true := by kernel_rfl
theorem fc3_unf : (Rows.groupChecksRow.unfollowed == Tryz.prog.unfollowed 3) = true := by kernel_rfl
theorem fc3_rec : (Rows.groupChecksRow.recurses == Tryz.prog.recurses 3) = true := by kernel_rfl
theorem fc3_named : (Rows.groupChecksRow.named == Tryz.prog.varsNamed 3) = true := by kernel_rfl
theorem fc3_goes : false = Rows.groupChecksRow.goesBy Tryz.prog := by kernel_rfl
theorem fc3_wf : Rows.groupChecksRow.wf (OpenSpec.ofChange Rows.groupChecksSpec) = true := by kernel_rfl
theorem fc3_wfT : Rows.groupChecksRow.wfByText (OpenSpec.ofChange Rows.groupChecksSpec) = true := by kernel_rfl
theorem fc3_tie : namedTie Tryz.prog Rows.groupChecksRow.named Rows.groupChecksSpec.vars = true := by kernel_rfl
end Go.Proofs.YtkjkjpmahgeneaaGreatDoor
