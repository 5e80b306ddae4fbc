import Derived.Test.YtkjkjpmahgeneaaGreatDoorCards
import Derived.JoinedOf
import Derived.SevenTiedAt
set_option linter.unusedSimpArgs false
set_option linter.unusedVariables false
namespace Go.Proofs.YtkjkjpmahgeneaaGreatDoor
open Go
set_option maxRecDepth 100000
theorem fc17_inp : (Rows.groupImagesRow.inPlace == Tryz.prog.inPlace 17) = true := by kernel_rfl
theorem fc17_unf : (Rows.groupImagesRow.unfollowed == Tryz.prog.unfollowed 17) = true := by kernel_rfl
theorem fc17_rec : (Rows.groupImagesRow.recurses == Tryz.prog.recurses 17) = true := by kernel_rfl
theorem fc17_named : (Rows.groupImagesRow.named == Tryz.prog.varsNamed 17) = true := by kernel_rfl
theorem fc17_goes : false = Rows.groupImagesRow.goesBy Tryz.prog := by kernel_rfl
theorem fc17_wf : Rows.groupImagesRow.wf (OpenSpec.ofChange Rows.groupImagesSpec) = true := by kernel_rfl
theorem fc17_wfT : Rows.groupImagesRow.wfByText (OpenSpec.ofChange Rows.groupImagesSpec) = true := by kernel_rfl
theorem fc17_tie : namedTie Tryz.prog Rows.groupImagesRow.named Rows.groupImagesSpec.vars = true := by kernel_rfl
end Go.Proofs.YtkjkjpmahgeneaaGreatDoor
