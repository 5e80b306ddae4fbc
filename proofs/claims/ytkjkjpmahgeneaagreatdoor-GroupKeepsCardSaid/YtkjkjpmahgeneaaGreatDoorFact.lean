import Derived.Test.YtkjkjpmahgeneaaGreatDoorCards
import Derived.JoinedOf
import Derived.SevenTiedAt
set_option linter.unusedSimpArgs false
set_option linter.unusedVariables false
namespace Go.Proofs.YtkjkjpmahgeneaaGreatDoor
open Go
set_option maxRecDepth 100000
theorem fc11_inp : (Rows.groupKeepsRow.inPlace == Tryz.prog.inPlace 11) = true := by kernel_rfl
theorem fc11_unf : (Rows.groupKeepsRow.unfollowed == Tryz.prog.unfollowed 11) = true := by kernel_rfl
theorem fc11_rec : (Rows.groupKeepsRow.recurses == Tryz.prog.recurses 11) = true := by kernel_rfl
theorem fc11_named : (Rows.groupKeepsRow.named == Tryz.prog.varsNamed 11) = true := by kernel_rfl
theorem fc11_goes : false = Rows.groupKeepsRow.goesBy Tryz.prog := by kernel_rfl
theorem fc11_wf : Rows.groupKeepsRow.wf (OpenSpec.ofChange Rows.groupKeepsSpec) = true := by kernel_rfl
theorem fc11_wfT : Rows.groupKeepsRow.wfByText (OpenSpec.ofChange Rows.groupKeepsSpec) = true := by kernel_rfl
theorem fc11_tie : namedTie Tryz.prog Rows.groupKeepsRow.named Rows.groupKeepsSpec.vars = true := by kernel_rfl
end Go.Proofs.YtkjkjpmahgeneaaGreatDoor
