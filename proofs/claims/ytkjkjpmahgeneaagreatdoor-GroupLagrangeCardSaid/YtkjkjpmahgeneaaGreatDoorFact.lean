import Derived.Test.YtkjkjpmahgeneaaGreatDoorCards
import Derived.JoinedOf
import Derived.SevenTiedAt
set_option linter.unusedSimpArgs false
set_option linter.unusedVariables false
namespace Go.Proofs.YtkjkjpmahgeneaaGreatDoor
open Go
set_option maxRecDepth 100000
theorem fc13_inp : (Rows.groupLagrangeRow.inPlace == Tryz.prog.inPlace 13) = true := by kernel_rfl
theorem fc13_unf : (Rows.groupLagrangeRow.unfollowed == Tryz.prog.unfollowed 13) = true := by kernel_rfl
theorem fc13_rec : (Rows.groupLagrangeRow.recurses == Tryz.prog.recurses 13) = true := by kernel_rfl
theorem fc13_named : (Rows.groupLagrangeRow.named == Tryz.prog.varsNamed 13) = true := by kernel_rfl
theorem fc13_goes : false = Rows.groupLagrangeRow.goesBy Tryz.prog := by kernel_rfl
theorem fc13_wf : Rows.groupLagrangeRow.wf (OpenSpec.ofChange Rows.groupLagrangeSpec) = true := by kernel_rfl
theorem fc13_wfT : Rows.groupLagrangeRow.wfByText (OpenSpec.ofChange Rows.groupLagrangeSpec) = true := by kernel_rfl
theorem fc13_tie : namedTie Tryz.prog Rows.groupLagrangeRow.named Rows.groupLagrangeSpec.vars = true := by kernel_rfl
end Go.Proofs.YtkjkjpmahgeneaaGreatDoor
