import Derived.Test.YtfgpjkchdelphaaGreatDoorCards
import Derived.JoinedOf
import Derived.SevenTiedAt
set_option linter.unusedSimpArgs false
set_option linter.unusedVariables false
namespace Go.Proofs.YtfgpjkchdelphaaGreatDoor
open Go
set_option maxRecDepth 100000
theorem fc15_inp : (Rows.linesGraphsRow.inPlace == Tryz.prog.inPlace 15) = true := by kernel_rfl
theorem fc15_unf : (Rows.linesGraphsRow.unfollowed == Tryz.prog.unfollowed 15) = true := by kernel_rfl
theorem fc15_rec : (Rows.linesGraphsRow.recurses == Tryz.prog.recurses 15) = true := by kernel_rfl
theorem fc15_named : (Rows.linesGraphsRow.named == Tryz.prog.varsNamed 15) = true := by kernel_rfl
theorem fc15_goes : false = Rows.linesGraphsRow.goesBy Tryz.prog := by kernel_rfl
theorem fc15_wf : Rows.linesGraphsRow.wf (OpenSpec.ofChange Rows.linesGraphsSpec) = true := by kernel_rfl
theorem fc15_wfT : Rows.linesGraphsRow.wfByText (OpenSpec.ofChange Rows.linesGraphsSpec) = true := by kernel_rfl
theorem fc15_tie : namedTie Tryz.prog Rows.linesGraphsRow.named Rows.linesGraphsSpec.vars = true := by kernel_rfl
end Go.Proofs.YtfgpjkchdelphaaGreatDoor
