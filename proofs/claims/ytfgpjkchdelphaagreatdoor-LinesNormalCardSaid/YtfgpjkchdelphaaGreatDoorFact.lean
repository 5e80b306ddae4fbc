import Derived.Test.YtfgpjkchdelphaaGreatDoorCards
import Derived.JoinedOf
import Derived.SevenTiedAt
set_option linter.unusedSimpArgs false
set_option linter.unusedVariables false
namespace Go.Proofs.YtfgpjkchdelphaaGreatDoor
open Go
set_option maxRecDepth 100000
theorem fc11_inp : (Rows.linesNormalRow.inPlace == Tryz.prog.inPlace 11) = true := by kernel_rfl
theorem fc11_unf : (Rows.linesNormalRow.unfollowed == Tryz.prog.unfollowed 11) = true := by kernel_rfl
theorem fc11_rec : (Rows.linesNormalRow.recurses == Tryz.prog.recurses 11) = true := by kernel_rfl
theorem fc11_named : (Rows.linesNormalRow.named == Tryz.prog.varsNamed 11) = true := by kernel_rfl
theorem fc11_goes : false = Rows.linesNormalRow.goesBy Tryz.prog := by kernel_rfl
theorem fc11_wf : Rows.linesNormalRow.wf (OpenSpec.ofChange Rows.linesNormalSpec) = true := by kernel_rfl
theorem fc11_wfT : Rows.linesNormalRow.wfByText (OpenSpec.ofChange Rows.linesNormalSpec) = true := by kernel_rfl
theorem fc11_tie : namedTie Tryz.prog Rows.linesNormalRow.named Rows.linesNormalSpec.vars = true := by kernel_rfl
end Go.Proofs.YtfgpjkchdelphaaGreatDoor
