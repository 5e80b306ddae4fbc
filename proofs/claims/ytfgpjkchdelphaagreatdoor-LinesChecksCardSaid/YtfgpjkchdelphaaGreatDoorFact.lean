import Derived.Test.YtfgpjkchdelphaaGreatDoorCards
import Derived.JoinedOf
import Derived.SevenTiedAt
set_option linter.unusedSimpArgs false
set_option linter.unusedVariables false
namespace Go.Proofs.YtfgpjkchdelphaaGreatDoor
open Go
set_option maxRecDepth 100000
theorem fc3_inp : (Rows.linesChecksRow.inPlace == Tryz.prog.inPlace 3) = true := by kernel_rfl
theorem fc3_unf : (Rows.linesChecksRow.unfollowed == Tryz.prog.unfollowed 3) = true := by kernel_rfl
theorem fc3_rec : (Rows.linesChecksRow.recurses == Tryz.prog.recurses 3) = true := by kernel_rfl
theorem fc3_named : (Rows.linesChecksRow.named == Tryz.prog.varsNamed 3) = true := by kernel_rfl
theorem fc3_goes : false = Rows.linesChecksRow.goesBy Tryz.prog := by kernel_rfl
theorem fc3_wf : Rows.linesChecksRow.wf (OpenSpec.ofChange Rows.linesChecksSpec) = true := by kernel_rfl
theorem fc3_wfT : Rows.linesChecksRow.wfByText (OpenSpec.ofChange Rows.linesChecksSpec) = true := by kernel_rfl
theorem fc3_tie : namedTie Tryz.prog Rows.linesChecksRow.named Rows.linesChecksSpec.vars = true := by kernel_rfl
end Go.Proofs.YtfgpjkchdelphaaGreatDoor
