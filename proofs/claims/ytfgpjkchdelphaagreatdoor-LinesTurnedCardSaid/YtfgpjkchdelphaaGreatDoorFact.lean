import Derived.Test.YtfgpjkchdelphaaGreatDoorCards
import Derived.JoinedOf
import Derived.SevenTiedAt
set_option linter.unusedSimpArgs false
set_option linter.unusedVariables false
namespace Go.Proofs.YtfgpjkchdelphaaGreatDoor
open Go
set_option maxRecDepth 100000
theorem fc10_inp : (Rows.linesTurnedRow.inPlace == Tryz.prog.inPlace 10) = true := by kernel_rfl
theorem fc10_unf : (Rows.linesTurnedRow.unfollowed == Tryz.prog.unfollowed 10) = true := by kernel_rfl
theorem fc10_rec : (Rows.linesTurnedRow.recurses == Tryz.prog.recurses 10) = true := by kernel_rfl
theorem fc10_named : (Rows.linesTurnedRow.named == Tryz.prog.varsNamed 10) = true := by kernel_rfl
theorem fc10_goes : false = Rows.linesTurnedRow.goesBy Tryz.prog := by kernel_rfl
theorem fc10_wf : Rows.linesTurnedRow.wf (OpenSpec.ofChange Rows.linesTurnedSpec) = true := by kernel_rfl
theorem fc10_wfT : Rows.linesTurnedRow.wfByText (OpenSpec.ofChange Rows.linesTurnedSpec) = true := by kernel_rfl
theorem fc10_tie : namedTie Tryz.prog Rows.linesTurnedRow.named Rows.linesTurnedSpec.vars = true := by kernel_rfl
end Go.Proofs.YtfgpjkchdelphaaGreatDoor
