import Derived.Test.YtepfaegpjddehaaGreatDoorCards
import Derived.JoinedOf
import Derived.SevenTiedAt
set_option linter.unusedSimpArgs false
set_option linter.unusedVariables false
namespace Go.Proofs.YtepfaegpjddehaaGreatDoor
open Go
set_option maxRecDepth 100000
theorem fc15_inp : (Rows.countTotalsRow.inPlace == Tryz.prog.inPlace 15) = true := by kernel_rfl
theorem fc15_unf : (Rows.countTotalsRow.unfollowed == Tryz.prog.unfollowed 15) = true := by kernel_rfl
theorem fc15_rec : (Rows.countTotalsRow.recurses == Tryz.prog.recurses 15) = true := by kernel_rfl
theorem fc15_named : (Rows.countTotalsRow.named == Tryz.prog.varsNamed 15) = true := by kernel_rfl
theorem fc15_goes : false = Rows.countTotalsRow.goesBy Tryz.prog := by kernel_rfl
theorem fc15_wf : Rows.countTotalsRow.wf (OpenSpec.ofChange Rows.countTotalsSpec) = true := by kernel_rfl
theorem fc15_wfT : Rows.countTotalsRow.wfByText (OpenSpec.ofChange Rows.countTotalsSpec) = true := by kernel_rfl
theorem fc15_tie : namedTie Tryz.prog Rows.countTotalsRow.named Rows.countTotalsSpec.vars = true := by kernel_rfl
end Go.Proofs.YtepfaegpjddehaaGreatDoor
