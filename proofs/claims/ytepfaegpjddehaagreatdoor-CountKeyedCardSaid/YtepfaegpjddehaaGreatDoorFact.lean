import Derived.Test.YtepfaegpjddehaaGreatDoorCards
import Derived.JoinedOf
import Derived.SevenTiedAt
set_option linter.unusedSimpArgs false
set_option linter.unusedVariables false
namespace Go.Proofs.YtepfaegpjddehaaGreatDoor
open Go
set_option maxRecDepth 100000
theorem fc10_inp : (Rows.countKeyedRow.inPlace == Tryz.prog.inPlace 10) = true := by kernel_rfl
theorem fc10_unf : (Rows.countKeyedRow.unfollowed == Tryz.prog.unfollowed 10) = true := by kernel_rfl
theorem fc10_rec : (Rows.countKeyedRow.recurses == Tryz.prog.recurses 10) = true := by kernel_rfl
theorem fc10_named : (Rows.countKeyedRow.named == Tryz.prog.varsNamed 10) = true := by kernel_rfl
theorem fc10_goes : false = Rows.countKeyedRow.goesBy Tryz.prog := by kernel_rfl
theorem fc10_wf : Rows.countKeyedRow.wf (OpenSpec.ofChange Rows.countKeyedSpec) = true := by kernel_rfl
theorem fc10_wfT : Rows.countKeyedRow.wfByText (OpenSpec.ofChange Rows.countKeyedSpec) = true := by kernel_rfl
theorem fc10_tie : namedTie Tryz.prog Rows.countKeyedRow.named Rows.countKeyedSpec.vars = true := by kernel_rfl
end Go.Proofs.YtepfaegpjddehaaGreatDoor
