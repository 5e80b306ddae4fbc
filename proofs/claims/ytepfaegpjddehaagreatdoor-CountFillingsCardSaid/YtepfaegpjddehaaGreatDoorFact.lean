import Derived.Test.YtepfaegpjddehaaGreatDoorCards
import Derived.JoinedOf
import Derived.SevenTiedAt
set_option linter.unusedSimpArgs false
set_option linter.unusedVariables false
namespace Go.Proofs.YtepfaegpjddehaaGreatDoor
open Go
set_option maxRecDepth 100000
theorem fc11_inp : (Rows.countFillingsRow.inPlace == Tryz.prog.inPlace 11) = true := by kernel_rfl
theorem fc11_unf : (Rows.countFillingsRow.unfollowed == Tryz.prog.unfollowed 11) = true := by kernel_rfl
theorem fc11_rec : (Rows.countFillingsRow.recurses == Tryz.prog.recurses 11) = true := by kernel_rfl
theorem fc11_named : (Rows.countFillingsRow.named == Tryz.prog.varsNamed 11) = true := by kernel_rfl
theorem fc11_goes : false = Rows.countFillingsRow.goesBy Tryz.prog := by kernel_rfl
theorem fc11_wf : Rows.countFillingsRow.wf (OpenSpec.ofChange Rows.countFillingsSpec) = true := by kernel_rfl
theorem fc11_wfT : Rows.countFillingsRow.wfByText (OpenSpec.ofChange Rows.countFillingsSpec) = true := by kernel_rfl
theorem fc11_tie : namedTie Tryz.prog Rows.countFillingsRow.named Rows.countFillingsSpec.vars = true := by kernel_rfl
end Go.Proofs.YtepfaegpjddehaaGreatDoor
