import Derived.Test.YtepfaegpjddehaaGreatDoorCards
import Derived.JoinedOf
import Derived.SevenTiedAt
set_option linter.unusedSimpArgs false
set_option linter.unusedVariables false
namespace Go.Proofs.YtepfaegpjddehaaGreatDoor
open Go
set_option maxRecDepth 100000
theorem fc17_inp : (Rows.countAgreesRow.inPlace == Tryz.prog.inPlace 17) = true := by kernel_rfl
theorem fc17_unf : (Rows.countAgreesRow.unfollowed == Tryz.prog.unfollowed 17) = true := by kernel_rfl
theorem fc17_rec : (Rows.countAgreesRow.recurses == Tryz.prog.recurses 17) = true := by kernel_rfl
theorem fc17_named : (Rows.countAgreesRow.named == Tryz.prog.varsNamed 17) = true := by kernel_rfl
theorem fc17_goes : false = Rows.countAgreesRow.goesBy Tryz.prog := by kernel_rfl
theorem fc17_wf : Rows.countAgreesRow.wf (OpenSpec.ofChange Rows.countAgreesSpec) = true := by kernel_rfl
theorem fc17_wfT : Rows.countAgreesRow.wfByText (OpenSpec.ofChange Rows.countAgreesSpec) = true := by kernel_rfl
theorem fc17_tie : namedTie Tryz.prog Rows.countAgreesRow.named Rows.countAgreesSpec.vars = true := by kernel_rfl
end Go.Proofs.YtepfaegpjddehaaGreatDoor
