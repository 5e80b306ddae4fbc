import Derived.Test.YtepfaegpjddehaaGreatDoorCards
import Derived.JoinedOf
import Derived.SevenTiedAt
set_option linter.unusedSimpArgs false
set_option linter.unusedVariables false
namespace Go.Proofs.YtepfaegpjddehaaGreatDoor
open Go
set_option maxRecDepth 100000
theorem fc12_inp : (Rows.countClassesRow.inPlace == Tryz.prog.inPlace 12) = true := by kernel_rfl
theorem fc12_unf : (Rows.countClassesRow.unfollowed == Tryz.prog.unfollowed 12) = true := by kernel_rfl
theorem fc12_rec : (Rows.countClassesRow.recurses == Tryz.prog.recurses 12) = true := by kernel_rfl
theorem fc12_named : (Rows.countClassesRow.named == Tryz.prog.varsNamed 12) = true := by kernel_rfl
theorem fc12_goes : false = Rows.countClassesRow.goesBy Tryz.prog := by kernel_rfl
theorem fc12_wf : Rows.countClassesRow.wf (OpenSpec.ofChange Rows.countClassesSpec) = true := by kernel_rfl
theorem fc12_wfT : Rows.countClassesRow.wfByText (OpenSpec.ofChange Rows.countClassesSpec) = true := by kernel_rfl
theorem fc12_tie : namedTie Tryz.prog Rows.countClassesRow.named Rows.countClassesSpec.vars = true := by kernel_rfl
end Go.Proofs.YtepfaegpjddehaaGreatDoor
