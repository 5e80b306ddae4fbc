import Derived.Test.YtepfaegpjddehaaGreatDoorCards
import Derived.JoinedOf
import Derived.SevenTiedAt
set_option linter.unusedSimpArgs false
set_option linter.unusedVariables false
namespace Go.Proofs.YtepfaegpjddehaaGreatDoor
open Go
set_option maxRecDepth 100000
theorem fc6_inp : (Rows.countHalvesRow.inPlace == Tryz.prog.inPlace 6) = true := by kernel_rfl
theorem fc6_unf : (Rows.countHalvesRow.unfollowed == Tryz.prog.unfollowed 6) = true := by kernel_rfl
theorem fc6_rec : (Rows.countHalvesRow.recurses == Tryz.prog.recurses 6) = true := by kernel_rfl
theorem fc6_named : (Rows.countHalvesRow.named == Tryz.prog.varsNamed 6) = true := by kernel_rfl
theorem fc6_goes : false = Rows.countHalvesRow.goesBy Tryz.prog := by kernel_rfl
theorem fc6_wf : Rows.countHalvesRow.wf (OpenSpec.ofChange Rows.countHalvesSpec) = true := by kernel_rfl
theorem fc6_wfT : Rows.countHalvesRow.wfByText (OpenSpec.ofChange Rows.countHalvesSpec) = true := by kernel_rfl
theorem fc6_tie : namedTie Tryz.prog Rows.countHalvesRow.named Rows.countHalvesSpec.vars = true := by kernel_rfl
end Go.Proofs.YtepfaegpjddehaaGreatDoor
