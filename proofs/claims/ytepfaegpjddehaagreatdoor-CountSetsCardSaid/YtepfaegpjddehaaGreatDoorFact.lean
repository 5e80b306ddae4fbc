/-
  Facts of CountSets (function 3).
-/
import Derived.Test.YtepfaegpjddehaaGreatDoorCards
import Derived.JoinedOf
import Derived.SevenTiedAt
set_option linter.unusedSimpArgs false
set_option linter.unusedVariables false
namespace Go.Proofs.YtepfaegpjddehaaGreatDoor
open Go
set_option maxRecDepth 100000
theorem fc3_inp : (Rows.countSetsRow.inPlace == Tryz.prog.inPlace 3) = true := by kernel_rfl
theorem fc3_unf : (Rows.countSetsRow.unfollowed == Tryz.prog.unfollowed 3) = true := by kernel_rfl
theorem fc3_rec : (Rows.countSetsRow.recurses == Tryz.prog.recurses 3) = true := by kernel_rfl
theorem fc3_named : (Rows.countSetsRow.named == Tryz.prog.varsNamed 3) = true := by kernel_rfl
theorem fc3_goes : false = Rows.countSetsRow.goesBy Tryz.prog := by kernel_rfl
theorem fc3_wf : Rows.countSetsRow.wf (OpenSpec.ofChange Rows.countSetsSpec) = true := by kernel_rfl
theorem fc3_wfT : Rows.countSetsRow.wfByText (OpenSpec.ofChange Rows.countSetsSpec) = true := by kernel_rfl
theorem fc3_tie : namedTie Tryz.prog Rows.countSetsRow.named Rows.countSetsSpec.vars = true := by kernel_rfl
end Go.Proofs.YtepfaegpjddehaaGreatDoor
