/-
  Facts of CountBounded (function 5).
-/
import Derived.Test.YtepfaegpjddehaaGreatDoorCards
import Derived.JoinedOf
import Derived.SevenTiedAt
set_option linter.unusedSimpArgs false
set_option linter.unusedVariables false
namespace Go.Proofs.YtepfaegpjddehaaGreatDoor
open Go
set_option maxRecDepth 100000
theorem fc5_inp : (Rows.countBoundedRow.inPlace == Tryz.prog.inPlace 5) = true := by kernel_rfl
theorem fc5_unf : (Rows.countBoundedRow.unfollowed == Tryz.prog.unfollowed 5) = true := by kernel_rfl
theorem fc5_rec : (Rows.countBoundedRow.recurses == Tryz.prog.recurses 5) = true := by kernel_rfl
theorem fc5_named : (Rows.countBoundedRow.named == Tryz.prog.varsNamed 5) = true := by kernel_rfl
theorem fc5_goes : false = Rows.countBoundedRow.goesBy Tryz.prog := by kernel_rfl
theorem fc5_wf : Rows.countBoundedRow.wf (OpenSpec.ofChange Rows.countBoundedSpec) = true := by kernel_rfl
theorem fc5_wfT : Rows.countBoundedRow.wfByText (OpenSpec.ofChange Rows.countBoundedSpec) = true := by kernel_rfl
theorem fc5_tie : namedTie Tryz.prog Rows.countBoundedRow.named Rows.countBoundedSpec.vars = true := by kernel_rfl
end Go.Proofs.YtepfaegpjddehaaGreatDoor
