/-
  Facts of CountBounds (function 4).
-/
import Derived.Test.YtepfaegpjddehaaGreatDoorCards
import Derived.JoinedOf
import Derived.SevenTiedAt
set_option linter.unusedSimpArgs false
set_option linter.unusedVariables false
namespace Go.Proofs.YtepfaegpjddehaaGreatDoor
open Go
set_option maxRecDepth 100000
theorem fc4_inp : (Rows.countBoundsRow.inPlace == Tryz.prog.inPlace 4) = true := by kernel_rfl
theorem fc4_unf : (Rows.countBoundsRow.unfollowed == Tryz.prog.unfollowed 4) = true := by kernel_rfl
theorem fc4_rec : (Rows.countBoundsRow.recurses == Tryz.prog.recurses 4) = true := by kernel_rfl
theorem fc4_named : (Rows.countBoundsRow.named == Tryz.prog.varsNamed 4) = true := by kernel_rfl
theorem fc4_goes : false = Rows.countBoundsRow.goesBy Tryz.prog := by kernel_rfl
theorem fc4_wf : Rows.countBoundsRow.wf (OpenSpec.ofChange Rows.countBoundsSpec) = true := by kernel_rfl
theorem fc4_wfT : Rows.countBoundsRow.wfByText (OpenSpec.ofChange Rows.countBoundsSpec) = true := by kernel_rfl
theorem fc4_tie : namedTie Tryz.prog Rows.countBoundsRow.named Rows.countBoundsSpec.vars = true := by kernel_rfl
end Go.Proofs.YtepfaegpjddehaaGreatDoor
