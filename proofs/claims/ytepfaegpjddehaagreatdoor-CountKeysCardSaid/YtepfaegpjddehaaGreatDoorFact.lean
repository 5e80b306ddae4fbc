/-
  Facts of CountKeys (function 7).
-/
import Derived.Test.YtepfaegpjddehaaGreatDoorCards
import Derived.JoinedOf
import Derived.SevenTiedAt
set_option linter.unusedSimpArgs false
set_option linter.unusedVariables false
namespace Go.Proofs.YtepfaegpjddehaaGreatDoor
open Go
set_option maxRecDepth 100000
theorem fc7_inp : (Rows.countKeysRow.inPlace == Tryz.prog.inPlace 7) = true := by kernel_rfl
theorem fc7_unf : (Rows.countKeysRow.unfollowed == Tryz.prog.unfollowed 7) = true := by kernel_rfl
theorem fc7_rec : (Rows.countKeysRow.recurses == Tryz.prog.recurses 7) = true := by kernel_rfl
theorem fc7_named : (Rows.countKeysRow.named == Tryz.prog.varsNamed 7) = true := by kernel_rfl
theorem fc7_goes : false = Rows.countKeysRow.goesBy Tryz.prog := by kernel_rfl
theorem fc7_wf : Rows.countKeysRow.wf (OpenSpec.ofChange Rows.countKeysSpec) = true := by kernel_rfl
theorem fc7_wfT : Rows.countKeysRow.wfByText (OpenSpec.ofChange Rows.countKeysSpec) = true := by kernel_rfl
theorem fc7_tie : namedTie Tryz.prog Rows.countKeysRow.named Rows.countKeysSpec.vars = true := by kernel_rfl
end Go.Proofs.YtepfaegpjddehaaGreatDoor
