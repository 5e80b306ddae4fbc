import Derived.Test.YtepfaegpjddehaaGreatDoorCards
import Derived.JoinedOf
import Derived.SevenTiedAt
set_option linter.unusedSimpArgs false
set_option linter.unusedVariables false
namespace Go.Proofs.YtepfaegpjddehaaGreatDoor
open Go
set_option maxRecDepth 100000
theorem fc8_inp : (Rows.countAntimagicRow.inPlace == Tryz.prog.inPlace 8) = true := by kernel_rfl
theorem fc8_unf : (Rows.countAntimagicRow.unfollowed == Tryz.prog.unfollowed 8) = true := by kernel_rfl
theorem fc8_rec : (Rows.countAntimagicRow.recurses == Tryz.prog.recurses 8) = true := by kernel_rfl
theorem fc8_named : (Rows.countAntimagicRow.named == Tryz.prog.varsNamed 8) = true := by kernel_rfl
theorem fc8_goes : false = Rows.countAntimagicRow.goesBy Tryz.prog := by kernel_rfl
theorem fc8_wf : Rows.countAntimagicRow.wf (OpenSpec.ofChange Rows.countAntimagicSpec) = true := by kernel_rfl
theorem fc8_wfT : Rows.countAntimagicRow.wfByText (OpenSpec.ofChange Rows.countAntimagicSpec) = true := by kernel_rfl
theorem fc8_tie : namedTie Tryz.prog Rows.countAntimagicRow.named Rows.countAntimagicSpec.vars = true := by kernel_rfl
end Go.Proofs.YtepfaegpjddehaaGreatDoor
