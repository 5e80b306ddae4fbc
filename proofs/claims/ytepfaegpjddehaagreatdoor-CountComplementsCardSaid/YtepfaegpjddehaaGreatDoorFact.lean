import Derived.Test.YtepfaegpjddehaaGreatDoorCards
import Derived.JoinedOf
import Derived.SevenTiedAt
set_option linter.unusedSimpArgs false
set_option linter.unusedVariables false
namespace Go.Proofs.YtepfaegpjddehaaGreatDoor
open Go
set_option maxRecDepth 100000
theorem fc13_inp : (Rows.countComplementsRow.inPlace == Tryz.prog.inPlace 13) = true := by kernel_rfl
theorem fc13_unf : (Rows.countComplementsRow.unfollowed == Tryz.prog.unfollowed 13) = true := by kernel_rfl
theorem fc13_rec : (Rows.countComplementsRow.recurses == Tryz.prog.recurses 13) = true := by kernel_rfl
theorem fc13_named : (Rows.countComplementsRow.named == Tryz.prog.varsNamed 13) = true := by kernel_rfl
theorem fc13_goes : false = Rows.countComplementsRow.goesBy Tryz.prog := by kernel_rfl
theorem fc13_wf : Rows.countComplementsRow.wf (OpenSpec.ofChange Rows.countComplementsSpec) = true := by kernel_rfl
theorem fc13_wfT : Rows.countComplementsRow.wfByText (OpenSpec.ofChange Rows.countComplementsSpec) = true := by kernel_rfl
theorem fc13_tie : namedTie Tryz.prog Rows.countComplementsRow.named Rows.countComplementsSpec.vars = true := by kernel_rfl
end Go.Proofs.YtepfaegpjddehaaGreatDoor
