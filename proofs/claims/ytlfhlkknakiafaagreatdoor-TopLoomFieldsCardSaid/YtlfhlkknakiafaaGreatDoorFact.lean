import Derived.Test.YtlfhlkknakiafaaGreatDoorCards
import Derived.JoinedOf
import Derived.SevenTiedAt
set_option linter.unusedSimpArgs false
set_option linter.unusedVariables false
namespace Go.Proofs.YtlfhlkknakiafaaGreatDoor
open Go
set_option maxRecDepth 100000
theorem fc3_inp : (Rows.topLoomFieldsRow.inPlace == Tryz.prog.inPlace 3) = true := by kernel_rfl
theorem fc3_unf : (Rows.topLoomFieldsRow.unfollowed == Tryz.prog.unfollowed 3) = true := by kernel_rfl
theorem fc3_rec : (Rows.topLoomFieldsRow.recurses == Tryz.prog.recurses 3) = true := by kernel_rfl
theorem fc3_named : (Rows.topLoomFieldsRow.named == Tryz.prog.varsNamed 3) = true := by kernel_rfl
theorem fc3_goes : false = Rows.topLoomFieldsRow.goesBy Tryz.prog := by kernel_rfl
theorem fc3_wf : Rows.topLoomFieldsRow.wf (OpenSpec.ofChange Rows.topLoomFieldsSpec) = true := by kernel_rfl
theorem fc3_wfT : Rows.topLoomFieldsRow.wfByText (OpenSpec.ofChange Rows.topLoomFieldsSpec) = true := by kernel_rfl
theorem fc3_tie : namedTie Tryz.prog Rows.topLoomFieldsRow.named Rows.topLoomFieldsSpec.vars = true := by kernel_rfl
end Go.Proofs.YtlfhlkknakiafaaGreatDoor
