import Derived.Test.YtfgpjkchdelphaaGreatDoorCards
import Derived.JoinedOf
import Derived.SevenTiedAt
set_option linter.unusedSimpArgs false
set_option linter.unusedVariables false
namespace Go.Proofs.YtfgpjkchdelphaaGreatDoor
open Go
set_option maxRecDepth 100000
theorem fc12_inp : (Rows.linesSumsRow.inPlace == Tryz.prog.inPlace 12) = true := by kernel_rfl
theorem fc12_unf : (Rows.linesSumsRow.unfollowed == Tryz.prog.unfollowed 12) = true := by kernel_rfl
theorem fc12_rec : (Rows.linesSumsRow.recurses == Tryz.prog.recurses 12) = true := by kernel_rfl
theorem fc12_named : (Rows.linesSumsRow.named == Tryz.prog.varsNamed 12) = true := by kernel_rfl
theorem fc12_goes : false = Rows.linesSumsRow.goesBy Tryz.prog := by kernel_rfl
theorem fc12_wf : Rows.linesSumsRow.wf (OpenSpec.ofChange Rows.linesSumsSpec) = true := by kernel_rfl
theorem fc12_wfT : Rows.linesSumsRow.wfByText (OpenSpec.ofChange Rows.linesSumsSpec) = true := by kernel_rfl
theorem fc12_tie : namedTie Tryz.prog Rows.linesSumsRow.named Rows.linesSumsSpec.vars = true := by kernel_rfl
end Go.Proofs.YtfgpjkchdelphaaGreatDoor
