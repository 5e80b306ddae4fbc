import Derived.Test.YtkjkjpmahgeneaaGreatDoorCards
import Derived.JoinedOf
import Derived.SevenTiedAt
set_option linter.unusedSimpArgs false
set_option linter.unusedVariables false
namespace Go.Proofs.YtkjkjpmahgeneaaGreatDoor
open Go
set_option maxRecDepth 100000
theorem fc12_inp : (Rows.groupOrbitsRow.inPlace == Tryz.prog.inPlace 12) = true := by kernel_rfl
theorem fc12_unf : (Rows.groupOrbitsRow.unfollowed == Tryz.prog.unfollowed 12) = true := by kernel_rfl
theorem fc12_rec : (Rows.groupOrbitsRow.recurses == Tryz.prog.recurses 12) = true := by kernel_rfl
theorem fc12_named : (Rows.groupOrbitsRow.named == Tryz.prog.varsNamed 12) = true := by kernel_rfl
theorem fc12_goes : false = Rows.groupOrbitsRow.goesBy Tryz.prog := by kernel_rfl
theorem fc12_wf : Rows.groupOrbitsRow.wf (OpenSpec.ofChange Rows.groupOrbitsSpec) = true := by kernel_rfl
theorem fc12_wfT : Rows.groupOrbitsRow.wfByText (OpenSpec.ofChange Rows.groupOrbitsSpec) = true := by kernel_rfl
theorem fc12_tie : namedTie Tryz.prog Rows.groupOrbitsRow.named Rows.groupOrbitsSpec.vars = true := by kernel_rfl
end Go.Proofs.YtkjkjpmahgeneaaGreatDoor
