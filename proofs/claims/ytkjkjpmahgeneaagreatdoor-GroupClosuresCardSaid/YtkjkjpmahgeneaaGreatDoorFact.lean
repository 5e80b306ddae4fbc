import Derived.Test.YtkjkjpmahgeneaaGreatDoorCards
import Derived.JoinedOf
import Derived.SevenTiedAt
set_option linter.unusedSimpArgs false
set_option linter.unusedVariables false
namespace Go.Proofs.YtkjkjpmahgeneaaGreatDoor
open Go
set_option maxRecDepth 100000
theorem fc4_inp : (Rows.groupClosuresRow.inPlace == Tryz.prog.inPlace 4) = true := by kernel_rfl
theorem fc4_unf : (Rows.groupClosuresRow.unfollowed == Tryz.prog.unfollowed 4) = true := by kernel_rfl
theorem fc4_rec : (Rows.groupClosuresRow.recurses == Tryz.prog.recurses 4) = true := by kernel_rfl
theorem fc4_named : (Rows.groupClosuresRow.named == Tryz.prog.varsNamed 4) = true := by kernel_rfl
theorem fc4_goes : false = Rows.groupClosuresRow.goesBy Tryz.prog := by kernel_rfl
theorem fc4_wf : Rows.groupClosuresRow.wf (OpenSpec.ofChange Rows.groupClosuresSpec) = true := by kernel_rfl
theorem fc4_wfT : Rows.groupClosuresRow.wfByText (OpenSpec.ofChange Rows.groupClosuresSpec) = true := by kernel_rfl
theorem fc4_tie : namedTie Tryz.prog Rows.groupClosuresRow.named Rows.groupClosuresSpec.vars = true := by kernel_rfl
end Go.Proofs.YtkjkjpmahgeneaaGreatDoor
