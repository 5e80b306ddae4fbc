import Derived.Test.YtkjkjpmahgeneaaGreatDoorCards
import Derived.JoinedOf
import Derived.SevenTiedAt
set_option linter.unusedSimpArgs false
set_option linter.unusedVariables false
namespace Go.Proofs.YtkjkjpmahgeneaaGreatDoor
open Go
set_option maxRecDepth 100000
theorem fc14_inp : (Rows.groupActsRow.inPlace == Tryz.prog.inPlace 14) = true := by kernel_rfl
theorem fc14_unf : (Rows.groupActsRow.unfollowed == Tryz.prog.unfollowed 14) = true := by kernel_rfl
theorem fc14_rec : (Rows.groupActsRow.recurses == Tryz.prog.recurses 14) = true := by kernel_rfl
theorem fc14_named : (Rows.groupActsRow.named == Tryz.prog.varsNamed 14) = true := by kernel_rfl
theorem fc14_goes : false = Rows.groupActsRow.goesBy Tryz.prog := by kernel_rfl
theorem fc14_wf : Rows.groupActsRow.wf (OpenSpec.ofChange Rows.groupActsSpec) = true := by kernel_rfl
theorem fc14_wfT : Rows.groupActsRow.wfByText (OpenSpec.ofChange Rows.groupActsSpec) = true := by kernel_rfl
theorem fc14_tie : namedTie Tryz.prog Rows.groupActsRow.named Rows.groupActsSpec.vars = true := by kernel_rfl
end Go.Proofs.YtkjkjpmahgeneaaGreatDoor
