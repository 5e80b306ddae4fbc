import Derived.Test.YtfgpjkchdelphaaGreatDoorCards
import Derived.JoinedOf
import Derived.SevenTiedAt
set_option linter.unusedSimpArgs false
set_option linter.unusedVariables false
namespace Go.Proofs.YtfgpjkchdelphaaGreatDoor
open Go
set_option maxRecDepth 100000
theorem fc14_inp : (Rows.linesSystemsRow.inPlace == Tryz.prog.inPlace 14) = true := by kernel_rfl
theorem fc14_unf : (Rows.linesSystemsRow.unfollowed == Tryz.prog.unfollowed 14) = true := by kernel_rfl
theorem fc14_rec : (Rows.linesSystemsRow.recurses == Tryz.prog.recurses 14) = true := by kernel_rfl
theorem fc14_named : (Rows.linesSystemsRow.named == Tryz.prog.varsNamed 14) = true := by kernel_rfl
theorem fc14_goes : false = Rows.linesSystemsRow.goesBy Tryz.prog := by kernel_rfl
theorem fc14_wf : Rows.linesSystemsRow.wf (OpenSpec.ofChange Rows.linesSystemsSpec) = true := by kernel_rfl
theorem fc14_wfT : Rows.linesSystemsRow.wfByText (OpenSpec.ofChange Rows.linesSystemsSpec) = true := by kernel_rfl
theorem fc14_tie : namedTie Tryz.prog Rows.linesSystemsRow.named Rows.linesSystemsSpec.vars = true := by kernel_rfl
end Go.Proofs.YtfgpjkchdelphaaGreatDoor
