import Derived.Test.YtepfaegpjddehaaGreatDoorCards
import Derived.JoinedOf
import Derived.SevenTiedAt
set_option linter.unusedSimpArgs false
set_option linter.unusedVariables false
namespace Go.Proofs.YtepfaegpjddehaaGreatDoor
open Go
set_option maxRecDepth 100000
theorem fc14_inp : (Rows.countBurnsideRow.inPlace == Tryz.prog.inPlace 14) = true := by kernel_rfl
theorem fc14_unf : (Rows.countBurnsideRow.unfollowed == Tryz.prog.unfollowed 14) = true := by kernel_rfl
theorem fc14_rec : (Rows.countBurnsideRow.recurses == Tryz.prog.recurses 14) = true := by kernel_rfl
theorem fc14_named : (Rows.countBurnsideRow.named == Tryz.prog.varsNamed 14) = true := by kernel_rfl
theorem fc14_goes : false = Rows.countBurnsideRow.goesBy Tryz.prog := by kernel_rfl
theorem fc14_wf : Rows.countBurnsideRow.wf (OpenSpec.ofChange Rows.countBurnsideSpec) = true := by kernel_rfl
theorem fc14_wfT : Rows.countBurnsideRow.wfByText (OpenSpec.ofChange Rows.countBurnsideSpec) = true := by kernel_rfl
theorem fc14_tie : namedTie Tryz.prog Rows.countBurnsideRow.named Rows.countBurnsideSpec.vars = true := by kernel_rfl
end Go.Proofs.YtepfaegpjddehaaGreatDoor
