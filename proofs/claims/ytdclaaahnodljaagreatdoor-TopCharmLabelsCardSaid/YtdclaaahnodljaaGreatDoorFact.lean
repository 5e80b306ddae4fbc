import Derived.Test.YtdclaaahnodljaaGreatDoorCards
import Derived.JoinedOf
import Derived.SevenTiedAt
set_option linter.unusedSimpArgs false
set_option linter.unusedVariables false
namespace Go.Proofs.YtdclaaahnodljaaGreatDoor
open Go
set_option maxRecDepth 100000
theorem fc3_inp:(Rows.topCharmLabelsRow.inPlace==Tryz.prog.inPlace 3)=true:=by kernel_rfl
theorem fc3_unf:(Rows.topCharmLabelsRow.unfollowed==Tryz.prog.unfollowed 3)=true:=by kernel_rfl
theorem fc3_rec:(Rows.topCharmLabelsRow.recurses==Tryz.prog.recurses 3)=true:=by kernel_rfl
theorem fc3_named:(Rows.topCharmLabelsRow.named==Tryz.prog.varsNamed 3)=true:=by kernel_rfl
theorem fc3_goes:false=Rows.topCharmLabelsRow.goesBy Tryz.prog:=by kernel_rfl
theorem fc3_wf:Rows.topCharmLabelsRow.wf (OpenSpec.ofChange Rows.topCharmLabelsSpec)=true:=by kernel_rfl
theorem fc3_wfT:Rows.topCharmLabelsRow.wfByText (OpenSpec.ofChange Rows.topCharmLabelsSpec)=true:=by kernel_rfl
theorem fc3_tie:namedTie Tryz.prog Rows.topCharmLabelsRow.named Rows.topCharmLabelsSpec.vars=true:=by kernel_rfl
end Go.Proofs.YtdclaaahnodljaaGreatDoor
