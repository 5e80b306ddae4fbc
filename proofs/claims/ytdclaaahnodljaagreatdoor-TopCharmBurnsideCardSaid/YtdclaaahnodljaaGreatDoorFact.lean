import Derived.Test.YtdclaaahnodljaaGreatDoorCards
import Derived.JoinedOf
import Derived.SevenTiedAt
set_option linter.unusedSimpArgs false
set_option linter.unusedVariables false
namespace Go.Proofs.YtdclaaahnodljaaGreatDoor
open Go
set_option maxRecDepth 100000
theorem fc6_inp:(Rows.topCharmBurnsideRow.inPlace==Tryz.prog.inPlace 6)=true:=by kernel_rfl
theorem fc6_unf:(Rows.topCharmBurnsideRow.unfollowed==Tryz.prog.unfollowed 6)=true:=by kernel_rfl
theorem fc6_rec:(Rows.topCharmBurnsideRow.recurses==Tryz.prog.recurses 6)=true:=by kernel_rfl
theorem fc6_named:(Rows.topCharmBurnsideRow.named==Tryz.prog.varsNamed 6)=true:=by kernel_rfl
theorem fc6_goes:false=Rows.topCharmBurnsideRow.goesBy Tryz.prog:=by kernel_rfl
theorem fc6_wf:Rows.topCharmBurnsideRow.wf (OpenSpec.ofChange Rows.topCharmBurnsideSpec)=true:=by kernel_rfl
theorem fc6_wfT:Rows.topCharmBurnsideRow.wfByText (OpenSpec.ofChange Rows.topCharmBurnsideSpec)=true:=by kernel_rfl
theorem fc6_tie:namedTie Tryz.prog Rows.topCharmBurnsideRow.named Rows.topCharmBurnsideSpec.vars=true:=by kernel_rfl
end Go.Proofs.YtdclaaahnodljaaGreatDoor
