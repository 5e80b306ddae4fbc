import Derived.Test.YtdclaaahnodljaaGreatDoorCards
import Derived.JoinedOf
import Derived.SevenTiedAt
set_option linter.unusedSimpArgs false
set_option linter.unusedVariables false
namespace Go.Proofs.YtdclaaahnodljaaGreatDoor
open Go
set_option maxRecDepth 100000
theorem fc4_inp:(Rows.topImagesRow.inPlace==Tryz.prog.inPlace 4)=true:=by kernel_rfl
theorem fc4_unf:(Rows.topImagesRow.unfollowed==Tryz.prog.unfollowed 4)=true:=by kernel_rfl
theorem fc4_rec:(Rows.topImagesRow.recurses==Tryz.prog.recurses 4)=true:=by kernel_rfl
theorem fc4_named:(Rows.topImagesRow.named==Tryz.prog.varsNamed 4)=true:=by kernel_rfl
theorem fc4_goes:false=Rows.topImagesRow.goesBy Tryz.prog:=by kernel_rfl
theorem fc4_wf:Rows.topImagesRow.wf (OpenSpec.ofChange Rows.topImagesSpec)=true:=by kernel_rfl
theorem fc4_wfT:Rows.topImagesRow.wfByText (OpenSpec.ofChange Rows.topImagesSpec)=true:=by kernel_rfl
theorem fc4_tie:namedTie Tryz.prog Rows.topImagesRow.named Rows.topImagesSpec.vars=true:=by kernel_rfl
end Go.Proofs.YtdclaaahnodljaaGreatDoor
