import Derived.Test.YtdclaaahnodljaaGreatDoorCards
import Derived.JoinedOf
import Derived.SevenTiedAt
set_option linter.unusedSimpArgs false
set_option linter.unusedVariables false
namespace Go.Proofs.YtdclaaahnodljaaGreatDoor
open Go
set_option maxRecDepth 100000
theorem fc5_inp:(Rows.topShiftedRow.inPlace==Tryz.prog.inPlace 5)=true:=by kernel_rfl
theorem fc5_unf:(Rows.topShiftedRow.unfollowed==Tryz.prog.unfollowed 5)=true:=by kernel_rfl
theorem fc5_rec:(Rows.topShiftedRow.recurses==Tryz.prog.recurses 5)=true:=by kernel_rfl
theorem fc5_named:(Rows.topShiftedRow.named==Tryz.prog.varsNamed 5)=true:=by kernel_rfl
theorem fc5_goes:false=Rows.topShiftedRow.goesBy Tryz.prog:=by kernel_rfl
theorem fc5_wf:Rows.topShiftedRow.wf (OpenSpec.ofChange Rows.topShiftedSpec)=true:=by kernel_rfl
theorem fc5_wfT:Rows.topShiftedRow.wfByText (OpenSpec.ofChange Rows.topShiftedSpec)=true:=by kernel_rfl
theorem fc5_tie:namedTie Tryz.prog Rows.topShiftedRow.named Rows.topShiftedSpec.vars=true:=by kernel_rfl
end Go.Proofs.YtdclaaahnodljaaGreatDoor
