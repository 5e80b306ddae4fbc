import Derived.Test.YtkjkjpmahgeneaaGreatDoorCards
import Derived.JoinedOf
import Derived.SevenTiedAt
set_option linter.unusedSimpArgs false
set_option linter.unusedVariables false
namespace Go.Proofs.YtkjkjpmahgeneaaGreatDoor
open Go
set_option maxRecDepth 100000
theorem fc10_inp:(Rows.groupSquaresRow.inPlace==Tryz.prog.inPlace 10)=true:=by kernel_rfl
theorem fc10_unf:(Rows.groupSquaresRow.unfollowed==Tryz.prog.unfollowed 10)=true:=by kernel_rfl
theorem fc10_rec:(Rows.groupSquaresRow.recurses==Tryz.prog.recurses 10)=true:=by kernel_rfl
theorem fc10_named:(Rows.groupSquaresRow.named==Tryz.prog.varsNamed 10)=true:=by kernel_rfl
theorem fc10_goes:false=Rows.groupSquaresRow.goesBy Tryz.prog:=by kernel_rfl
theorem fc10_wf:Rows.groupSquaresRow.wf (OpenSpec.ofChange Rows.groupSquaresSpec)=true:=by kernel_rfl
theorem fc10_wfT:Rows.groupSquaresRow.wfByText (OpenSpec.ofChange Rows.groupSquaresSpec)=true:=by kernel_rfl
theorem fc10_tie:namedTie Tryz.prog Rows.groupSquaresRow.named Rows.groupSquaresSpec.vars=true:=by kernel_rfl
end Go.Proofs.YtkjkjpmahgeneaaGreatDoor
