import Derived.Test.YtkjkjpmahgeneaaGreatDoorCards
import Derived.JoinedOf
import Derived.SevenTiedAt
set_option linter.unusedSimpArgs false
set_option linter.unusedVariables false
namespace Go.Proofs.YtkjkjpmahgeneaaGreatDoor
open Go
set_option maxRecDepth 100000
theorem fc15_inp:(Rows.groupSystemsRow.inPlace==Tryz.prog.inPlace 15)=true:=by kernel_rfl
theorem fc15_unf:(Rows.groupSystemsRow.unfollowed==Tryz.prog.unfollowed 15)=true:=by kernel_rfl
theorem fc15_rec:(Rows.groupSystemsRow.recurses==Tryz.prog.recurses 15)=true:=by kernel_rfl
theorem fc15_named:(Rows.groupSystemsRow.named==Tryz.prog.varsNamed 15)=true:=by kernel_rfl
theorem fc15_goes:false=Rows.groupSystemsRow.goesBy Tryz.prog:=by kernel_rfl
theorem fc15_wf:Rows.groupSystemsRow.wf (OpenSpec.ofChange Rows.groupSystemsSpec)=true:=by kernel_rfl
theorem fc15_wfT:Rows.groupSystemsRow.wfByText (OpenSpec.ofChange Rows.groupSystemsSpec)=true:=by kernel_rfl
theorem fc15_tie:namedTie Tryz.prog Rows.groupSystemsRow.named Rows.groupSystemsSpec.vars=true:=by kernel_rfl
end Go.Proofs.YtkjkjpmahgeneaaGreatDoor
