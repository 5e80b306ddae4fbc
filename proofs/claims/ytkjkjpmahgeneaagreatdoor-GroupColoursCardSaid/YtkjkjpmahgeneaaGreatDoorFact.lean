import Derived.Test.YtkjkjpmahgeneaaGreatDoorCards
import Derived.JoinedOf
import Derived.SevenTiedAt
set_option linter.unusedSimpArgs false
set_option linter.unusedVariables false
namespace Go.Proofs.YtkjkjpmahgeneaaGreatDoor
open Go
set_option maxRecDepth 100000
theorem fc8_inp:(Rows.groupColoursRow.inPlace==Tryz.prog.inPlace 8)=true:=by kernel_rfl
theorem fc8_unf:(Rows.groupColoursRow.unfollowed==Tryz.prog.unfollowed 8)=true:=by kernel_rfl
theorem fc8_rec:(Rows.groupColoursRow.recurses==Tryz.prog.recurses 8)=true:=by kernel_rfl
theorem fc8_named:(Rows.groupColoursRow.named==Tryz.prog.varsNamed 8)=true:=by kernel_rfl
theorem fc8_goes:false=Rows.groupColoursRow.goesBy Tryz.prog:=by kernel_rfl
theorem fc8_wf:Rows.groupColoursRow.wf (OpenSpec.ofChange Rows.groupColoursSpec)=true:=by kernel_rfl
theorem fc8_wfT:Rows.groupColoursRow.wfByText (OpenSpec.ofChange Rows.groupColoursSpec)=true:=by kernel_rfl
theorem fc8_tie:namedTie Tryz.prog Rows.groupColoursRow.named Rows.groupColoursSpec.vars=true:=by kernel_rfl
end Go.Proofs.YtkjkjpmahgeneaaGreatDoor
