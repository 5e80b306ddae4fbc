import Derived.Test.YtlfhlkknakiafaaGreatDoorCards
import Derived.JoinedOf
import Derived.SevenTiedAt
set_option linter.unusedSimpArgs false
set_option linter.unusedVariables false
namespace Go.Proofs.YtlfhlkknakiafaaGreatDoor
open Go
set_option maxRecDepth 100000
theorem fc4_inp:(Rows.topLoomOrdersRow.inPlace==Tryz.prog.inPlace 4)=true:=by kernel_rfl
theorem fc4_unf:(Rows.topLoomOrdersRow.unfollowed==Tryz.prog.unfollowed 4)=true:=by kernel_rfl
theorem fc4_rec:(Rows.topLoomOrdersRow.recurses==Tryz.prog.recurses 4)=true:=by kernel_rfl
theorem fc4_named:(Rows.topLoomOrdersRow.named==Tryz.prog.varsNamed 4)=true:=by kernel_rfl
theorem fc4_goes:false=Rows.topLoomOrdersRow.goesBy Tryz.prog:=by kernel_rfl
theorem fc4_wf:Rows.topLoomOrdersRow.wf (OpenSpec.ofChange Rows.topLoomOrdersSpec)=true:=by kernel_rfl
theorem fc4_wfT:Rows.topLoomOrdersRow.wfByText (OpenSpec.ofChange Rows.topLoomOrdersSpec)=true:=by kernel_rfl
theorem fc4_tie:namedTie Tryz.prog Rows.topLoomOrdersRow.named Rows.topLoomOrdersSpec.vars=true:=by kernel_rfl
end Go.Proofs.YtlfhlkknakiafaaGreatDoor
