import Derived.Test.YtfgpjkchdelphaaGreatDoorCards
import Derived.JoinedOf
import Derived.SevenTiedAt
set_option linter.unusedSimpArgs false
set_option linter.unusedVariables false
namespace Go.Proofs.YtfgpjkchdelphaaGreatDoor
open Go
set_option maxRecDepth 100000
theorem fc6_inp:(Rows.linesConstantRow.inPlace==Tryz.prog.inPlace 6)=true:=by kernel_rfl
theorem fc6_unf:(Rows.linesConstantRow.unfollowed==Tryz.prog.unfollowed 6)=true:=by kernel_rfl
theorem fc6_rec:(Rows.linesConstantRow.recurses==Tryz.prog.recurses 6)=true:=by kernel_rfl
theorem fc6_named:(Rows.linesConstantRow.named==Tryz.prog.varsNamed 6)=true:=by kernel_rfl
theorem fc6_goes:false=Rows.linesConstantRow.goesBy Tryz.prog:=by kernel_rfl
theorem fc6_wf:Rows.linesConstantRow.wf (OpenSpec.ofChange Rows.linesConstantSpec)=true:=by kernel_rfl
theorem fc6_wfT:Rows.linesConstantRow.wfByText (OpenSpec.ofChange Rows.linesConstantSpec)=true:=by kernel_rfl
theorem fc6_tie:namedTie Tryz.prog Rows.linesConstantRow.named Rows.linesConstantSpec.vars=true:=by kernel_rfl
end Go.Proofs.YtfgpjkchdelphaaGreatDoor
