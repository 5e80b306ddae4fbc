import Derived.Test.YtfgpjkchdelphaaGreatDoorCards
import Derived.JoinedOf
import Derived.SevenTiedAt
set_option linter.unusedSimpArgs false
set_option linter.unusedVariables false
namespace Go.Proofs.YtfgpjkchdelphaaGreatDoor
open Go
set_option maxRecDepth 100000
theorem fc9_inp:(Rows.linesComplementsRow.inPlace==Tryz.prog.inPlace 9)=true:=by kernel_rfl
theorem fc9_unf:(Rows.linesComplementsRow.unfollowed==Tryz.prog.unfollowed 9)=true:=by kernel_rfl
theorem fc9_rec:(Rows.linesComplementsRow.recurses==Tryz.prog.recurses 9)=true:=by kernel_rfl
theorem fc9_named:(Rows.linesComplementsRow.named==Tryz.prog.varsNamed 9)=true:=by kernel_rfl
theorem fc9_goes:false=Rows.linesComplementsRow.goesBy Tryz.prog:=by kernel_rfl
theorem fc9_wf:Rows.linesComplementsRow.wf (OpenSpec.ofChange Rows.linesComplementsSpec)=true:=by kernel_rfl
theorem fc9_wfT:Rows.linesComplementsRow.wfByText (OpenSpec.ofChange Rows.linesComplementsSpec)=true:=by kernel_rfl
theorem fc9_tie:namedTie Tryz.prog Rows.linesComplementsRow.named Rows.linesComplementsSpec.vars=true:=by kernel_rfl
end Go.Proofs.YtfgpjkchdelphaaGreatDoor
