import Derived.Test.YtfgpjkchdelphaaGreatDoorCards
import Derived.JoinedOf
import Derived.SevenTiedAt
set_option linter.unusedSimpArgs false
set_option linter.unusedVariables false
namespace Go.Proofs.YtfgpjkchdelphaaGreatDoor
open Go
set_option maxRecDepth 100000
theorem fc7_inp:(Rows.linesSpanRow.inPlace==Tryz.prog.inPlace 7)=true:=by kernel_rfl
theorem fc7_unf:(Rows.linesSpanRow.unfollowed==Tryz.prog.unfollowed 7)=true:=by kernel_rfl
theorem fc7_rec:(Rows.linesSpanRow.recurses==Tryz.prog.recurses 7)=true:=by kernel_rfl
theorem fc7_named:(Rows.linesSpanRow.named==Tryz.prog.varsNamed 7)=true:=by kernel_rfl
theorem fc7_goes:false=Rows.linesSpanRow.goesBy Tryz.prog:=by kernel_rfl
theorem fc7_wf:Rows.linesSpanRow.wf (OpenSpec.ofChange Rows.linesSpanSpec)=true:=by kernel_rfl
theorem fc7_wfT:Rows.linesSpanRow.wfByText (OpenSpec.ofChange Rows.linesSpanSpec)=true:=by kernel_rfl
theorem fc7_tie:namedTie Tryz.prog Rows.linesSpanRow.named Rows.linesSpanSpec.vars=true:=by kernel_rfl
end Go.Proofs.YtfgpjkchdelphaaGreatDoor
