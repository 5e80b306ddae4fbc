import Derived.Test.YtfgpjkchdelphaaGreatDoorCards
import Derived.JoinedOf
import Derived.SevenTiedAt
set_option linter.unusedSimpArgs false
set_option linter.unusedVariables false
namespace Go.Proofs.YtfgpjkchdelphaaGreatDoor
open Go
set_option maxRecDepth 100000
theorem fc13_inp:(Rows.linesKindsRow.inPlace==Tryz.prog.inPlace 13)=true:=by kernel_rfl
theorem fc13_unf:(Rows.linesKindsRow.unfollowed==Tryz.prog.unfollowed 13)=true:=by kernel_rfl
theorem fc13_rec:(Rows.linesKindsRow.recurses==Tryz.prog.recurses 13)=true:=by kernel_rfl
theorem fc13_named:(Rows.linesKindsRow.named==Tryz.prog.varsNamed 13)=true:=by kernel_rfl
theorem fc13_goes:false=Rows.linesKindsRow.goesBy Tryz.prog:=by kernel_rfl
theorem fc13_wf:Rows.linesKindsRow.wf (OpenSpec.ofChange Rows.linesKindsSpec)=true:=by kernel_rfl
theorem fc13_wfT:Rows.linesKindsRow.wfByText (OpenSpec.ofChange Rows.linesKindsSpec)=true:=by kernel_rfl
theorem fc13_tie:namedTie Tryz.prog Rows.linesKindsRow.named Rows.linesKindsSpec.vars=true:=by kernel_rfl
end Go.Proofs.YtfgpjkchdelphaaGreatDoor
