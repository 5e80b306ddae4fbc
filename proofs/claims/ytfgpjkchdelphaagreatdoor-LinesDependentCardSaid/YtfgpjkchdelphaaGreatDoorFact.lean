import Derived.Test.YtfgpjkchdelphaaGreatDoorCards
import Derived.JoinedOf
import Derived.SevenTiedAt
set_option linter.unusedSimpArgs false
set_option linter.unusedVariables false
namespace Go.Proofs.YtfgpjkchdelphaaGreatDoor
open Go
set_option maxRecDepth 100000
theorem fc5_inp:(Rows.linesDependentRow.inPlace==Tryz.prog.inPlace 5)=true:=by kernel_rfl
theorem fc5_unf:(Rows.linesDependentRow.unfollowed==Tryz.prog.unfollowed 5)=true:=by kernel_rfl
theorem fc5_rec:(Rows.linesDependentRow.recurses==Tryz.prog.recurses 5)=true:=by kernel_rfl
theorem fc5_named:(Rows.linesDependentRow.named==Tryz.prog.varsNamed 5)=true:=by kernel_rfl
theorem fc5_goes:false=Rows.linesDependentRow.goesBy Tryz.prog:=by kernel_rfl
theorem fc5_wf:Rows.linesDependentRow.wf (OpenSpec.ofChange Rows.linesDependentSpec)=true:=by kernel_rfl
theorem fc5_wfT:Rows.linesDependentRow.wfByText (OpenSpec.ofChange Rows.linesDependentSpec)=true:=by kernel_rfl
theorem fc5_tie:namedTie Tryz.prog Rows.linesDependentRow.named Rows.linesDependentSpec.vars=true:=by kernel_rfl
end Go.Proofs.YtfgpjkchdelphaaGreatDoor
