import Derived.Test.YtfgpjkchdelphaaGreatDoorCards
import Derived.JoinedOf
import Derived.SevenTiedAt
set_option linter.unusedSimpArgs false
set_option linter.unusedVariables false
namespace Go.Proofs.YtfgpjkchdelphaaGreatDoor
open Go
set_option maxRecDepth 100000
theorem fc4_inp:(Rows.linesBasisRow.inPlace==Tryz.prog.inPlace 4)=true:=by kernel_rfl
theorem fc4_unf:(Rows.linesBasisRow.unfollowed==Tryz.prog.unfollowed 4)=true:=by kernel_rfl
theorem fc4_rec:(Rows.linesBasisRow.recurses==Tryz.prog.recurses 4)=true:=by kernel_rfl
theorem fc4_named:(Rows.linesBasisRow.named==Tryz.prog.varsNamed 4)=true:=by kernel_rfl
theorem fc4_goes:false=Rows.linesBasisRow.goesBy Tryz.prog:=by kernel_rfl
theorem fc4_wf:Rows.linesBasisRow.wf (OpenSpec.ofChange Rows.linesBasisSpec)=true:=by kernel_rfl
theorem fc4_wfT:Rows.linesBasisRow.wfByText (OpenSpec.ofChange Rows.linesBasisSpec)=true:=by kernel_rfl
theorem fc4_tie:namedTie Tryz.prog Rows.linesBasisRow.named Rows.linesBasisSpec.vars=true:=by kernel_rfl
end Go.Proofs.YtfgpjkchdelphaaGreatDoor
