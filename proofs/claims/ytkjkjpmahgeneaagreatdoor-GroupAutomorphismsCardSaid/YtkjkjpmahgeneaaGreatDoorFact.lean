import Derived.Test.YtkjkjpmahgeneaaGreatDoorCards
import Derived.JoinedOf
import Derived.SevenTiedAt
set_option linter.unusedSimpArgs false
set_option linter.unusedVariables false
namespace Go.Proofs.YtkjkjpmahgeneaaGreatDoor
open Go
set_option maxRecDepth 100000
theorem fc5_inp:(Rows.groupAutomorphismsRow.inPlace==Tryz.prog.inPlace 5)=true:=by kernel_rfl
theorem fc5_unf:(Rows.groupAutomorphismsRow.unfollowed==Tryz.prog.unfollowed 5)=true:=by kernel_rfl
theorem fc5_rec:(Rows.groupAutomorphismsRow.recurses==Tryz.prog.recurses 5)=true:=by kernel_rfl
theorem fc5_named:(Rows.groupAutomorphismsRow.named==Tryz.prog.varsNamed 5)=true:=by kernel_rfl
theorem fc5_goes:false=Rows.groupAutomorphismsRow.goesBy Tryz.prog:=by kernel_rfl
theorem fc5_wf:Rows.groupAutomorphismsRow.wf (OpenSpec.ofChange Rows.groupAutomorphismsSpec)=true:=by kernel_rfl
theorem fc5_wfT:Rows.groupAutomorphismsRow.wfByText (OpenSpec.ofChange Rows.groupAutomorphismsSpec)=true:=by kernel_rfl
theorem fc5_tie:namedTie Tryz.prog Rows.groupAutomorphismsRow.named Rows.groupAutomorphismsSpec.vars=true:=by kernel_rfl
end Go.Proofs.YtkjkjpmahgeneaaGreatDoor
