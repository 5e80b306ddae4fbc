import Derived.Test.YtkjkjpmahgeneaaGreatDoorCards
import Derived.JoinedOf
import Derived.SevenTiedAt
set_option linter.unusedSimpArgs false
set_option linter.unusedVariables false
namespace Go.Proofs.YtkjkjpmahgeneaaGreatDoor
open Go
set_option maxRecDepth 100000
theorem fc9_inp:(Rows.groupSymmetriesRow.inPlace==Tryz.prog.inPlace 9)=true:=by kernel_rfl
theorem fc9_unf:(Rows.groupSymmetriesRow.unfollowed==Tryz.prog.unfollowed 9)=true:=by kernel_rfl
theorem fc9_rec:(Rows.groupSymmetriesRow.recurses==Tryz.prog.recurses 9)=true:=by kernel_rfl
theorem fc9_named:(Rows.groupSymmetriesRow.named==Tryz.prog.varsNamed 9)=true:=by kernel_rfl
theorem fc9_goes:false=Rows.groupSymmetriesRow.goesBy Tryz.prog:=by kernel_rfl
theorem fc9_wf:Rows.groupSymmetriesRow.wf (OpenSpec.ofChange Rows.groupSymmetriesSpec)=true:=by kernel_rfl
theorem fc9_wfT:Rows.groupSymmetriesRow.wfByText (OpenSpec.ofChange Rows.groupSymmetriesSpec)=true:=by kernel_rfl
theorem fc9_tie:namedTie Tryz.prog Rows.groupSymmetriesRow.named Rows.groupSymmetriesSpec.vars=true:=by kernel_rfl
end Go.Proofs.YtkjkjpmahgeneaaGreatDoor
