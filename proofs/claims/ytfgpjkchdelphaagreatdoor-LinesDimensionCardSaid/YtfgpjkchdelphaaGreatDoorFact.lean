import Derived.Test.YtfgpjkchdelphaaGreatDoorCards
import Derived.JoinedOf
import Derived.SevenTiedAt
set_option linter.unusedSimpArgs false
set_option linter.unusedVariables false
namespace Go.Proofs.YtfgpjkchdelphaaGreatDoor
open Go
set_option maxRecDepth 100000
theorem fc8_inp:(Rows.linesDimensionRow.inPlace==Tryz.prog.inPlace 8)=true:=by kernel_rfl
theorem fc8_unf:(Rows.linesDimensionRow.unfollowed==Tryz.prog.unfollowed 8)=true:=by kernel_rfl
theorem fc8_rec:(Rows.linesDimensionRow.recurses==Tryz.prog.recurses 8)=true:=by kernel_rfl
theorem fc8_named:(Rows.linesDimensionRow.named==Tryz.prog.varsNamed 8)=true:=by kernel_rfl
theorem fc8_goes:false=Rows.linesDimensionRow.goesBy Tryz.prog:=by kernel_rfl
theorem fc8_wf:Rows.linesDimensionRow.wf (OpenSpec.ofChange Rows.linesDimensionSpec)=true:=by kernel_rfl
theorem fc8_wfT:Rows.linesDimensionRow.wfByText (OpenSpec.ofChange Rows.linesDimensionSpec)=true:=by kernel_rfl
theorem fc8_tie:namedTie Tryz.prog Rows.linesDimensionRow.named Rows.linesDimensionSpec.vars=true:=by kernel_rfl
end Go.Proofs.YtfgpjkchdelphaaGreatDoor
