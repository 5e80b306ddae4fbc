import Derived.Test.YtbghckepkajplabGreatDoorCards
import Derived.JoinedOf
import Derived.SevenTiedAt
set_option linter.unusedSimpArgs false
set_option linter.unusedVariables false
namespace Go.Proofs.YtbghckepkajplabGreatDoor
open Go
set_option maxRecDepth 100000
theorem fc3_inp:(Rows.topSpanKeptRow.inPlace==Tryz.prog.inPlace 3)=true:=by kernel_rfl
theorem fc3_unf:(Rows.topSpanKeptRow.unfollowed==Tryz.prog.unfollowed 3)=true:=by kernel_rfl
theorem fc3_rec:(Rows.topSpanKeptRow.recurses==Tryz.prog.recurses 3)=true:=by kernel_rfl
theorem fc3_named:(Rows.topSpanKeptRow.named==Tryz.prog.varsNamed 3)=true:=by kernel_rfl
theorem fc3_goes:false=Rows.topSpanKeptRow.goesBy Tryz.prog:=by kernel_rfl
theorem fc3_wf:Rows.topSpanKeptRow.wf (OpenSpec.ofChange Rows.topSpanKeptSpec)=true:=by kernel_rfl
theorem fc3_wfT:Rows.topSpanKeptRow.wfByText (OpenSpec.ofChange Rows.topSpanKeptSpec)=true:=by kernel_rfl
theorem fc3_tie:namedTie Tryz.prog Rows.topSpanKeptRow.named Rows.topSpanKeptSpec.vars=true:=by kernel_rfl
end Go.Proofs.YtbghckepkajplabGreatDoor
