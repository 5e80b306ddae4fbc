import Derived.Test.YtbghckepkajplabGreatDoorCards
import Derived.JoinedOf
import Derived.SevenTiedAt
set_option linter.unusedSimpArgs false
set_option linter.unusedVariables false
namespace Go.Proofs.YtbghckepkajplabGreatDoor
open Go
set_option maxRecDepth 100000
theorem zu0:(false==Tryz.prog.liftsFinal)=true:=by kernel_rfl
end Go.Proofs.YtbghckepkajplabGreatDoor
