import Derived.Test.YtlfhlkknakiafaaGreatDoorCards
import Derived.JoinedOf
import Derived.SevenTiedAt
set_option linter.unusedSimpArgs false
set_option linter.unusedVariables false
namespace Go.Proofs.YtlfhlkknakiafaaGreatDoor
open Go
set_option maxRecDepth 100000
theorem zu5:(false==Tryz.prog.liftsFinal)=true:=by kernel_rfl
end Go.Proofs.YtlfhlkknakiafaaGreatDoor
