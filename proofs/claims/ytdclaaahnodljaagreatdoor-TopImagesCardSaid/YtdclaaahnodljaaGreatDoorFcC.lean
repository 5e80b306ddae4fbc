import Derived.Test.YtdclaaahnodljaaGreatDoorCards
import Derived.JoinedOf
import Derived.SevenTiedAt
set_option linter.unusedSimpArgs false
set_option linter.unusedVariables false
namespace Go.Proofs.YtdclaaahnodljaaGreatDoor
open Go
set_option maxRecDepth 100000
theorem zt6:(Tryz.prog.make==some Rows.topCharmLabelsRow.make)=true:=by kernel_rfl
end Go.Proofs.YtdclaaahnodljaaGreatDoor
