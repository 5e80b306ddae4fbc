import Derived.Test.YtbghckepkajplabGreatDoorCards
import Derived.JoinedOf
import Derived.SevenTiedAt
set_option linter.unusedSimpArgs false
set_option linter.unusedVariables false
namespace Go.Proofs.YtbghckepkajplabGreatDoor
open Go
set_option maxRecDepth 100000
theorem zu3:laidOutB Tryz.prog=true:=by kernel_rfl
theorem zu4:mapsRowed Tryz.prog=true:=by kernel_rfl
theorem zrb:(Tryz.prog.stops==[])=true:=by kernel_rfl
theorem zrc:(Tryz.prog.stopKnobs==[])=true:=by kernel_rfl
theorem zrd:Tryz.prog.stopsHeard=true:=by kernel_rfl
theorem zu5:(true==Tryz.prog.plainKeys)=true:=by kernel_rfl
theorem zu6:Tryz.prog.mainIs=some (true, "a1b0eaec1afd78988894637db396427bd826e19b9063aad626341e567672ecd4".toList):=by kernel_rfl
theorem zre:false=Tryz.prog.looks []:=by kernel_rfl
end Go.Proofs.YtbghckepkajplabGreatDoor
