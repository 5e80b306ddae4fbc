import Derived.Test.YtdclaaahnodljaaGreatDoorCards
import Derived.JoinedOf
import Derived.SevenTiedAt
set_option linter.unusedSimpArgs false
set_option linter.unusedVariables false
namespace Go.Proofs.YtdclaaahnodljaaGreatDoor
open Go
set_option maxRecDepth 100000
theorem zt7:laidOutB Tryz.prog=true:=by kernel_rfl
theorem zt8:mapsRowed Tryz.prog=true:=by kernel_rfl
theorem zpa:(Tryz.prog.stops==[])=true:=by kernel_rfl
theorem zpb:(Tryz.prog.stopKnobs==[])=true:=by kernel_rfl
theorem zpc:Tryz.prog.stopsHeard=true:=by kernel_rfl
theorem zt9:(true==Tryz.prog.plainKeys)=true:=by kernel_rfl
theorem zua:Tryz.prog.mainIs=some (true, "608fc5b6fd7369ebd95c868e2fd6f861134af690bc3705ffe8cabed3f1899156".toList):=by kernel_rfl
theorem zpd:false=Tryz.prog.looks []:=by kernel_rfl
end Go.Proofs.YtdclaaahnodljaaGreatDoor
