import Derived.Test.YtdclaaahnodljaaGreatDoorCards
import Derived.JoinedOf
import Derived.SevenTiedAt
set_option linter.unusedSimpArgs false
set_option linter.unusedVariables false
namespace Go.Proofs.YtdclaaahnodljaaGreatDoor
open Go
set_option maxRecDepth 100000
theorem zpt:laidOutB Tryz.prog=true:=by kernel_rfl
theorem zpu:mapsRowed Tryz.prog=true:=by kernel_rfl
theorem zne:(Tryz.prog.stops==[])=true:=by kernel_rfl
theorem znf:(Tryz.prog.stopKnobs==[])=true:=by kernel_rfl
theorem zng:Tryz.prog.stopsHeard=true:=by kernel_rfl
theorem zpv:(true==Tryz.prog.plainKeys)=true:=by kernel_rfl
theorem zpw:Tryz.prog.mainIs=some (true, "608fc5b6fd7369ebd95c868e2fd6f861134af690bc3705ffe8cabed3f1899156".toList):=by kernel_rfl
theorem znh:false=Tryz.prog.looks []:=by kernel_rfl
end Go.Proofs.YtdclaaahnodljaaGreatDoor
