import Derived.Test.YtkjkjpmahgeneaaGreatDoorCards
import Derived.JoinedOf
import Derived.SevenTiedAt
set_option linter.unusedSimpArgs false
set_option linter.unusedVariables false
namespace Go.Proofs.YtkjkjpmahgeneaaGreatDoor
open Go
set_option maxRecDepth 100000
theorem zqb:laidOutB Tryz.prog=true:=by kernel_rfl
theorem zqc:mapsRowed Tryz.prog=true:=by kernel_rfl
theorem znu:(Tryz.prog.stops==[])=true:=by kernel_rfl
theorem znv:(Tryz.prog.stopKnobs==[])=true:=by kernel_rfl
theorem znw:Tryz.prog.stopsHeard=true:=by kernel_rfl
theorem zqd:(true==Tryz.prog.plainKeys)=true:=by kernel_rfl
theorem zqe:Tryz.prog.mainIs=some (true, "0bc9430c3fd4ed99a8fa0e0f6a03279a655becb705f64068ca3a8d31c247051f".toList):=by kernel_rfl
theorem znx:false=Tryz.prog.looks []:=by kernel_rfl
end Go.Proofs.YtkjkjpmahgeneaaGreatDoor
