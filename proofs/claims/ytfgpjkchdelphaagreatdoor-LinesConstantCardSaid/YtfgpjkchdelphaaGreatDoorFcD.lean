import Derived.Test.YtfgpjkchdelphaaGreatDoorCards
import Derived.JoinedOf
import Derived.SevenTiedAt
set_option linter.unusedSimpArgs false
set_option linter.unusedVariables false
namespace Go.Proofs.YtfgpjkchdelphaaGreatDoor
open Go
set_option maxRecDepth 100000
theorem ztd:laidOutB Tryz.prog=true:=by kernel_rfl
theorem zte:mapsRowed Tryz.prog=true:=by kernel_rfl
theorem zpy:(Tryz.prog.stops==[])=true:=by kernel_rfl
theorem zpz:(Tryz.prog.stopKnobs==[])=true:=by kernel_rfl
theorem zp0:Tryz.prog.stopsHeard=true:=by kernel_rfl
theorem ztf:(true==Tryz.prog.plainKeys)=true:=by kernel_rfl
theorem ztg:Tryz.prog.mainIs=some (true, "bfbd5c32764d1e82c9430f3864331234c98e0c76f769b4cd8b6b7ac3cca983d9".toList):=by kernel_rfl
theorem zp1:false=Tryz.prog.looks []:=by kernel_rfl
end Go.Proofs.YtfgpjkchdelphaaGreatDoor
