import Derived.Test.YtlfhlkknakiafaaGreatDoorCards
import Derived.JoinedOf
import Derived.SevenTiedAt
set_option linter.unusedSimpArgs false
set_option linter.unusedVariables false
namespace Go.Proofs.YtlfhlkknakiafaaGreatDoor
open Go
set_option maxRecDepth 100000
theorem zu7:laidOutB Tryz.prog=true:=by kernel_rfl
theorem zu8:mapsRowed Tryz.prog=true:=by kernel_rfl
theorem zq9:(Tryz.prog.stops==[])=true:=by kernel_rfl
theorem zra:(Tryz.prog.stopKnobs==[])=true:=by kernel_rfl
theorem zrb:Tryz.prog.stopsHeard=true:=by kernel_rfl
theorem zu9:(false==Tryz.prog.plainKeys)=true:=by kernel_rfl
theorem zva:Tryz.prog.mainIs=some (true, "19bc5398b2fb3c36bd9ef34bce8378c3e5217dc1170006dac49a33950ad85acf".toList):=by kernel_rfl
theorem zrd:false=Tryz.prog.looks []:=by kernel_rfl
end Go.Proofs.YtlfhlkknakiafaaGreatDoor
