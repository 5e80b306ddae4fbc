import Derived.Test.YtepfaegpjddehaaGreatDoorCards
import Derived.JoinedOf
import Derived.SevenTiedAt
set_option linter.unusedSimpArgs false
set_option linter.unusedVariables false
namespace Go.Proofs.YtepfaegpjddehaaGreatDoor
open Go
set_option maxRecDepth 100000
theorem fc_laid : laidOutB Tryz.prog = true := by kernel_rfl
theorem fc_maps : mapsRowed Tryz.prog = true := by kernel_rfl
theorem fc_stops : (Tryz.prog.stops == []) = true := by kernel_rfl
theorem fc_knobs : (Tryz.prog.stopKnobs == []) = true := by kernel_rfl
theorem fc_heard : Tryz.prog.stopsHeard = true := by kernel_rfl
theorem fc_keys : (false == Tryz.prog.plainKeys) = true := by kernel_rfl
theorem fc_main : Tryz.prog.mainIs = some (true, "2fc464bbbf6b3a463d4eab77d903c5902ac939b6355f716b1a2034aeac3b7dac".toList) := by kernel_rfl
theorem fc_looks : false = Tryz.prog.looks [] := by kernel_rfl
end Go.Proofs.YtepfaegpjddehaaGreatDoor
