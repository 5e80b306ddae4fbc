import Derived.Test.YtfgpjkchdelphaaGreatDoorIrA
import Derived.Test.YtfgpjkchdelphaaGreatDoorEvC
import Derived.Test.YtfgpjkchdelphaaGreatDoorProg
import Derived.KernelRfl
set_option linter.unusedSimpArgs false
set_option linter.unusedVariables false
namespace Go.Ev
open Go Go.Proofs
set_option maxRecDepth 100000
noncomputable section

abbrev F320.fr := fr3
def F320.b0 : IR := (iSr [iQo 2 (.mv (.c (.bool false)))] (iSr [iSm 0, .s (.slen aS0), iSm 1, .s (.slen aS0), .s (.bin .geq .int aS2 aS0), .s (.mv aS0), iPt 0 (.mv aT0), iPt 1 (.mv aT1), iPt 2 (.slen aS0), iPt 3 (.sslice aS2 none (some aS0)), iPt 4 (.mv aT1), iPt 5 (.bin .eql .str aS1 aS0), .s (.pick aS6 aS0 (.c (.bool false))), iQm 2 0] .ret))
def F320.res : List RV := [.t (.of 2)]
def F320 : Fn := { params := [(.of 0), (.of 1)], res := F320.res, body := F320.b0, init := in3 }
theorem F320.ok : fnA Tryz.prog Tryz.f320 [0, 1, 4] = some F320 := by kernel_rfl
abbrev F328.fr := fr2
def F328.b0 : IR := (iSr [iQo 1 (.mv (.c (.bool false)))] (iSr [iSm 0, iSm 0, .s (.bin .neq .int aS1 aS0), iQm 1 0] .ret))
def F328.res : List RV := [.t (.of 1)]
def F328 : Fn := { params := [(.of 0)], res := F328.res, body := F328.b0, init := in2 }
theorem F328.ok : fnA Tryz.prog Tryz.f328 [0, 2] = some F328 := by kernel_rfl
abbrev F329.fr := fr2
def F329.b0 : IR := (iSr [iQo 1 (.mv aC0)] (iSr [iSm 0, .s (.bin .mul .int aS0 aC78913), .s (.bin .shr .int aS0 (.c (.int .u64 18))), iQm 1 0] .ret))
def F329.res : List RV := [.t (.of 1)]
def F329 : Fn := { params := [(.of 0)], res := F329.res, body := F329.b0, init := in2 }
theorem F329.ok : fnA Tryz.prog Tryz.f329 [0, 2] = some F329 := by kernel_rfl
abbrev F330.fr := fr3
def F330.b1 : IR := (iSr [iQo 1 (.mv aC0)] .ret)
def F330.g0 (X1 : IR) : IR := (iSr [iQo 1 (.mv aC0)] (.seq (iSr [iQo 2 (.mv aT0)] (.cond aT2 (iSr [iQo 1 (.mv aC1)] .ret) .skip)) X1))
def F330.b0 : IR := F330.g0 F330.b1
def F330.res : List RV := [.t (.of 1)]
def F330 : Fn := { params := [(.of 0)], res := F330.res, body := F330.b0, init := in3 }
theorem F330.ok : fnA Tryz.prog Tryz.f330 [0, 2, 3] = some F330 := by kernel_rfl
end
end Go.Ev
