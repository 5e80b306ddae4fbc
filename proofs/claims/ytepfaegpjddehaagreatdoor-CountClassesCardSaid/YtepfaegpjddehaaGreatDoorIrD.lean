import Derived.Test.YtepfaegpjddehaaGreatDoorIrA
import Derived.Test.YtepfaegpjddehaaGreatDoorEvC
import Derived.Test.YtepfaegpjddehaaGreatDoorProg
import Derived.KernelRfl
set_option linter.unusedSimpArgs false
set_option linter.unusedVariables false
namespace Go.Ev
open Go Go.Proofs
set_option maxRecDepth 100000
noncomputable section

abbrev F218.fr := fr10
def F218.b8 : IR := (.reg [iSm 2, iSm 3, .s (.iaddr 1 aS1 aS0), .w .none none (.store 1 aS0 (.c (.bool true)))])
def F218.g7 (X8 : IR) : IR := (iSr [.s (.iaddr 1 aT5 aT7), .s (.load aS0), iQm 3 0] (.seq (iSr [iSm 3, .s (.bin .lss .int aS0 aC0), .s (.mv aS0), iPf 0 (.mv aT3), iPf 1 (.mv aT0), iPf 2 (.len aS0), iPf 3 (.bin .geq .int aS2 aS0), .s (.pick aS4 (.c (.bool true)) aS0), .s (.mv aS0), iPf 0 (.mv aT2), iPf 1 (.mv aT3), iPf 2 (.iaddr 1 aS1 aS0), iPf 3 (.load aS0), iQo 9 (.pick aS4 (.c (.bool true)) aS0)] (.cond aT9 (iSr [iQo 1 (.mv aC14)] .ret) .skip)) X8))
def F218.b7 : IR := F218.g7 F218.b8
def F218.g6 (X7 : IR) : IR := (.block 1 X7)
def F218.b6 : IR := F218.g6 F218.b7
def F218.b9 : IR := (.reg [.s (.bin .add .int aT7 aC1), iQm 7 0])
def F218.g5 (X6 X9 : IR) : IR := (.seq X6 X9)
def F218.b5 : IR := F218.g5 F218.b6 F218.b9
def F218.g4 (X5 : IR) : IR := (iSr [iQo 8 (.bin .lss .int aT7 aT6)] (.seq (.cond aT8 .skip (.exit 0)) X5))
def F218.b4 : IR := F218.g4 F218.b5
def F218.g3 (X4 : IR) : IR := (.loop X4)
def F218.b3 : IR := F218.g3 F218.b4
def F218.g2 (X3 : IR) : IR := (.block 0 X3)
def F218.b2 : IR := F218.g2 F218.b3
def F218.b10 : IR := (iSr [iQo 1 (.mv aC0)] .ret)
def F218.g1 (X2 X10 : IR) : IR := (iSr [iSm 0, .s (.len aS0), .w .push none (.mkslice 1 1 [(.bool false)] aS0 aS0), iQm 2 0] (.seq (iSr [iQo 5 (.mv aT0), iQo 6 (.len aT5), iQo 7 (.mv aC0)] X2) X10))
def F218.b1 : IR := F218.g1 F218.b2 F218.b10
def F218.g0 (X1 : IR) : IR := (iSr [iQo 1 (.mv aC0)] (.seq (iSr [iSm 0, .s (.len aS0), iQo 4 (.bin .gtr .int aS0 aC256)] (.cond aT4 (iSr [iQo 1 (.mv aC5)] .ret) .skip)) X1))
def F218.b0 : IR := F218.g0 F218.b1
def F218.res : List RV := [.t (.of 1)]
def F218 : Fn := { params := [(.of 0)], res := F218.res, body := F218.b0, init := in10 }
theorem F218.ok : fnA Tryz.prog Tryz.f218 [0, 2, 3, 5, 8, 12, 13, 14, 15, 31] = some F218 := by kernel_rfl
abbrev F219.fr := fr3
def F219.b1 : IR := (iSr [iSm 0, .s (.bin .mul .int aS0 aC2), iSm 0, .s (.bin .mul .int aS0 aC2), .s (.bin .add .int aS0 aC2), .s (.sslice (.c (.str [48, 48, 48, 49, 48, 50, 48, 51, 48, 52, 48, 53, 48, 54, 48, 55, 48, 56, 48, 57, 49, 48, 49, 49, 49, 50, 49, 51, 49, 52, 49, 53, 49, 54, 49, 55, 49, 56, 49, 57, 50, 48, 50, 49, 50, 50, 50, 51, 50, 52, 50, 53, 50, 54, 50, 55, 50, 56, 50, 57, 51, 48, 51, 49, 51, 50, 51, 51, 51, 52, 51, 53, 51, 54, 51, 55, 51, 56, 51, 57, 52, 48, 52, 49, 52, 50, 52, 51, 52, 52, 52, 53, 52, 54, 52, 55, 52, 56, 52, 57, 53, 48, 53, 49, 53, 50, 53, 51, 53, 52, 53, 53, 53, 54, 53, 55, 53, 56, 53, 57, 54, 48, 54, 49, 54, 50, 54, 51, 54, 52, 54, 53, 54, 54, 54, 55, 54, 56, 54, 57, 55, 48, 55, 49, 55, 50, 55, 51, 55, 52, 55, 53, 55, 54, 55, 55, 55, 56, 55, 57, 56, 48, 56, 49, 56, 50, 56, 51, 56, 52, 56, 53, 56, 54, 56, 55, 56, 56, 56, 57, 57, 48, 57, 49, 57, 50, 57, 51, 57, 52, 57, 53, 57, 54, 57, 55, 57, 56, 57, 57])) (some aS3) (some aS0)), iQm 1 0] .ret)
def F219.g0 (X1 : IR) : IR := (iSr [iQo 1 (.mv (.c (.str [])))] (.seq (iSr [iSm 0, iQo 2 (.bin .lss .int aS0 aC10)] (.cond aT2 (iSr [iSm 0, iSm 0, .s (.bin .add .int aS0 aC1), .s (.sslice (.c (.str [48, 49, 50, 51, 52, 53, 54, 55, 56, 57, 97, 98, 99, 100, 101, 102, 103, 104, 105, 106, 107, 108, 109, 110, 111, 112, 113, 114, 115, 116, 117, 118, 119, 120, 121, 122])) (some aS2) (some aS0)), iQm 1 0] .ret) .skip)) X1))
def F219.b0 : IR := F219.g0 F219.b1
def F219.res : List RV := [.t (.of 1)]
def F219 : Fn := { params := [(.of 0)], res := F219.res, body := F219.b0, init := in3 }
theorem F219.ok : fnA Tryz.prog Tryz.f219 [0, 2, 4] = some F219 := by kernel_rfl
end
end Go.Ev
