import Derived.Test.YtkjkjpmahgeneaaGreatDoorIrA
import Derived.Test.YtkjkjpmahgeneaaGreatDoorEvC
import Derived.Test.YtkjkjpmahgeneaaGreatDoorProg
import Derived.KernelRfl
set_option linter.unusedSimpArgs false
set_option linter.unusedVariables false
namespace Go.Ev
open Go Go.Proofs
set_option maxRecDepth 100000
noncomputable section

abbrev F93.fr := fr7
def F93.b8 : IR := (.reg [iSm 2, iSm 0, iSm 3, .s (.iaddr 1 aS1 aS0), .s (.load aS0), .s (.iaddr 1 aS4 aS0), .w .none none (.store 1 aS0 (.c (.bool true)))])
def F93.g7 (X8 : IR) : IR := (.seq (iSr [iSm 0, iSm 3, .s (.iaddr 1 aS1 aS0), .s (.load aS0), .s (.bin .lss .int aS0 aC0), .s (.mv aS0), iPf 0 (.mv aT0), iPf 1 (.mv aT3), iPf 2 (.iaddr 1 aS1 aS0), iPf 3 (.load aS0), iPf 4 (.mv aT0), iPf 5 (.len aS0), iPf 6 (.bin .geq .int aS2 aS0), .s (.pick aS7 (.c (.bool true)) aS0), .s (.mv aS0), iPf 0 (.mv aT2), iPf 1 (.mv aT0), iPf 2 (.mv aT3), iPf 3 (.iaddr 1 aS1 aS0), iPf 4 (.load aS0), iPf 5 (.iaddr 1 aS4 aS0), iPf 6 (.load aS0), iQo 6 (.pick aS7 (.c (.bool true)) aS0)] (.cond aT6 (iSr [iQo 1 (.mv aC14)] .ret) .skip)) X8)
def F93.b7 : IR := F93.g7 F93.b8
def F93.g6 (X7 : IR) : IR := (.block 1 X7)
def F93.b6 : IR := F93.g6 F93.b7
def F93.b9 : IR := (.reg [iSm 3, .s (.bin .add .int aS0 aC1), iQm 3 0])
def F93.g5 (X6 X9 : IR) : IR := (.seq X6 X9)
def F93.b5 : IR := F93.g5 F93.b6 F93.b9
def F93.g4 (X5 : IR) : IR := (.seq (iSr [iSm 3, iSm 0, .s (.len aS0), iQo 5 (.bin .lss .int aS2 aS0)] (.cond aT5 .skip (.exit 0))) X5)
def F93.b4 : IR := F93.g4 F93.b5
def F93.g3 (X4 : IR) : IR := (.loop X4)
def F93.b3 : IR := F93.g3 F93.b4
def F93.g2 (X3 : IR) : IR := (.block 0 X3)
def F93.b2 : IR := F93.g2 F93.b3
def F93.b10 : IR := (iSr [iQo 1 (.mv aC0)] .ret)
def F93.g1 (X2 X10 : IR) : IR := (iSr [iSm 0, .s (.len aS0), .w .push none (.mkslice 1 1 [(.bool false)] aS0 aS0), iQm 2 0] (.seq (iSr [iQo 3 (.mv aC0)] X2) X10))
def F93.b1 : IR := F93.g1 F93.b2 F93.b10
def F93.g0 (X1 : IR) : IR := (iSr [iQo 1 (.mv aC0)] (.seq (iSr [iSm 0, .s (.len aS0), iQo 4 (.bin .gtr .int aS0 aC256)] (.cond aT4 (iSr [iQo 1 (.mv aC5)] .ret) .skip)) X1))
def F93.b0 : IR := F93.g0 F93.b1
def F93.res : List RV := [.t (.of 1)]
def F93 : Fn := { params := [(.of 0)], res := F93.res, body := F93.b0, init := in7 }
theorem F93.ok : fnA Tryz.prog Tryz.f93 [0, 2, 3, 4, 7, 14, 39] = some F93 := by kernel_rfl
abbrev F94.fr := fr8
def F94.b6 : IR := (iSr [.s (.iaddr 1 aT3 aT5), .s (.load aS0), iQm 2 0] (iSr [iSm 2, iQo 7 (.bin .neq .int aS0 aC0)] (.cond aT7 (iSr [iSm 2, iQm 1 0] .ret) .skip)))
def F94.g5 (X6 : IR) : IR := (.block 1 X6)
def F94.b5 : IR := F94.g5 F94.b6
def F94.b7 : IR := (.reg [.s (.bin .add .int aT5 aC1), iQm 5 0])
def F94.g4 (X5 X7 : IR) : IR := (.seq X5 X7)
def F94.b4 : IR := F94.g4 F94.b5 F94.b7
def F94.g3 (X4 : IR) : IR := (iSr [iQo 6 (.bin .lss .int aT5 aT4)] (.seq (.cond aT6 .skip (.exit 0)) X4))
def F94.b3 : IR := F94.g3 F94.b4
def F94.g2 (X3 : IR) : IR := (.loop X3)
def F94.b2 : IR := F94.g2 F94.b3
def F94.g1 (X2 : IR) : IR := (.block 0 X2)
def F94.b1 : IR := F94.g1 F94.b2
def F94.b8 : IR := (iSr [iQo 1 (.mv aC0)] .ret)
def F94.g0 (X1 X8 : IR) : IR := (iSr [iQo 1 (.mv aC0)] (.seq (iSr [iQo 3 (.mv aT0), iQo 4 (.len aT3), iQo 5 (.mv aC0)] X1) X8))
def F94.b0 : IR := F94.g0 F94.b1 F94.b8
def F94.res : List RV := [.t (.of 1)]
def F94 : Fn := { params := [(.of 0)], res := F94.res, body := F94.b0, init := in8 }
theorem F94.ok : fnA Tryz.prog Tryz.f94 [0, 2, 4, 5, 6, 7, 8, 12] = some F94 := by kernel_rfl
abbrev F95.fr := fr2
def F95.b0 : IR := (iSr [iQo 1 (.mv aC0)] (iSr [iSm 0, .s (.bin .lss .int aS0 aC0), .s (.mv aS0), iPf 0 (.mv aT0), iPf 1 (.bin .gtr .int aS0 aC256), .s (.pick aS2 (.c (.bool true)) aS0), iCa 96 [aS0, aC3], iQm 1 0] .ret))
def F95.res : List RV := [.t (.of 1)]
def F95 : Fn := { params := [(.of 0)], res := F95.res, body := F95.b0, init := in2 }
theorem F95.ok : fnA Tryz.prog Tryz.f95 [0, 2] = some F95 := by kernel_rfl
abbrev F96.fr := fr4
def F96.b1 : IR := (iSr [iQo 2 (.mv aC0)] .ret)
def F96.g0 (X1 : IR) : IR := (iSr [iQo 2 (.mv aC0)] (.seq (iSr [iQo 3 (.mv aT0)] (.cond aT3 (iSr [iSm 1, iQm 2 0] .ret) .skip)) X1))
def F96.b0 : IR := F96.g0 F96.b1
def F96.res : List RV := [.t (.of 2)]
def F96 : Fn := { params := [(.of 0), (.of 1)], res := F96.res, body := F96.b0, init := in4 }
theorem F96.ok : fnA Tryz.prog Tryz.f96 [0, 1, 4, 5] = some F96 := by kernel_rfl
abbrev F97.fr := fr10
def F97.b6 : IR := (iSr [.s (.iaddr 2 aT5 aT7), .s (.loadN 2 aS0), iWl 3 (.alloc [.nils, (.bool false)]), .w .none none (.store 2 aT3 aS0)] (iSr [.s (.loadN 2 aT3), iSm 1, iCa 56 [aS1, aS0], iQm 4 0] (iSr [iSm 4, iQo 9 (.bin .neq .int aS0 aC0)] (.cond aT9 (iSr [iSm 4, iQm 2 0] .ret) .skip))))
def F97.g5 (X6 : IR) : IR := (.block 1 X6)
def F97.b5 : IR := F97.g5 F97.b6
def F97.b7 : IR := (.reg [.s (.bin .add .int aT7 aC1), iQm 7 0])
def F97.g4 (X5 X7 : IR) : IR := (.seq X5 X7)
def F97.b4 : IR := F97.g4 F97.b5 F97.b7
def F97.g3 (X4 : IR) : IR := (iSr [iQo 8 (.bin .lss .int aT7 aT6)] (.seq (.cond aT8 .skip (.exit 0)) X4))
def F97.b3 : IR := F97.g3 F97.b4
def F97.g2 (X3 : IR) : IR := (.loop X3)
def F97.b2 : IR := F97.g2 F97.b3
def F97.g1 (X2 : IR) : IR := (.block 0 X2)
def F97.b1 : IR := F97.g1 F97.b2
def F97.b8 : IR := (iSr [iQo 2 (.mv aC0)] .ret)
def F97.g0 (X1 X8 : IR) : IR := (iSr [iQo 2 (.mv aC0)] (.seq (iSr [iQo 5 (.mv aT0), iQo 6 (.len aT5), iQo 7 (.mv aC0)] X1) X8))
def F97.b0 : IR := F97.g0 F97.b1 F97.b8
def F97.res : List RV := [.t (.of 2)]
def F97 : Fn := { params := [(.of 0), (.of 1)], res := F97.res, body := F97.b0, init := in10 }
theorem F97.ok : fnA Tryz.prog Tryz.f97 [0, 1, 4, 6, 7, 8, 9, 10, 11, 18] = some F97 := by kernel_rfl
abbrev F98.fr := fr25
def F98.b3 : IR := (.reg [iWl 10 (.alloc [.nils, (.bool false)]), .w .none none (.store 2 aT10 aT16)])
def F98.b20 : IR := (.seq (.dreg [] [(.s (.load aT8), 1, []), (.s (.loadN 2 aT13), 0, []), (.s (.loadN 2 aT13), 1, []), (iCa 123 [aS1], 0, []), (.w .none none (.mapup .str aS3 aS0 aS1), 0, [])]) (.reg [iSm 11, .s (.loadN 2 aT13), .w .push none (.bslice 2 1 [.nils, (.bool false)] [(0, 2, aS0)]), .w .push none (.appq 2 32 aS2 aS0), iQm 11 0]))
def F98.g19 (X20 : IR) : IR := (.seq (iSr [.s (.load aT8), .s (.mlen aS0), .s (.load aT3), iQo 24 (.bin .eql .int aS1 aS0)] (.cond aT24 (iSr [.w .none none (.store 1 aT4 (.c .nilm)), .w .none none (.store 1 aT5 (.c .nils)), .w .none none (.store 1 aT6 (.c (.bool false)))] .ret) .skip)) X20)
def F98.b19 : IR := F98.g19 F98.b20
def F98.g18 (X19 : IR) : IR := (iSr [.s (.iaddr 2 aT19 aT21), .s (.loadN 2 aS0), iWl 12 (.alloc [.nils, (.bool false)]), .w .none none (.store 2 aT12 aS0)] (.seq (.dreg [(.alloc [.nils, (.bool false)])] [(.s (.loadN 2 aT12), 2, []), (iSm 11, 2, []), (.s (.iaddr 2 aS0 aC0), 2, []), (.s (.loadN 2 aS0), 2, []), (iCa 122 [aS3, aS0], 0, []), (iWl 13 (.alloc [.nils, (.bool false)]), 0, []), (.w .none none (.store 2 aT13 aS0), 0, [])]) (.seq (iSr [.s (.load aT8), .s (.loadN 2 aT13), iWl 23 (.call (.c (.fn 121 (.of 121) [])) [aS1, aS0])] (.cond aT23 (.exit 5) .skip)) X19)))
def F98.b18 : IR := F98.g18 F98.b19
def F98.g17 (X18 : IR) : IR := (.block 5 X18)
def F98.b17 : IR := F98.g17 F98.b18
def F98.b21 : IR := (.reg [.s (.bin .add .int aT21 aC1), iQm 21 0])
def F98.g16 (X17 X21 : IR) : IR := (.seq X17 X21)
def F98.b16 : IR := F98.g16 F98.b17 F98.b21
def F98.g15 (X16 : IR) : IR := (iSr [iQo 22 (.bin .lss .int aT21 aT20)] (.seq (.cond aT22 .skip (.exit 4)) X16))
def F98.b15 : IR := F98.g15 F98.b16
def F98.g14 (X15 : IR) : IR := (.loop X15)
def F98.b14 : IR := F98.g14 F98.b15
def F98.g13 (X14 : IR) : IR := (.block 4 X14)
def F98.b13 : IR := F98.g13 F98.b14
def F98.g12 (X13 : IR) : IR := (iSr [iQo 19 (.load aT9), iQo 20 (.len aT19), iQo 21 (.mv aC0)] X13)
def F98.b12 : IR := F98.g12 F98.b13
def F98.g11 (X12 : IR) : IR := (.block 3 X12)
def F98.b11 : IR := F98.g11 F98.b12
def F98.b22 : IR := (.reg [iSm 11, .s (.slice 2 aS0 (some aC1) none none), iQm 11 0])
def F98.g10 (X11 X22 : IR) : IR := (.seq X11 X22)
def F98.b10 : IR := F98.g10 F98.b11 F98.b22
def F98.g9 (X10 : IR) : IR := (.seq (iSr [iSm 11, .s (.len aS0), iQo 18 (.bin .gtr .int aS0 aC0)] (.cond aT18 .skip (.exit 2))) X10)
def F98.b9 : IR := F98.g9 F98.b10
def F98.g8 (X9 : IR) : IR := (.loop X9)
def F98.b8 : IR := F98.g8 F98.b9
def F98.g7 (X8 : IR) : IR := (.block 2 X8)
def F98.b7 : IR := F98.g7 F98.b8
def F98.g6 (X7 : IR) : IR := (iSr [.s (.load aT9), .s (.loadN 2 aT10), .w .push none (.bslice 2 1 [.nils, (.bool false)] [(0, 2, aS0)]), .w .push none (.appq 2 32 aS2 aS0), .w .none none (.store 1 aT9 aS0)] (.seq (.dreg [.mkmap] [(.s (.loadN 2 aT7), 2, []), (.s (.loadN 2 aT7), 2, []), (iCa 123 [aS1], 0, []), (.w .push none .mkmap, 0, []), (.w .none none (.mapup .str aS0 aS1 aS2), 0, []), (.s (.mv aS0), 0, []), (.w .none none (.store 1 aT8 aS0), 0, [])]) (iSr [.s (.loadN 2 aT7), .w .push none (.bslice 2 1 [.nils, (.bool false)] [(0, 2, aS0)]), iQm 11 0] X7)))
def F98.b6 : IR := F98.g6 F98.b7
def F98.g5 (X6 : IR) : IR := (.seq (iSr [.s (.load aT8), .s (.loadN 2 aT10), iWl 17 (.call (.c (.fn 121 (.of 121) [])) [aS1, aS0])] (.cond aT17 (.exit 1) .skip)) X6)
def F98.b5 : IR := F98.g5 F98.b6
def F98.g4 (X5 : IR) : IR := (.block 1 X5)
def F98.b4 : IR := F98.g4 F98.b5
def F98.g2 (X3 X4 : IR) : IR := (.rf aT14 [(.of 15), (.of 16)] X3 X4)
def F98.b2 : IR := F98.g2 F98.b3 F98.b4
def F98.g1 (X2 : IR) : IR := (.block 0 X2)
def F98.b1 : IR := F98.g1 F98.b2
def F98.b23 : IR := (.seq (.dreg [] [(.s (.load aT8), 0, []), (.s (.load aT9), 1, []), (.w .none none (.store 1 aT4 aS1), 0, []), (.w .none none (.store 1 aT5 aS0), 0, []), (.w .none none (.store 1 aT6 (.c (.bool true))), 0, [])]) .ret)
def F98.g0 (X1 X23 : IR) : IR := (iSr [iWl 3 (.box aT2), iWl 4 (.alloc [.nilm]), iWl 5 (.alloc [.nils]), iWl 6 (.alloc [(.bool false)])] (iSr [iSm 1, iCa 163 [aS0], iWl 7 (.alloc [.nils, (.bool false)]), .w .none none (.store 2 aT7 aS0)] (.seq (.dreg [.mkmap, (.alloc [.nilm])] [(.s (.loadN 2 aT7), 4, []), (.s (.loadN 2 aT7), 4, []), (iCa 123 [aS1], 0, []), (.w .push none .mkmap, 0, []), (.w .none none (.mapup .str aS0 aS1 aS2), 0, []), (.s (.mv aS0), 1, []), (iWl 8 (.alloc [.nilm]), 0, []), (.w .none none (.store 1 aT8 aS0), 0, [])]) (iSr [iWl 9 (.alloc [.nils])] (.seq (iSr [iSm 0, iWl 14 (.call (.c (.fn 90 (.of 90) [])) [aS0])] X1) X23)))))
def F98.b0 : IR := F98.g0 F98.b1 F98.b23
def F98.res : List RV := [.cell (.of 4) none, .cell (.of 5) none, .cell (.of 6) none]
def F98 : Fn := { params := [(.of 0), (.of 1), (.of 2)], res := F98.res, body := F98.b0, init := in25 }
theorem F98.ok : fnA Tryz.prog Tryz.f98 [0, 1, 2, 5, 6, 7, 8, 9, 10, 11, 13, 14, 16, 17, 26, 27, 28, 31, 45, 48, 49, 50, 51, 61, 65] = some F98 := by kernel_rfl
abbrev F99.fr := fr12
def F99.b5 : IR := (iSr [.s (.entry aT6), .s (.ext 1 aS0), iWl 3 (.alloc [.nils, (.bool false)]), .w .none none (.store 2 aT3 aS0)] (.reg [iSm 2, .s (.loadN 2 aT3), .w .push none (.bslice 2 1 [.nils, (.bool false)] [(0, 2, aS0)]), .w .push none (.appq 2 32 aS2 aS0), iQm 2 0]))
def F99.g4 (X5 : IR) : IR := (.block 1 X5)
def F99.b4 : IR := F99.g4 F99.b5
def F99.g3 (X4 : IR) : IR := (iSr [.w .push none (.next aT6), iQo 7 (.ext 0 aS0)] (.seq (.cond aT7 .skip (.exit 0)) X4))
def F99.b3 : IR := F99.g3 F99.b4
def F99.g2 (X3 : IR) : IR := (.loop X3)
def F99.b2 : IR := F99.g2 F99.b3
def F99.g1 (X2 : IR) : IR := (.block 0 X2)
def F99.b1 : IR := F99.g1 F99.b2
def F99.b12 : IR := (iSr [.s (.iaddr 2 aT8 aT10), .s (.loadN 2 aS0), iWl 5 (.alloc [.nils, (.bool false)]), .w .none none (.store 2 aT5 aS0)] (.reg [iSm 4, .s (.loadN 2 aT5), .w .push none (.bslice 2 1 [.nils, (.bool false)] [(0, 2, aS0)]), .w .push none (.appq 2 32 aS2 aS0), iQm 4 0]))
def F99.g11 (X12 : IR) : IR := (.block 3 X12)
def F99.b11 : IR := F99.g11 F99.b12
def F99.b13 : IR := (.reg [.s (.bin .add .int aT10 aC1), iQm 10 0])
def F99.g10 (X11 X13 : IR) : IR := (.seq X11 X13)
def F99.b10 : IR := F99.g10 F99.b11 F99.b13
def F99.g9 (X10 : IR) : IR := (iSr [iQo 11 (.bin .lss .int aT10 aT9)] (.seq (.cond aT11 .skip (.exit 2)) X10))
def F99.b9 : IR := F99.g9 F99.b10
def F99.g8 (X9 : IR) : IR := (.loop X9)
def F99.b8 : IR := F99.g8 F99.b9
def F99.g7 (X8 : IR) : IR := (.block 2 X8)
def F99.b7 : IR := F99.g7 F99.b8
def F99.b14 : IR := (iSr [iSm 4, iQm 1 0] .ret)
def F99.g6 (X7 X14 : IR) : IR := (iSr [iSm 2, .w .push none (.call (.c (.fn 164 (.of 164) [])) [aS0, (.c (.fn 162 (.of 162) []))])] (iSr [iQo 4 (.mv (.c .nils))] (.seq (iSr [iQo 8 (.mv aT2), iQo 9 (.len aT8), iQo 10 (.mv aC0)] X7) X14)))
def F99.b6 : IR := F99.g6 F99.b7 F99.b14
def F99.g0 (X1 X6 : IR) : IR := (iSr [iQo 1 (.mv (.c .nils))] (iSr [iQo 2 (.mv (.c .nils))] (.seq (iSr [iSm 0, iWl 6 (.range aS0)] X1) X6)))
def F99.b0 : IR := F99.g0 F99.b1 F99.b6
def F99.res : List RV := [.t (.of 1)]
def F99 : Fn := { params := [(.of 0)], res := F99.res, body := F99.b0, init := in12 }
theorem F99.ok : fnA Tryz.prog Tryz.f99 [0, 2, 3, 5, 6, 8, 10, 12, 21, 22, 23, 24] = some F99 := by kernel_rfl
abbrev F103.fr := fr11
def F103.b7 : IR := (iSr [iSm 8, iQm 4 0] (iSr [.s (.loadN 2 aT1), iSm 4, iCa 168 [aS1, aS0], iQm 5 0] (iSr [iSm 5, iQo 10 (.bin .neq .int aS0 aC0)] (.cond aT10 (iSr [iSm 5, iQm 2 0] .ret) .skip))))
def F103.g6 (X7 : IR) : IR := (.block 1 X7)
def F103.b6 : IR := F103.g6 F103.b7
def F103.b8 : IR := (.reg [.s (.bin .add .int aT8 aC1), iQm 8 0])
def F103.g5 (X6 X8 : IR) : IR := (.seq X6 X8)
def F103.b5 : IR := F103.g5 F103.b6 F103.b8
def F103.g4 (X5 : IR) : IR := (iSr [iQo 9 (.bin .lss .int aT8 aT7)] (.seq (.cond aT9 .skip (.exit 0)) X5))
def F103.b4 : IR := F103.g4 F103.b5
def F103.g3 (X4 : IR) : IR := (.loop X4)
def F103.b3 : IR := F103.g3 F103.b4
def F103.g2 (X3 : IR) : IR := (.block 0 X3)
def F103.b2 : IR := F103.g2 F103.b3
def F103.b9 : IR := (iSr [iQo 2 (.mv aC0)] .ret)
def F103.g1 (X2 X9 : IR) : IR := (.seq (iSr [.s (.faddr 1 aT1), .s (.load aS0), iQo 7 (.len aS0), iQo 8 (.mv aC0)] X2) X9)
def F103.b1 : IR := F103.g1 F103.b2 F103.b9
def F103.g0 (X1 : IR) : IR := (iSr [iWl 1 (.box aT0), iQo 2 (.mv aC0)] (.seq (.seq (.dreg [] [(.s (.faddr 0 aT1), 0, []), (.s (.load aS0), 0, []), (.s (.faddr 1 aT1), 2, []), (.s (.load aS0), 2, []), (.s (.len aS0), 2, []), (.s (.bin .gtr .int aS0 aC128), 2, []), (.w .push none (.bslice 1 1 [(I 0)] [(0, 1, aS4)]), 0, []), (iCa 166 [aC1, aC256, aS0], 0, []), (iCa 167 [aS2, aC5], 0, []), (.w .push none (.bslice 1 2 [(I 0)] [(0, 1, aS1), (1, 1, aS0)]), 0, []), (iCa 165 [aS0], 0, []), (iQm 3 0, 0, [])]) (iSr [iSm 3, iQo 6 (.bin .neq .int aS0 aC0)] (.cond aT6 (iSr [iSm 3, iQm 2 0] .ret) .skip))) X1))
def F103.b0 : IR := F103.g0 F103.b1
def F103.res : List RV := [.t (.of 2)]
def F103 : Fn := { params := [(.of 0)], res := F103.res, body := F103.b0, init := in11 }
theorem F103.ok : fnA Tryz.prog Tryz.f103 [0, 1, 2, 3, 4, 5, 18, 22, 23, 24, 30] = some F103 := by kernel_rfl
abbrev F104.fr := fr9
def F104.b6 : IR := (iSr [.s (.iaddr 1 aT5 aT7), .s (.load aS0), iQm 4 0] (.dreg [] [(.s (.load aT3), 1, []), (iSm 4, 0, []), (.s (.build [.nils, (.bool false)] [(0, 1, aS0)]), 0, []), (iCa 123 [aS0], 0, []), (.w .none none (.mapup .str aS3 aS0 (.c (.bool true))), 0, [])]))
def F104.g5 (X6 : IR) : IR := (.block 1 X6)
def F104.b5 : IR := F104.g5 F104.b6
def F104.b7 : IR := (.reg [.s (.bin .add .int aT7 aC1), iQm 7 0])
def F104.g4 (X5 X7 : IR) : IR := (.seq X5 X7)
def F104.b4 : IR := F104.g4 F104.b5 F104.b7
def F104.g3 (X4 : IR) : IR := (iSr [iQo 8 (.bin .lss .int aT7 aT6)] (.seq (.cond aT8 .skip (.exit 0)) X4))
def F104.b3 : IR := F104.g3 F104.b4
def F104.g2 (X3 : IR) : IR := (.loop X3)
def F104.b2 : IR := F104.g2 F104.b3
def F104.g1 (X2 : IR) : IR := (.block 0 X2)
def F104.b1 : IR := F104.g1 F104.b2
def F104.b8 : IR := (iSr [.s (.fn 169 (.of 169) [aT3]), iQm 2 0] .ret)
def F104.g0 (X1 X8 : IR) : IR := (iSr [iWl 1 (.box aT0), iQo 2 (.mv (.c .nilf))] (iSr [.w .push none .mkmap, iWl 3 (.alloc [.nilm]), .w .none none (.store 1 aT3 aS0)] (.seq (iSr [.s (.faddr 1 aT1), iQo 5 (.load aS0), iQo 6 (.len aT5), iQo 7 (.mv aC0)] X1) X8)))
def F104.b0 : IR := F104.g0 F104.b1 F104.b8
def F104.res : List RV := [.t (.of 2)]
def F104 : Fn := { params := [(.of 0)], res := F104.res, body := F104.b0, init := in9 }
theorem F104.ok : fnA Tryz.prog Tryz.f104 [0, 1, 2, 3, 5, 8, 9, 10, 11] = some F104 := by kernel_rfl
abbrev F105.fr := fr23
def F105.b14 : IR := (iSr [.s (.iaddr 1 aT17 aT19), .s (.load aS0), iQm 10 0] (iSr [.s (.load aT6), .s (.load aT3), iSm 10, .w .push none (.call aS2 [aS1, aS0]), iQo 21 (.not aS0)] (.cond aT21 (.exit 1) .skip)))
def F105.g13 (X14 : IR) : IR := (.block 3 X14)
def F105.b13 : IR := F105.g13 F105.b14
def F105.b15 : IR := (.reg [.s (.bin .add .int aT19 aC1), iQm 19 0])
def F105.g12 (X13 X15 : IR) : IR := (.seq X13 X15)
def F105.b12 : IR := F105.g12 F105.b13 F105.b15
def F105.g11 (X12 : IR) : IR := (iSr [iQo 20 (.bin .lss .int aT19 aT18)] (.seq (.cond aT20 .skip (.exit 2)) X12))
def F105.b11 : IR := F105.g11 F105.b12
def F105.g10 (X11 : IR) : IR := (.loop X11)
def F105.b10 : IR := F105.g10 F105.b11
def F105.g9 (X10 : IR) : IR := (.block 2 X10)
def F105.b9 : IR := F105.g9 F105.b10
def F105.b16 : IR := (iSr [.s (.load aT4), iSm 9, .s (.iaddr 1 aS1 aS0), .w .none none (.store 1 aS0 (.c (.bool true)))] (iSr [.s (.load aT7), iSm 0, .s (.bin .add .int aS0 aC1), .w .push none (.call aS2 [aS0]), iQm 11 0] (iSr [.s (.load aT4), iSm 9, .s (.iaddr 1 aS1 aS0), .w .none none (.store 1 aS0 (.c (.bool false)))] (iSr [iSm 11, iQo 22 (.not aS0)] (.cond aT22 (iSr [iQo 8 (.mv (.c (.bool false)))] .ret) .skip)))))
def F105.g8 (X9 X16 : IR) : IR := (iSr [.s (.load aT3), iSm 0, iSm 9, .s (.iaddr 1 aS2 aS1), .w .none none (.store 1 aS0 aS1)] (.seq (iSr [.s (.load aT5), iSm 0, .s (.iaddr 1 aS1 aS0), iQo 17 (.load aS0), iQo 18 (.len aT17), iQo 19 (.mv aC0)] X9) X16))
def F105.b8 : IR := F105.g8 F105.b9 F105.b16
def F105.g7 (X8 : IR) : IR := (iSr [iSm 14, iQm 9 0] (.seq (iSr [.s (.load aT4), iSm 9, .s (.iaddr 1 aS1 aS0), iQo 16 (.load aS0)] (.cond aT16 (.exit 1) .skip)) X8))
def F105.b7 : IR := F105.g7 F105.b8
def F105.g6 (X7 : IR) : IR := (.block 1 X7)
def F105.b6 : IR := F105.g6 F105.b7
def F105.b17 : IR := (.reg [.s (.bin .add .int aT14 aC1), iQm 14 0])
def F105.g5 (X6 X17 : IR) : IR := (.seq X6 X17)
def F105.b5 : IR := F105.g5 F105.b6 F105.b17
def F105.g4 (X5 : IR) : IR := (iSr [iQo 15 (.bin .lss .int aT14 aT13)] (.seq (.cond aT15 .skip (.exit 0)) X5))
def F105.b4 : IR := F105.g4 F105.b5
def F105.g3 (X4 : IR) : IR := (.loop X4)
def F105.b3 : IR := F105.g3 F105.b4
def F105.g2 (X3 : IR) : IR := (.block 0 X3)
def F105.b2 : IR := F105.g2 F105.b3
def F105.b18 : IR := (iSr [iQo 8 (.mv (.c (.bool true)))] .ret)
def F105.g1 (X2 X18 : IR) : IR := (.seq .skip (.seq (iSr [.s (.faddr 0 aT1), iQo 13 (.load aS0), iQo 14 (.mv aC0)] X2) X18))
def F105.b1 : IR := F105.g1 F105.b2 F105.b18
def F105.g0 (X1 : IR) : IR := (iSr [iQo 8 (.mv (.c (.bool false)))] (.seq (iSr [iSm 0, .s (.faddr 0 aT1), .s (.load aS0), iQo 12 (.bin .eql .int aS2 aS0)] (.cond aT12 (.seq (.dreg [] [(.s (.load aT2), 2, []), (.s (.load aT3), 0, []), (iCa 106 [aS0], 0, []), (.s (.build [.nils, (.bool false)] [(0, 1, aS0)]), 0, []), (.w .push none (.bslice 2 1 [.nils, (.bool false)] [(0, 2, aS0)]), 0, []), (.w .push none (.appq 2 32 aS4 aS0), 0, []), (.w .none none (.store 1 aT2 aS0), 0, [])]) (iSr [.s (.load aT2), .s (.len aS0), .s (.bin .leq .int aS0 aC1536), iQm 8 0] .ret)) .skip)) X1))
def F105.b0 : IR := F105.g0 F105.b1
def F105.res : List RV := [.t (.of 8)]
def F105 : Fn := { params := [(.of 0), (.of 1), (.of 2), (.of 3), (.of 4), (.of 5), (.of 6), (.of 7)], res := F105.res, body := F105.b0, init := in23 }
theorem F105.ok : fnA Tryz.prog Tryz.f105 [0, 1, 2, 3, 4, 5, 6, 7, 9, 10, 12, 13, 17, 28, 29, 30, 35, 43, 44, 45, 46, 53, 66] = some F105 := by kernel_rfl
abbrev F106.fr := fr3
def F106.b1 : IR := (iSr [.w .push none (.bslice 1 0 [(I 0)] []), iSm 0, .w .push none (.app 1 8 aS1 aS0), iQm 1 0] .ret)
def F106.g0 (X1 : IR) : IR := (iSr [iQo 1 (.mv (.c .nils))] (.seq (iSr [iSm 0, iQo 2 (.bin .eql (.nil .sl) aS0 (.c .nils))] (.cond aT2 (iSr [iQo 1 (.mv (.c .nils))] .ret) .skip)) X1))
def F106.b0 : IR := F106.g0 F106.b1
def F106.res : List RV := [.t (.of 1)]
def F106 : Fn := { params := [(.of 0)], res := F106.res, body := F106.b0, init := in3 }
theorem F106.ok : fnA Tryz.prog Tryz.f106 [0, 2, 4] = some F106 := by kernel_rfl
abbrev F110.fr := fr2
def F110.b0 : IR := (iSr [iWl 1 (.alloc [(I 0), .nils])] (iSr [iSm 0, .s (.build [(I 0), .nils] [(0, 1, aS0)]), .w .none none (.store 2 aT1 aS0)] .ret))
def F110.res : List RV := [.cell (.of 1) (some 2)]
def F110 : Fn := { params := [(.of 0)], res := F110.res, body := F110.b0, init := in2 }
theorem F110.ok : fnA Tryz.prog Tryz.f110 [0, 2] = some F110 := by kernel_rfl
abbrev F111.fr := fr14
def F111.b3 : IR := (iSr [iSm 6, iSm 8, .s (.bin .eql .bool aS1 aS0), iQm 12 0] (.cond aT12 (iSr [iSm 6, iSm 7, iSm 9, iCa 176 [aS1, aS0], iCa 175 [aS3, aS0], .w .none none (.store 2 aT4 aS0)] .ret) (iSr [iSm 7, iSm 9, iCa 177 [aS1, aS0], .s (.bin .geq .int aS0 aC0), iQm 13 0] (.cond aT13 (iSr [iSm 6, iSm 7, iSm 9, iCa 178 [aS1, aS0], iCa 175 [aS3, aS0], .w .none none (.store 2 aT4 aS0)] .ret) .skip))))
def F111.g2 (X3 : IR) : IR := (.block 0 X3)
def F111.b2 : IR := F111.g2 F111.b3
def F111.b4 : IR := (iSr [iSm 8, iSm 9, iSm 7, iCa 178 [aS1, aS0], iCa 175 [aS3, aS0], .w .none none (.store 2 aT4 aS0)] .ret)
def F111.g1 (X2 X4 : IR) : IR := (iSr [.s (.loadN 2 aT2), iCa 174 [aS0], .s (.mv aS0), .s (.ext 0 aS0), .s (.ext 1 aS1), iQm 6 1, iQm 7 0] (iSr [.s (.loadN 2 aT3), iCa 174 [aS0], .s (.mv aS0), .s (.ext 0 aS0), .s (.ext 1 aS1), iQm 8 1, iQm 9 0] (.seq X2 X4)))
def F111.b1 : IR := F111.g1 F111.b2 F111.b4
def F111.g0 (X1 : IR) : IR := (iSr [iWl 2 (.box aT0), iWl 3 (.box aT1), iWl 4 (.alloc [(I 0), .nils])] (.seq (iSr [.s (.faddr 1 aT2), .s (.load aS0), .s (.bin .eql (.nil .sl) aS0 (.c .nils)), .s (.mv aS0), iPt 0 (.faddr 1 aT3), iPt 1 (.load aS0), iPt 2 (.bin .eql (.nil .sl) aS0 (.c .nils)), iQo 10 (.pick aS3 aS0 (.c (.bool false)))] (.cond aT10 (iSr [.s (.faddr 0 aT2), .s (.load aS0), .s (.faddr 0 aT3), .s (.load aS0), .s (.bin .add .int aS2 aS0), iQm 5 0] (iSr [iSm 5, .s (.faddr 0 aT2), .s (.load aS0), .s (.bin .gtr .int aS2 aS0), .s (.faddr 0 aT3), .s (.load aS0), .s (.bin .gtr .int aS0 aC0), iQo 11 (.bin .eql .bool aS3 aS0)] (.cond aT11 (iSr [iSm 5, .s (.build [(I 0), .nils] [(0, 1, aS0)]), .w .none none (.store 2 aT4 aS0)] .ret) .skip))) .skip)) X1))
def F111.b0 : IR := F111.g0 F111.b1
def F111.res : List RV := [.cell (.of 4) (some 2)]
def F111 : Fn := { params := [(.of 0), (.of 1)], res := F111.res, body := F111.b0, init := in14 }
theorem F111.ok : fnA Tryz.prog Tryz.f111 [0, 1, 2, 3, 4, 5, 6, 7, 8, 9, 17, 30, 43, 52] = some F111 := by kernel_rfl
abbrev F112.fr := fr12
def F112.b7 : IR := (.dreg [] [(.s (.loadN 2 aT4), 1, []), (iSm 6, 0, []), (iCa 110 [aS0], 0, []), (iCa 179 [aS2, aS0], 0, []), (.w .none none (.store 2 aT4 aS0), 0, [])])
def F112.g6 (X7 : IR) : IR := (iSr [.s (.iaddr 1 aT7 aT9), .s (.load aS0), iQm 5 0] (iSr [iSm 1, iQm 6 0] (.seq (iSr [.s (.faddr 1 aT2), .s (.load aS0), .s (.mv aS0), iPt 0 (.mv aT5), iPt 1 (.bin .rem .int aS0 aC2), iPt 2 (.bin .eql .int aS0 aC1), iQo 11 (.pick aS3 aS0 (.c (.bool false)))] (.cond aT11 (.reg [iSm 1, .s (.bin .rem .int aS0 aC2), iQm 6 0]) .skip)) X7)))
def F112.b6 : IR := F112.g6 F112.b7
def F112.g5 (X6 : IR) : IR := (.block 1 X6)
def F112.b5 : IR := F112.g5 F112.b6
def F112.b8 : IR := (.reg [.s (.bin .add .int aT9 aC1), iQm 9 0])
def F112.g4 (X5 X8 : IR) : IR := (.seq X5 X8)
def F112.b4 : IR := F112.g4 F112.b5 F112.b8
def F112.g3 (X4 : IR) : IR := (iSr [iQo 10 (.bin .lss .int aT9 aT8)] (.seq (.cond aT10 .skip (.exit 0)) X4))
def F112.b3 : IR := F112.g3 F112.b4
def F112.g2 (X3 : IR) : IR := (.loop X3)
def F112.b2 : IR := F112.g2 F112.b3
def F112.g1 (X2 : IR) : IR := (.block 0 X2)
def F112.b1 : IR := F112.g1 F112.b2
def F112.b9 : IR := (iSr [.s (.loadN 2 aT4), .w .none none (.store 2 aT3 aS0)] .ret)
def F112.g0 (X1 X9 : IR) : IR := (iSr [iWl 2 (.box aT0), iWl 3 (.alloc [(I 0), .nils])] (iSr [iCa 110 [aC1], iWl 4 (.alloc [(I 0), .nils]), .w .none none (.store 2 aT4 aS0)] (.seq (iSr [.s (.loadN 2 aT2), iWl 7 (.call (.c (.fn 138 (.of 138) [])) [aS0]), iQo 8 (.len aT7), iQo 9 (.mv aC0)] X1) X9)))
def F112.b0 : IR := F112.g0 F112.b1 F112.b9
def F112.res : List RV := [.cell (.of 3) (some 2)]
def F112 : Fn := { params := [(.of 0), (.of 1)], res := F112.res, body := F112.b0, init := in12 }
theorem F112.ok : fnA Tryz.prog Tryz.f112 [0, 1, 2, 4, 5, 7, 8, 11, 12, 13, 14, 24] = some F112 := by kernel_rfl
abbrev F113.fr := fr3
def F113.b0 : IR := (iSr [iWl 1 (.box aT0), iWl 2 (.alloc [(I 0), .nils, (I 0), .nils])] (.seq (.dreg [] [(.s (.loadN 2 aT1), 1, []), (iCa 110 [aC1], 0, []), (.s (.build [(I 0), .nils, (I 0), .nils] [(0, 2, aS1), (2, 2, aS0)]), 0, []), (.w .none none (.store 4 aT2 aS0), 0, [])]) .ret))
def F113.res : List RV := [.cell (.of 2) (some 4)]
def F113 : Fn := { params := [(.of 0)], res := F113.res, body := F113.b0, init := in3 }
theorem F113.ok : fnA Tryz.prog Tryz.f113 [0, 1, 2] = some F113 := by kernel_rfl
abbrev F114.fr := fr7
def F114.b1 : IR := (iSr [.s (.loadN 2 aT2), .s (.loadN 2 aT3), iCa 182 [aS1, aS0], .s (.mv aS0), .s (.ext 0 aS0), .s (.ext 1 aS1), iWl 5 (.alloc [(I 0), .nils]), .w .push none (.alloc [(I 0), .nils]), .w .none none (.store 2 aT5 aS2), .w .none none (.store 2 aS0 aS1)] (iSr [.s (.loadN 2 aT5), .w .none none (.store 2 aT4 aS0)] .ret))
def F114.g0 (X1 : IR) : IR := (iSr [iWl 2 (.box aT0), iWl 3 (.box aT1), iWl 4 (.alloc [(I 0), .nils])] (.seq (iSr [.s (.loadN 2 aT3), iCa 180 [aS0], iQo 6 (.bin .lss .int aS0 aC0)] (.cond aT6 (.dreg [] [(.s (.loadN 2 aT2), 0, []), (.s (.loadN 2 aT3), 1, []), (iCa 181 [aS1], 0, []), (iCa 181 [aS1], 0, []), (.w .none none (.store 2 aT2 aS1), 0, []), (.w .none none (.store 2 aT3 aS0), 0, [])]) .skip)) X1))
def F114.b0 : IR := F114.g0 F114.b1
def F114.res : List RV := [.cell (.of 4) (some 2)]
def F114 : Fn := { params := [(.of 0), (.of 1)], res := F114.res, body := F114.b0, init := in7 }
theorem F114.ok : fnA Tryz.prog Tryz.f114 [0, 1, 2, 3, 4, 5, 9] = some F114 := by kernel_rfl
abbrev F115.fr := fr3
def F115.b0 : IR := (iSr [iWl 1 (.box aT0), iQo 2 (.mv (.c (.bool false)))] (iSr [.s (.faddr 0 aT1), .s (.loadN 2 aS0), iCa 183 [aS0], .s (.mv aS0), iPf 0 (.faddr 2 aT1), iPf 1 (.loadN 2 aS0), .w .push (some (aS2, false)) (.call (.c (.fn 183 (.of 183) [])) [aS0]), .s (.pick aS3 (.c (.bool true)) aS0), iQm 2 0] .ret))
def F115.res : List RV := [.t (.of 2)]
def F115 : Fn := { params := [(.of 0)], res := F115.res, body := F115.b0, init := in3 }
theorem F115.ok : fnA Tryz.prog Tryz.f115 [0, 1, 2] = some F115 := by kernel_rfl
abbrev F116.fr := fr4
def F116.b1 : IR := (.seq (.dreg [] [(.s (.faddr 0 aT1), 0, []), (.s (.loadN 2 aS0), 0, []), (.s (.faddr 2 aT1), 1, []), (.s (.loadN 2 aS0), 1, []), (iCa 185 [aS2], 0, []), (.s (.bin .add .str aS0 (.c (.str [47]))), 1, []), (iCa 185 [aS2], 0, []), (.s (.bin .add .str aS1 aS0), 0, []), (iQm 2 0, 0, [])]) .ret)
def F116.g0 (X1 : IR) : IR := (iSr [iWl 1 (.box aT0), iQo 2 (.mv (.c (.str [])))] (.seq (iSr [.s (.loadN 4 aT1), iWl 3 (.call (.c (.fn 184 (.of 184) [])) [aS0])] (.cond aT3 (iSr [.s (.faddr 0 aT1), .s (.loadN 2 aS0), iCa 185 [aS0], iQm 2 0] .ret) .skip)) X1))
def F116.b0 : IR := F116.g0 F116.b1
def F116.res : List RV := [.t (.of 2)]
def F116 : Fn := { params := [(.of 0)], res := F116.res, body := F116.b0, init := in4 }
theorem F116.ok : fnA Tryz.prog Tryz.f116 [0, 1, 2, 4] = some F116 := by kernel_rfl
abbrev F120.fr := fr18
def F120.b7 : IR := (iSr [.s (.entry aT15), .s (.ext 1 aS0), iWl 12 (.alloc [.nils, (.bool false)]), .w .none none (.store 2 aT12 aS0)] (iSr [iSm 7, .s (.loadN 2 aT12), iCa 121 [aS1, aS0], iQo 17 (.not aS0)] (.cond aT17 (.seq (.dreg [] [(.s (.loadN 2 aT6), 0, []), (iQo 3 (.mv (.c .nilm)), 0, []), (.w .none none (.store 2 aT4 aS0), 0, []), (iQo 5 (.mv aC28), 0, [])]) .ret) .skip)))
def F120.g6 (X7 : IR) : IR := (.block 1 X7)
def F120.b6 : IR := F120.g6 F120.b7
def F120.g5 (X6 : IR) : IR := (iSr [.w .push none (.next aT15), iQo 16 (.ext 0 aS0)] (.seq (.cond aT16 .skip (.exit 0)) X6))
def F120.b5 : IR := F120.g5 F120.b6
def F120.g4 (X5 : IR) : IR := (.loop X5)
def F120.b4 : IR := F120.g4 F120.b5
def F120.g3 (X4 : IR) : IR := (.block 0 X4)
def F120.b3 : IR := F120.g3 F120.b4
def F120.b8 : IR := (iSr [iSm 8, iSm 11, .s (.aaddr 1 2 aT6 aC0), .w .none none (.store 1 aS0 aS2), .s (.aaddr 1 2 aT6 aC1), .w .none none (.store 1 aS0 aS2)] (.seq (.dreg [] [(iSm 10, 0, []), (.s (.loadN 2 aT6), 0, []), (iQm 3 1, 0, []), (.w .none none (.store 2 aT4 aS0), 0, []), (iQo 5 (.mv aC0), 0, [])]) .ret))
def F120.g2 (X3 X8 : IR) : IR := (.seq (iSr [iSm 10, iWl 15 (.range aS0)] X3) X8)
def F120.b2 : IR := F120.g2 F120.b3 F120.b8
def F120.g1 (X2 : IR) : IR := (iSr [iSm 1, iSm 2, iCa 92 [aS1, aS0], .s (.mv aS0), .s (.ext 0 aS0), .s (.ext 1 aS1), .s (.ext 2 aS2), iQm 10 2, iQm 11 1, iQm 9 0] (.seq (iSr [iSm 9, iQo 14 (.bin .neq .int aS0 aC0)] (.cond aT14 (.seq (.dreg [] [(.s (.loadN 2 aT6), 0, []), (iSm 9, 1, []), (iQo 3 (.mv (.c .nilm)), 0, []), (.w .none none (.store 2 aT4 aS1), 0, []), (iQm 5 0, 0, [])]) .ret) .skip)) X2))
def F120.b1 : IR := F120.g1 F120.b2
def F120.g0 (X1 : IR) : IR := (iSr [iQo 3 (.mv (.c .nilm)), iWl 4 (.alloc [.nils, .nils]), iQo 5 (.mv aC0)] (iSr [iWl 6 (.alloc [.nils, .nils])] (iSr [iSm 0, iSm 2, iCa 92 [aS1, aS0], .s (.mv aS0), .s (.ext 0 aS0), .s (.ext 1 aS1), .s (.ext 2 aS2), iQm 7 2, iQm 8 1, iQm 9 0] (.seq (iSr [iSm 9, iQo 13 (.bin .neq .int aS0 aC0)] (.cond aT13 (.seq (.dreg [] [(.s (.loadN 2 aT6), 0, []), (iSm 9, 1, []), (iQo 3 (.mv (.c .nilm)), 0, []), (.w .none none (.store 2 aT4 aS1), 0, []), (iQm 5 0, 0, [])]) .ret) .skip)) X1))))
def F120.b0 : IR := F120.g0 F120.b1
def F120.res : List RV := [.t (.of 3), .cell (.of 4) (some 2), .t (.of 5)]
def F120 : Fn := { params := [(.of 0), (.of 1), (.of 2)], res := F120.res, body := F120.b0, init := in18 }
theorem F120.ok : fnA Tryz.prog Tryz.f120 [0, 1, 2, 6, 7, 8, 9, 10, 11, 12, 13, 14, 16, 25, 36, 40, 42, 48] = some F120 := by kernel_rfl
abbrev F121.fr := fr5
def F121.b0 : IR := (iSr [iWl 2 (.box aT1), iQo 3 (.mv (.c (.bool false)))] (iSr [iSm 0, .s (.loadN 2 aT2), iCa 123 [aS0], .s (.look .str (.agg [.nils, (.bool false)]) true aS2 aS0), .s (.mv aS0), .s (.ext 0 aS0), .s (.ext 1 aS1), .w .push none (.alloc [.nils, (.bool false)]), .w .none none (.store 2 aS0 aS2), iQm 4 1] (iSr [iSm 4, iQm 3 0] .ret)))
def F121.res : List RV := [.t (.of 3)]
def F121 : Fn := { params := [(.of 0), (.of 1)], res := F121.res, body := F121.b0, init := in5 }
theorem F121.ok : fnA Tryz.prog Tryz.f121 [0, 1, 3, 4, 6] = some F121 := by kernel_rfl
abbrev F122.fr := fr12
def F122.b6 : IR := (iSr [iSm 10, .s (.iaddr 1 aT8 aT10), .s (.load aS0), iQm 6 2, iQm 7 0] (.dreg [] [(.s (.faddr 0 aT5), 0, []), (.s (.load aS0), 0, []), (iSm 6, 0, []), (.s (.faddr 0 aT2), 0, []), (.s (.load aS0), 0, []), (iSm 7, 0, []), (.s (.iaddr 1 aS1 aS0), 0, []), (.s (.load aS0), 0, []), (.s (.iaddr 1 aS6 aS5), 0, []), (.w .none none (.store 1 aS0 aS1), 0, [])]))
def F122.g5 (X6 : IR) : IR := (.block 1 X6)
def F122.b5 : IR := F122.g5 F122.b6
def F122.b7 : IR := (.reg [.s (.bin .add .int aT10 aC1), iQm 10 0])
def F122.g4 (X5 X7 : IR) : IR := (.seq X5 X7)
def F122.b4 : IR := F122.g4 F122.b5 F122.b7
def F122.g3 (X4 : IR) : IR := (iSr [iQo 11 (.bin .lss .int aT10 aT9)] (.seq (.cond aT11 .skip (.exit 0)) X4))
def F122.b3 : IR := F122.g3 F122.b4
def F122.g2 (X3 : IR) : IR := (.loop X3)
def F122.b2 : IR := F122.g2 F122.b3
def F122.g1 (X2 : IR) : IR := (.block 0 X2)
def F122.b1 : IR := F122.g1 F122.b2
def F122.b8 : IR := (iSr [.s (.loadN 2 aT5), .w .none none (.store 2 aT4 aS0)] .ret)
def F122.g0 (X1 X8 : IR) : IR := (iSr [iWl 2 (.box aT0), iWl 3 (.box aT1), iWl 4 (.alloc [.nils, (.bool false)])] (.seq (.dreg [(.alloc [.nils, (.bool false)])] [(.s (.faddr 0 aT3), 2, []), (.s (.load aS0), 2, []), (.s (.len aS0), 2, [(.mkslice 1 8 [(I 0)] aS0 aS0)]), (.s (.faddr 1 aT2), 2, []), (.s (.load aS0), 2, []), (.s (.faddr 1 aT3), 2, []), (.s (.load aS0), 2, []), (.s (.bin .neq .bool aS2 aS0), 2, []), (.w .push none (.mkslice 1 8 [(I 0)] aS5 aS5), 0, []), (.s (.build [.nils, (.bool false)] [(0, 1, aS0), (1, 1, aS1)]), 1, []), (iWl 5 (.alloc [.nils, (.bool false)]), 0, []), (.w .none none (.store 2 aT5 aS0), 0, [])]) (.seq (iSr [.s (.faddr 0 aT3), iQo 8 (.load aS0), iQo 9 (.len aT8), iQo 10 (.mv aC0)] X1) X8)))
def F122.b0 : IR := F122.g0 F122.b1 F122.b8
def F122.res : List RV := [.cell (.of 4) (some 2)]
def F122 : Fn := { params := [(.of 0), (.of 1)], res := F122.res, body := F122.b0, init := in12 }
theorem F122.ok : fnA Tryz.prog Tryz.f122 [0, 1, 2, 3, 4, 5, 6, 7, 19, 20, 21, 22] = some F122 := by kernel_rfl
abbrev F123.fr := fr10
def F123.b6 : IR := (iSr [.s (.iaddr 1 aT5 aT7), .s (.load aS0), iQm 4 0] (.reg [iSm 3, iSm 4, .s (.conv .u8 aS0), .w .push none (.bslice 1 1 [(.int .u8 0)] [(0, 1, aS0)]), .w .push none (.app 1 1 aS3 aS0), iQm 3 0]))
def F123.g5 (X6 : IR) : IR := (.block 1 X6)
def F123.b5 : IR := F123.g5 F123.b6
def F123.b7 : IR := (.reg [.s (.bin .add .int aT7 aC1), iQm 7 0])
def F123.g4 (X5 X7 : IR) : IR := (.seq X5 X7)
def F123.b4 : IR := F123.g4 F123.b5 F123.b7
def F123.g3 (X4 : IR) : IR := (iSr [iQo 8 (.bin .lss .int aT7 aT6)] (.seq (.cond aT8 .skip (.exit 0)) X4))
def F123.b3 : IR := F123.g3 F123.b4
def F123.g2 (X3 : IR) : IR := (.loop X3)
def F123.b2 : IR := F123.g2 F123.b3
def F123.g1 (X2 : IR) : IR := (.block 0 X2)
def F123.b1 : IR := F123.g1 F123.b2
def F123.b9 : IR := (iSr [iSm 3, .s (.b2s aS0), iQm 2 0] .ret)
def F123.g8 (X9 : IR) : IR := (.seq (iSr [.s (.faddr 1 aT1), iQo 9 (.load aS0)] (.cond aT9 (.reg [iSm 3, .w .push none (.bslice 1 1 [(.int .u8 0)] [(0, 1, (.c (.int .u8 1)))]), .w .push none (.app 1 1 aS1 aS0), iQm 3 0]) .skip)) X9)
def F123.b8 : IR := F123.g8 F123.b9
def F123.g0 (X1 X8 : IR) : IR := (iSr [iWl 1 (.box aT0), iQo 2 (.mv (.c (.str [])))] (iSr [.s (.faddr 0 aT1), .s (.load aS0), .s (.len aS0), .s (.bin .add .int aS0 aC1), .w .push none (.mkslice 1 1 [(.int .u8 0)] aC0 aS0), iQm 3 0] (.seq (iSr [.s (.faddr 0 aT1), iQo 5 (.load aS0), iQo 6 (.len aT5), iQo 7 (.mv aC0)] X1) X8)))
def F123.b0 : IR := F123.g0 F123.b1 F123.b8
def F123.res : List RV := [.t (.of 2)]
def F123 : Fn := { params := [(.of 0)], res := F123.res, body := F123.b0, init := in10 }
theorem F123.ok : fnA Tryz.prog Tryz.f123 [0, 1, 2, 3, 5, 12, 13, 14, 15, 25] = some F123 := by kernel_rfl
abbrev F124.fr := fr10
def F124.b6 : IR := (iSr [iSm 8, .s (.iaddr 1 aT6 aT8), .s (.load aS0), iQm 4 2, iQm 5 0] (.reg [.s (.faddr 0 aT3), .s (.load aS0), iSm 5, iSm 4, .s (.iaddr 1 aS2 aS1), .w .none none (.store 1 aS0 aS1)]))
def F124.g5 (X6 : IR) : IR := (.block 1 X6)
def F124.b5 : IR := F124.g5 F124.b6
def F124.b7 : IR := (.reg [.s (.bin .add .int aT8 aC1), iQm 8 0])
def F124.g4 (X5 X7 : IR) : IR := (.seq X5 X7)
def F124.b4 : IR := F124.g4 F124.b5 F124.b7
def F124.g3 (X4 : IR) : IR := (iSr [iQo 9 (.bin .lss .int aT8 aT7)] (.seq (.cond aT9 .skip (.exit 0)) X4))
def F124.b3 : IR := F124.g3 F124.b4
def F124.g2 (X3 : IR) : IR := (.loop X3)
def F124.b2 : IR := F124.g2 F124.b3
def F124.g1 (X2 : IR) : IR := (.block 0 X2)
def F124.b1 : IR := F124.g1 F124.b2
def F124.b8 : IR := (iSr [.s (.loadN 2 aT3), .w .none none (.store 2 aT2 aS0)] .ret)
def F124.g0 (X1 X8 : IR) : IR := (iSr [iWl 1 (.box aT0), iWl 2 (.alloc [.nils, (.bool false)])] (.seq (.dreg [(.alloc [.nils, (.bool false)])] [(.s (.faddr 0 aT1), 2, []), (.s (.load aS0), 2, []), (.s (.len aS0), 2, [(.mkslice 1 8 [(I 0)] aS0 aS0)]), (.s (.faddr 1 aT1), 2, []), (.s (.load aS0), 2, []), (.w .push none (.mkslice 1 8 [(I 0)] aS2 aS2), 0, []), (.s (.build [.nils, (.bool false)] [(0, 1, aS0), (1, 1, aS1)]), 1, []), (iWl 3 (.alloc [.nils, (.bool false)]), 0, []), (.w .none none (.store 2 aT3 aS0), 0, [])]) (.seq (iSr [.s (.faddr 0 aT1), iQo 6 (.load aS0), iQo 7 (.len aT6), iQo 8 (.mv aC0)] X1) X8)))
def F124.b0 : IR := F124.g0 F124.b1 F124.b8
def F124.res : List RV := [.cell (.of 2) (some 2)]
def F124 : Fn := { params := [(.of 0)], res := F124.res, body := F124.b0, init := in10 }
theorem F124.ok : fnA Tryz.prog Tryz.f124 [0, 1, 2, 3, 4, 5, 14, 15, 16, 17] = some F124 := by kernel_rfl
abbrev F134.fr := fr2
def F134.b0 : IR := (iSr [iQo 1 (.mv aC0)] (iSr [iSm 0, .s (.len aS0), .s (.bin .gtr .int aS0 aC256), iCa 96 [aS0, aC5], iSm 0, .w .push none (.call (.c (.fn 136 (.of 136) [])) [aS0, (.c (.fn 137 (.of 137) []))]), iCa 96 [aS0, aC3], .w .push none (.bslice 1 2 [(I 0)] [(0, 1, aS3), (1, 1, aS0)]), iCa 94 [aS0], iQm 1 0] .ret))
def F134.res : List RV := [.t (.of 1)]
def F134 : Fn := { params := [(.of 0)], res := F134.res, body := F134.b0, init := in2 }
theorem F134.ok : fnA Tryz.prog Tryz.f134 [0, 2] = some F134 := by kernel_rfl
abbrev F135.fr := fr12
def F135.b7 : IR := (.reg [iSm 4, .s (.faddr 0 aT2), .s (.load aS0), iSm 5, .s (.iaddr 1 aS1 aS0), .s (.load aS0), iSm 6, .s (.iaddr 1 aS6 aS1), .w .none none (.store 1 aS0 aS1)])
def F135.g6 (X7 : IR) : IR := (iSr [iSm 9, .s (.iaddr 1 aT7 aT9), .s (.load aS0), iQm 5 2, iQm 6 0] (.seq (iSr [.s (.faddr 1 aT2), iQo 11 (.load aS0)] (.cond aT11 (.reg [iSm 1, .s (.len aS0), .s (.bin .add .int aS0 aC1), iSm 6, .s (.bin .sub .int aS1 aS0), iQm 6 0]) .skip)) X7))
def F135.b6 : IR := F135.g6 F135.b7
def F135.g5 (X6 : IR) : IR := (.block 1 X6)
def F135.b5 : IR := F135.g5 F135.b6
def F135.b8 : IR := (.reg [.s (.bin .add .int aT9 aC1), iQm 9 0])
def F135.g4 (X5 X8 : IR) : IR := (.seq X5 X8)
def F135.b4 : IR := F135.g4 F135.b5 F135.b8
def F135.g3 (X4 : IR) : IR := (iSr [iQo 10 (.bin .lss .int aT9 aT8)] (.seq (.cond aT10 .skip (.exit 0)) X4))
def F135.b3 : IR := F135.g3 F135.b4
def F135.g2 (X3 : IR) : IR := (.loop X3)
def F135.b2 : IR := F135.g2 F135.b3
def F135.g1 (X2 : IR) : IR := (.block 0 X2)
def F135.b1 : IR := F135.g1 F135.b2
def F135.b9 : IR := (iSr [iSm 4, iQm 3 0] .ret)
def F135.g0 (X1 X9 : IR) : IR := (iSr [iWl 2 (.box aT0), iQo 3 (.mv (.c .nils))] (iSr [iSm 1, .s (.len aS0), .w .push none (.mkslice 1 8 [(I 0)] aS0 aS0), iQm 4 0] (.seq (iSr [iQo 7 (.mv aT1), iQo 8 (.len aT7), iQo 9 (.mv aC0)] X1) X9)))
def F135.b0 : IR := F135.g0 F135.b1 F135.b9
def F135.res : List RV := [.t (.of 3)]
def F135 : Fn := { params := [(.of 0), (.of 1)], res := F135.res, body := F135.b0, init := in12 }
theorem F135.ok : fnA Tryz.prog Tryz.f135 [0, 1, 2, 4, 5, 6, 7, 11, 12, 13, 14, 19] = some F135 := by kernel_rfl
abbrev F136.fr := fr3
def F136.b0 : IR := (iSr [iQo 2 (.mv (.c (.bool false)))] (iSr [iSm 0, iSm 1, iCa 197 [aS1, aS0], .s (.bin .geq .int aS0 aC0), iQm 2 0] .ret))
def F136.res : List RV := [.t (.of 2)]
def F136 : Fn := { params := [(.of 0), (.of 1)], res := F136.res, body := F136.b0, init := in3 }
theorem F136.ok : fnA Tryz.prog Tryz.f136 [0, 1, 4] = some F136 := by kernel_rfl
abbrev F137.fr := fr2
def F137.b0 : IR := (iSr [iQo 1 (.mv (.c (.bool false)))] (iSr [iSm 0, .s (.bin .lss .int aS0 (.c (I (-999999999)))), .s (.mv aS0), iPf 0 (.mv aT0), iPf 1 (.bin .gtr .int aS0 mU), .s (.pick aS2 (.c (.bool true)) aS0), iQm 1 0] .ret))
def F137.res : List RV := [.t (.of 1)]
def F137 : Fn := { params := [(.of 0)], res := F137.res, body := F137.b0, init := in2 }
theorem F137.ok : fnA Tryz.prog Tryz.f137 [0, 2] = some F137 := by kernel_rfl
abbrev F138.fr := fr13
def F138.b12 : IR := (iSr [iSm 4, iSm 7, .s (.iaddr 1 aS1 aS0), .w .none none (.store 1 aS0 (.c (.bool true)))] (.reg [iSm 6, .s (.bin .add .int aS0 aC1), iQm 6 0]))
def F138.g11 (X12 : IR) : IR := (.block 3 X12)
def F138.b11 : IR := F138.g11 F138.b12
def F138.b13 : IR := (.reg [.s (.faddr 0 aT1), .s (.load aS0), iSm 7, .s (.iaddr 1 aS1 aS0), .s (.load aS0), iQm 7 0])
def F138.g10 (X11 X13 : IR) : IR := (.seq X11 X13)
def F138.b10 : IR := F138.g10 F138.b11 F138.b13
def F138.g9 (X10 : IR) : IR := (.seq (iSr [iSm 4, iSm 7, .s (.iaddr 1 aS1 aS0), .s (.load aS0), iQo 11 (.not aS0)] (.cond aT11 .skip (.exit 2))) X10)
def F138.b9 : IR := F138.g9 F138.b10
def F138.g8 (X9 : IR) : IR := (.loop X9)
def F138.b8 : IR := F138.g8 F138.b9
def F138.g7 (X8 : IR) : IR := (.block 2 X8)
def F138.b7 : IR := F138.g7 F138.b8
def F138.b14 : IR := (iSr [iSm 6, iQo 12 (.bin .gtr .int aS0 aC0)] (.cond aT12 (.reg [iSm 3, iSm 6, .w .push none (.bslice 1 1 [(I 0)] [(0, 1, aS0)]), .w .push none (.app 1 8 aS2 aS0), iQm 3 0]) .skip))
def F138.g6 (X7 X14 : IR) : IR := (iSr [iSm 9, iQm 5 0] (iSr [iQo 6 (.mv aC0)] (.seq (iSr [iSm 5, iQm 7 0] X7) X14)))
def F138.b6 : IR := F138.g6 F138.b7 F138.b14
def F138.g5 (X6 : IR) : IR := (.block 1 X6)
def F138.b5 : IR := F138.g5 F138.b6
def F138.b15 : IR := (.reg [.s (.bin .add .int aT9 aC1), iQm 9 0])
def F138.g4 (X5 X15 : IR) : IR := (.seq X5 X15)
def F138.b4 : IR := F138.g4 F138.b5 F138.b15
def F138.g3 (X4 : IR) : IR := (iSr [iQo 10 (.bin .lss .int aT9 aT8)] (.seq (.cond aT10 .skip (.exit 0)) X4))
def F138.b3 : IR := F138.g3 F138.b4
def F138.g2 (X3 : IR) : IR := (.loop X3)
def F138.b2 : IR := F138.g2 F138.b3
def F138.g1 (X2 : IR) : IR := (.block 0 X2)
def F138.b1 : IR := F138.g1 F138.b2
def F138.b16 : IR := (iSr [iSm 3, iQm 2 0] .ret)
def F138.g0 (X1 X16 : IR) : IR := (iSr [iWl 1 (.box aT0), iQo 2 (.mv (.c .nils))] (iSr [iQo 3 (.mv (.c .nils))] (iSr [.s (.faddr 0 aT1), .s (.load aS0), .s (.len aS0), .w .push none (.mkslice 1 1 [(.bool false)] aS0 aS0), iQm 4 0] (.seq (iSr [.s (.faddr 0 aT1), .s (.load aS0), iQo 8 (.len aS0), iQo 9 (.mv aC0)] X1) X16))))
def F138.b0 : IR := F138.g0 F138.b1 F138.b16
def F138.res : List RV := [.t (.of 2)]
def F138 : Fn := { params := [(.of 0)], res := F138.res, body := F138.b0, init := in13 }
theorem F138.ok : fnA Tryz.prog Tryz.f138 [0, 1, 2, 3, 4, 5, 6, 7, 14, 15, 16, 23, 35] = some F138 := by kernel_rfl
abbrev F139.fr := fr4
def F139.b5 : IR := (.dreg [] [(iSm 1, 0, []), (iSm 0, 0, []), (iSm 1, 0, []), (.s (.bin .rem .int aS1 aS0), 0, []), (iQm 0 3, 0, []), (iQm 1 0, 0, [])])
def F139.g4 (X5 : IR) : IR := (.block 1 X5)
def F139.b4 : IR := F139.g4 F139.b5
def F139.g3 (X4 : IR) : IR := (.seq (iSr [iSm 1, iQo 3 (.bin .neq .int aS0 aC0)] (.cond aT3 .skip (.exit 0))) X4)
def F139.b3 : IR := F139.g3 F139.b4
def F139.g2 (X3 : IR) : IR := (.loop X3)
def F139.b2 : IR := F139.g2 F139.b3
def F139.g1 (X2 : IR) : IR := (.block 0 X2)
def F139.b1 : IR := F139.g1 F139.b2
def F139.b6 : IR := (iSr [iSm 0, iQm 2 0] .ret)
def F139.g0 (X1 X6 : IR) : IR := (iSr [iQo 2 (.mv aC0)] (.seq X1 X6))
def F139.b0 : IR := F139.g0 F139.b1 F139.b6
def F139.res : List RV := [.t (.of 2)]
def F139 : Fn := { params := [(.of 0), (.of 1)], res := F139.res, body := F139.b0, init := in4 }
theorem F139.ok : fnA Tryz.prog Tryz.f139 [0, 1, 4, 6] = some F139 := by kernel_rfl
abbrev F140.fr := fr2
def F140.b0 : IR := (iSr [iQo 1 (.mv (.c (.bool false)))] (iSr [iSm 0, iCa 198 [aS0], .s (.bin .eql .int aS0 aC0), iQm 1 0] .ret))
def F140.res : List RV := [.t (.of 1)]
def F140 : Fn := { params := [(.of 0)], res := F140.res, body := F140.b0, init := in2 }
theorem F140.ok : fnA Tryz.prog Tryz.f140 [0, 2] = some F140 := by kernel_rfl
abbrev F145.fr := fr2
def F145.b0 : IR := (iSr [iQo 1 (.mv aC0)] (iSr [iSm 0, .s (.bin .lss .int aS0 aC1), .s (.mv aS0), iPf 0 (.mv aT0), iPf 1 (.bin .gtr .int aS0 aC16), .s (.pick aS2 (.c (.bool true)) aS0), iCa 96 [aS0, aC3], iQm 1 0] .ret))
def F145.res : List RV := [.t (.of 1)]
def F145 : Fn := { params := [(.of 0)], res := F145.res, body := F145.b0, init := in2 }
theorem F145.ok : fnA Tryz.prog Tryz.f145 [0, 2] = some F145 := by kernel_rfl
abbrev F146.fr := fr10
def F146.b6 : IR := (iSr [iSm 8, iQm 4 0] (.seq (.dreg [] [(iSm 2, 0, []), (iSm 4, 0, []), (iSm 1, 0, []), (.s (.bin .quo .int aS1 aS0), 0, []), (iSm 4, 0, []), (iSm 1, 0, []), (.s (.bin .rem .int aS1 aS0), 0, []), (.w .push none (.call aS6 [aS3, aS0]), 0, []), (.s (.mv aS0), 0, []), (.s (.ext 0 aS0), 0, []), (.s (.ext 1 aS1), 0, []), (iQm 5 1, 0, []), (iQm 6 0, 0, [])]) (.reg [.s (.faddr 0 aT3), .s (.load aS0), iSm 4, iSm 1, iSm 5, .s (.bin .mul .int aS1 aS0), iSm 6, .s (.bin .add .int aS1 aS0), .s (.iaddr 1 aS6 aS5), .w .none none (.store 1 aS0 aS1)])))
def F146.g5 (X6 : IR) : IR := (.block 1 X6)
def F146.b5 : IR := F146.g5 F146.b6
def F146.b7 : IR := (.reg [.s (.bin .add .int aT8 aC1), iQm 8 0])
def F146.g4 (X5 X7 : IR) : IR := (.seq X5 X7)
def F146.b4 : IR := F146.g4 F146.b5 F146.b7
def F146.g3 (X4 : IR) : IR := (iSr [iQo 9 (.bin .lss .int aT8 aT7)] (.seq (.cond aT9 .skip (.exit 0)) X4))
def F146.b3 : IR := F146.g3 F146.b4
def F146.g2 (X3 : IR) : IR := (.loop X3)
def F146.b2 : IR := F146.g2 F146.b3
def F146.g1 (X2 : IR) : IR := (.block 0 X2)
def F146.b1 : IR := F146.g1 F146.b2
def F146.b8 : IR := (.dreg [] [(iSm 0, 1, []), (.s (.loadN 2 aT3), 0, []), (.s (.loadN 2 aT3), 1, []), (iCa 123 [aS1], 0, []), (.w .none none (.mapup .str aS3 aS0 aS1), 0, [])])
def F146.g0 (X1 X8 : IR) : IR := (iSr [iSm 1, iSm 1, .s (.bin .mul .int aS1 aS0), .w .push none (.mkslice 1 8 [(I 0)] aS0 aS0), .s (.build [.nils, (.bool false)] [(0, 1, aS0)]), iWl 3 (.alloc [.nils, (.bool false)]), .w .none none (.store 2 aT3 aS0)] (.seq (iSr [.s (.faddr 0 aT3), .s (.load aS0), iQo 7 (.len aS0), iQo 8 (.mv aC0)] X1) X8))
def F146.b0 : IR := F146.g0 F146.b1 F146.b8
def F146.res : List RV := []
def F146 : Fn := { params := [(.of 0), (.of 1), (.of 2)], res := F146.res, body := F146.b0, init := in10 }
theorem F146.ok : fnA Tryz.prog Tryz.f146 [0, 1, 2, 6, 7, 8, 9, 17, 18, 19] = some F146 := by kernel_rfl
abbrev F147.fr := fr9
def F147.b3 : IR := (iSr [iSm 0, iSm 1, iQm 4 1, iQm 5 0] .ret)
def F147.g2 (X3 : IR) : IR := (.seq (iSr [.s (.load aT2), .s (.bin .and .int aS0 aC4), iQo 8 (.bin .neq .int aS0 aC0)] (.cond aT8 (iSr [iSm 1, iSm 0, iQm 4 1, iQm 5 0] .ret) .skip)) X3)
def F147.b2 : IR := F147.g2 F147.b3
def F147.g1 (X2 : IR) : IR := (.seq (iSr [.s (.load aT2), .s (.bin .and .int aS0 aC2), iQo 7 (.bin .neq .int aS0 aC0)] (.cond aT7 (.reg [.s (.load aT3), .s (.bin .sub .int aS0 aC1), iSm 1, .s (.bin .sub .int aS1 aS0), iQm 1 0]) .skip)) X2)
def F147.b1 : IR := F147.g1 F147.b2
def F147.g0 (X1 : IR) : IR := (iSr [iQo 4 (.mv aC0), iQo 5 (.mv aC0)] (.seq (iSr [.s (.load aT2), .s (.bin .and .int aS0 aC1), iQo 6 (.bin .neq .int aS0 aC0)] (.cond aT6 (.reg [.s (.load aT3), .s (.bin .sub .int aS0 aC1), iSm 0, .s (.bin .sub .int aS1 aS0), iQm 0 0]) .skip)) X1))
def F147.b0 : IR := F147.g0 F147.b1
def F147.res : List RV := [.t (.of 4), .t (.of 5)]
def F147 : Fn := { params := [(.of 0), (.of 1), (.of 2), (.of 3)], res := F147.res, body := F147.b0, init := in9 }
theorem F147.ok : fnA Tryz.prog Tryz.f147 [0, 1, 2, 3, 6, 7, 10, 17, 24] = some F147 := by kernel_rfl
abbrev F149.fr := fr12
def F149.b8 : IR := (.seq (.dreg [] [(.s (.load aT3), 0, []), (iSm 0, 0, []), (.s (.load aT3), 1, []), (.s (.load aT1), 1, []), (.s (.bin .sub .int aS0 aC1), 1, []), (iSm 0, 1, []), (.s (.bin .sub .int aS1 aS0), 1, []), (iSm 6, 0, []), (.s (.load aT1), 1, []), (.s (.bin .sub .int aS0 aC1), 1, []), (iSm 6, 1, []), (.s (.bin .sub .int aS1 aS0), 1, []), (.s (.iaddr 1 aS11 aS10), 0, []), (.w .none none (.store 1 aS0 aS5), 0, []), (.s (.iaddr 1 aS10 aS6), 0, []), (.w .none none (.store 1 aS0 aS2), 0, [])]) (.seq (.dreg [] [(.s (.load aT4), 0, []), (iSm 6, 0, []), (.s (.load aT4), 1, []), (.s (.load aT1), 1, []), (.s (.bin .sub .int aS0 aC1), 1, []), (iSm 6, 1, []), (.s (.bin .sub .int aS1 aS0), 1, []), (.s (.iaddr 1 aS6 aS5), 0, []), (.w .none none (.store 1 aS0 (.c (.bool true))), 0, []), (.s (.iaddr 1 aS5 aS1), 0, []), (.w .none none (.store 1 aS0 (.c (.bool true))), 0, [])]) (iSr [.s (.load aT5), iSm 0, .s (.bin .add .int aS0 aC1), .w .push none (.call aS2 [aS0])] (.dreg [] [(.s (.load aT4), 0, []), (iSm 6, 0, []), (.s (.load aT4), 1, []), (.s (.load aT1), 1, []), (.s (.bin .sub .int aS0 aC1), 1, []), (iSm 6, 1, []), (.s (.bin .sub .int aS1 aS0), 1, []), (.s (.iaddr 1 aS6 aS5), 0, []), (.w .none none (.store 1 aS0 (.c (.bool false))), 0, []), (.s (.iaddr 1 aS5 aS1), 0, []), (.w .none none (.store 1 aS0 (.c (.bool false))), 0, [])]))))
def F149.g7 (X8 : IR) : IR := (iSr [iSm 9, iQm 6 0] (.seq (iSr [.s (.load aT4), iSm 6, .s (.iaddr 1 aS1 aS0), .s (.load aS0), .s (.mv aS0), iPf 0 (.mv aT0), iPf 1 (.bin .mul .int aC2 aS0), iPf 2 (.load aT1), iPf 3 (.bin .sub .int aS0 aC1), iPf 4 (.bin .eql .int aS2 aS0), iPf 5 (.mv aT6), iPf 6 (.bin .mul .int aC2 aS0), iPf 7 (.load aT1), iPf 8 (.bin .sub .int aS0 aC1), iPf 9 (.bin .eql .int aS2 aS0), iPf 10 (.bin .neq .bool aS5 aS0), iQo 11 (.pick aS11 (.c (.bool true)) aS0)] (.cond aT11 (.exit 1) .skip)) X8))
def F149.b7 : IR := F149.g7 F149.b8
def F149.g6 (X7 : IR) : IR := (.block 1 X7)
def F149.b6 : IR := F149.g6 F149.b7
def F149.b9 : IR := (.reg [.s (.bin .add .int aT9 aC1), iQm 9 0])
def F149.g5 (X6 X9 : IR) : IR := (.seq X6 X9)
def F149.b5 : IR := F149.g5 F149.b6 F149.b9
def F149.g4 (X5 : IR) : IR := (iSr [iQo 10 (.bin .lss .int aT9 aT8)] (.seq (.cond aT10 .skip (.exit 0)) X5))
def F149.b4 : IR := F149.g4 F149.b5
def F149.g3 (X4 : IR) : IR := (.loop X4)
def F149.b3 : IR := F149.g3 F149.b4
def F149.g2 (X3 : IR) : IR := (.block 0 X3)
def F149.b2 : IR := F149.g2 F149.b3
def F149.g1 (X2 : IR) : IR := (iSr [iQo 8 (.load aT1), iQo 9 (.mv aC0)] X2)
def F149.b1 : IR := F149.g1 F149.b2
def F149.g0 (X1 : IR) : IR := (.seq (iSr [iSm 0, .s (.load aT1), .s (.bin .add .int aS0 aC1), .s (.bin .quo .int aS0 aC2), iQo 7 (.bin .eql .int aS3 aS0)] (.cond aT7 (iSr [.s (.load aT2), .s (.load aT1), .s (.fn 150 (.of 150) [aT3]), iCa 146 [aS2, aS1, aS0]] .ret) .skip)) X1)
def F149.b0 : IR := F149.g0 F149.b1
def F149.res : List RV := []
def F149 : Fn := { params := [(.of 0), (.of 1), (.of 2), (.of 3), (.of 4), (.of 5)], res := F149.res, body := F149.b0, init := in12 }
theorem F149.ok : fnA Tryz.prog Tryz.f149 [0, 1, 2, 3, 4, 5, 7, 12, 17, 18, 19, 37] = some F149 := by kernel_rfl
abbrev F150.fr := fr5
def F150.b0 : IR := (iSr [iQo 3 (.mv aC0), iQo 4 (.mv aC0)] (.seq (.dreg [] [(.s (.load aT2), 0, []), (iSm 0, 0, []), (.s (.iaddr 1 aS1 aS0), 0, []), (.s (.load aS0), 0, []), (.s (.load aT2), 0, []), (iSm 1, 0, []), (.s (.iaddr 1 aS1 aS0), 0, []), (.s (.load aS0), 0, []), (iQm 3 4, 0, []), (iQm 4 0, 0, [])]) .ret))
def F150.res : List RV := [.t (.of 3), .t (.of 4)]
def F150 : Fn := { params := [(.of 0), (.of 1), (.of 2)], res := F150.res, body := F150.b0, init := in5 }
theorem F150.ok : fnA Tryz.prog Tryz.f150 [0, 1, 2, 5, 6] = some F150 := by kernel_rfl
abbrev F156.fr := fr5
def F156.b1 : IR := (iSr [iSm 0, iSm 1, .s (.len aS0), iCa 22 [aS2, aS0], iQm 2 0] .ret)
def F156.g0 (X1 : IR) : IR := (iSr [iQo 2 (.mv aC0)] (.seq (iSr [iSm 1, iCa 134 [aS0], iQm 3 0] (iSr [iSm 3, iQo 4 (.bin .neq .int aS0 aC0)] (.cond aT4 (iSr [iSm 3, iQm 2 0] .ret) .skip))) X1))
def F156.b0 : IR := F156.g0 F156.b1
def F156.res : List RV := [.t (.of 2)]
def F156 : Fn := { params := [(.of 0), (.of 1)], res := F156.res, body := F156.b0, init := in5 }
theorem F156.ok : fnA Tryz.prog Tryz.f156 [0, 1, 4, 5, 9] = some F156 := by kernel_rfl
abbrev F157.fr := fr12
def F157.b3 : IR := (.reg [iWl 6 (.alloc [.nils, (.bool false)]), .w .none none (.store 2 aT6 aT10)])
def F157.b6 : IR := (.reg [.s (.load aT5), iSm 7, .w .push none (.bslice 1 1 [.nils] [(0, 1, aS0)]), .w .push none (.app 1 24 aS2 aS0), .w .none none (.store 1 aT5 aS0)])
def F157.g5 (X6 : IR) : IR := (iSr [.s (.loadN 2 aT6), .s (.load aT2), iCa 135 [aS1, aS0], iQm 7 0] (.seq (iSr [iSm 7, iWl 11 (.call (.c (.fn 136 (.of 136) [])) [aS0, (.c (.fn 137 (.of 137) []))])] (.cond aT11 (iSr [.w .none none (.store 1 aT3 (.c .nils)), .w .none none (.store 1 aT4 aC3)] .ret) .skip)) X6))
def F157.b5 : IR := F157.g5 F157.b6
def F157.g4 (X5 : IR) : IR := (.block 1 X5)
def F157.b4 : IR := F157.g4 F157.b5
def F157.g2 (X3 X4 : IR) : IR := (.rf aT8 [(.of 9), (.of 10)] X3 X4)
def F157.b2 : IR := F157.g2 F157.b3 F157.b4
def F157.g1 (X2 : IR) : IR := (.block 0 X2)
def F157.b1 : IR := F157.g1 F157.b2
def F157.b7 : IR := (iSr [.s (.load aT5), .w .push none (.call (.c (.fn 200 (.of 200) [])) [aS0, (.c (.fn 201 (.of 201) []))])] (iSr [.s (.load aT5), .w .push none (.call (.c (.fn 202 (.of 202) [])) [aS0, (.c (.fn 158 (.of 158) []))]), .w .none none (.store 1 aT3 aS0), .w .none none (.store 1 aT4 aC0)] .ret))
def F157.g0 (X1 X7 : IR) : IR := (iSr [iWl 2 (.box aT1), iWl 3 (.alloc [.nils]), iWl 4 (.alloc [(I 0)])] (iSr [iWl 5 (.alloc [.nils])] (.seq (iSr [iSm 0, iWl 8 (.call (.c (.fn 90 (.of 90) [])) [aS0])] X1) X7)))
def F157.b0 : IR := F157.g0 F157.b1 F157.b7
def F157.res : List RV := [.cell (.of 3) none, .cell (.of 4) none]
def F157 : Fn := { params := [(.of 0), (.of 1)], res := F157.res, body := F157.b0, init := in12 }
theorem F157.ok : fnA Tryz.prog Tryz.f157 [0, 1, 3, 4, 5, 6, 8, 9, 11, 12, 13, 18] = some F157 := by kernel_rfl
abbrev F158.fr := fr9
def F158.b7 : IR := (iSr [iSm 6, iQm 3 0] (.seq (.dreg [] [(iSm 0, 0, []), (iSm 3, 0, []), (.s (.iaddr 1 aS1 aS0), 0, []), (.s (.load aS0), 0, []), (iSm 1, 0, []), (iSm 3, 0, []), (.s (.iaddr 1 aS1 aS0), 0, []), (.s (.load aS0), 0, []), (iQo 8 (.bin .neq .int aS4 aS0), 0, [])]) (.cond aT8 (iSr [iQo 2 (.mv (.c (.bool false)))] .ret) .skip)))
def F158.g6 (X7 : IR) : IR := (.block 1 X7)
def F158.b6 : IR := F158.g6 F158.b7
def F158.b8 : IR := (.reg [.s (.bin .add .int aT6 aC1), iQm 6 0])
def F158.g5 (X6 X8 : IR) : IR := (.seq X6 X8)
def F158.b5 : IR := F158.g5 F158.b6 F158.b8
def F158.g4 (X5 : IR) : IR := (iSr [iQo 7 (.bin .lss .int aT6 aT5)] (.seq (.cond aT7 .skip (.exit 0)) X5))
def F158.b4 : IR := F158.g4 F158.b5
def F158.g3 (X4 : IR) : IR := (.loop X4)
def F158.b3 : IR := F158.g3 F158.b4
def F158.g2 (X3 : IR) : IR := (.block 0 X3)
def F158.b2 : IR := F158.g2 F158.b3
def F158.b9 : IR := (iSr [iQo 2 (.mv (.c (.bool true)))] .ret)
def F158.g1 (X2 X9 : IR) : IR := (.seq (iSr [iSm 0, iQo 5 (.len aS0), iQo 6 (.mv aC0)] X2) X9)
def F158.b1 : IR := F158.g1 F158.b2 F158.b9
def F158.g0 (X1 : IR) : IR := (iSr [iQo 2 (.mv (.c (.bool false)))] (.seq (iSr [iSm 0, .s (.len aS0), iSm 1, .s (.len aS0), iQo 4 (.bin .neq .int aS2 aS0)] (.cond aT4 (iSr [iQo 2 (.mv (.c (.bool false)))] .ret) .skip)) X1))
def F158.b0 : IR := F158.g0 F158.b1
def F158.res : List RV := [.t (.of 2)]
def F158 : Fn := { params := [(.of 0), (.of 1)], res := F158.res, body := F158.b0, init := in9 }
theorem F158.ok : fnA Tryz.prog Tryz.f158 [0, 1, 4, 5, 10, 12, 13, 14, 24] = some F158 := by kernel_rfl
abbrev F159.fr := fr9
def F159.b6 : IR := (iSr [iSm 6, .s (.iaddr 2 aT4 aT6), .s (.loadN 2 aS0), iWl 3 (.alloc [.nils, (.bool false)]), iQm 2 2, .w .none none (.store 2 aT3 aS0)] (iSr [iSm 0, iSm 2, .s (.loadN 2 aT3), .w .push none (.call aS2 [aS1, aS0]), iQo 8 (.not aS0)] (.cond aT8 .ret .skip)))
def F159.g5 (X6 : IR) : IR := (.block 1 X6)
def F159.b5 : IR := F159.g5 F159.b6
def F159.b7 : IR := (.reg [.s (.bin .add .int aT6 aC1), iQm 6 0])
def F159.g4 (X5 X7 : IR) : IR := (.seq X5 X7)
def F159.b4 : IR := F159.g4 F159.b5 F159.b7
def F159.g3 (X4 : IR) : IR := (iSr [iQo 7 (.bin .lss .int aT6 aT5)] (.seq (.cond aT7 .skip (.exit 0)) X4))
def F159.b3 : IR := F159.g3 F159.b4
def F159.g2 (X3 : IR) : IR := (.loop X3)
def F159.b2 : IR := F159.g2 F159.b3
def F159.g1 (X2 : IR) : IR := (.block 0 X2)
def F159.b1 : IR := F159.g1 F159.b2
def F159.g0 (X1 : IR) : IR := (iSr [iQo 4 (.load aT1), iQo 5 (.len aT4), iQo 6 (.mv aC0)] X1)
def F159.b0 : IR := F159.g0 F159.b1
def F159.res : List RV := []
def F159 : Fn := { params := [(.of 0), (.of 1)], res := F159.res, body := F159.b0, init := in9 }
theorem F159.ok : fnA Tryz.prog Tryz.f159 [0, 1, 3, 4, 5, 6, 7, 8, 16] = some F159 := by kernel_rfl
end
end Go.Ev
