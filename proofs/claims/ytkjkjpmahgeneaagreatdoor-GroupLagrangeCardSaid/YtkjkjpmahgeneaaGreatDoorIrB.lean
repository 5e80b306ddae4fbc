import Derived.Test.YtkjkjpmahgeneaaGreatDoorIrA
import Derived.Test.YtkjkjpmahgeneaaGreatDoorEvC
import Derived.Test.YtkjkjpmahgeneaaGreatDoorProg
import Derived.KernelRfl
set_option linter.unusedSimpArgs false
set_option linter.unusedVariables false
namespace Go.Ev
open Go Go.Proofs
set_option maxRecDepth 100000
noncomputable section

abbrev F88.fr := fr6
def F88.b6 : IR := (.seq (.yt [] [(iSm 0, 0, []), (iSm 3, 0, []), (.s (.zn 1 aS1 aS0), 0, []), (.s (.load aS0), 0, []), (iSm 1, 0, []), (iSm 3, 0, []), (.s (.zn 1 aS1 aS0), 0, []), (.s (.load aS0), 0, []), (iQo 5 (.bin .neq .int aS4 aS0), 0, [])]) (.cond aT5 (.seq (.yt [] [(iSm 0, 0, []), (iSm 3, 0, []), (.s (.zn 1 aS1 aS0), 0, []), (.s (.load aS0), 0, []), (iSm 1, 0, []), (iSm 3, 0, []), (.s (.zn 1 aS1 aS0), 0, []), (.s (.load aS0), 0, []), (.s (.bin .lss .int aS4 aS0), 0, []), (iQm 2 0, 0, [])]) .ret) .skip))
def F88.g5 (X6 : IR) : IR := (.block 1 X6)
def F88.b5 : IR := F88.g5 F88.b6
def F88.b7 : IR := (.reg [iSm 3, .s (.bin .add .int aS0 aC1), iQm 3 0])
def F88.g4 (X5 X7 : IR) : IR := (.seq X5 X7)
def F88.b4 : IR := F88.g4 F88.b5 F88.b7
def F88.g3 (X4 : IR) : IR := (.seq (iSr [iSm 3, iSm 0, .s (.len aS0), .s (.bin .lss .int aS2 aS0), .s (.mv aS0), iPt 0 (.mv aT3), iPt 1 (.mv aT1), iPt 2 (.len aS0), iPt 3 (.bin .lss .int aS2 aS0), iQo 4 (.pick aS4 aS0 (.c (.bool false)))] (.cond aT4 .skip (.exit 0))) X4)
def F88.b3 : IR := F88.g3 F88.b4
def F88.g2 (X3 : IR) : IR := (.loop X3)
def F88.b2 : IR := F88.g2 F88.b3
def F88.g1 (X2 : IR) : IR := (.block 0 X2)
def F88.b1 : IR := F88.g1 F88.b2
def F88.b8 : IR := (iSr [iSm 0, .s (.len aS0), iSm 1, .s (.len aS0), .s (.bin .lss .int aS2 aS0), iQm 2 0] .ret)
def F88.g0 (X1 X8 : IR) : IR := (iSr [iQo 2 (.mv (.c (.bool false)))] (.seq (iSr [iQo 3 (.mv aC0)] X1) X8))
def F88.b0 : IR := F88.g0 F88.b1 F88.b8
def F88.res : List RV := [.t (.of 2)]
def F88 : Fn := { params := [(.of 0), (.of 1)], res := F88.res, body := F88.b0, init := in6 }
theorem F88.ok : fnA Tryz.prog Tryz.f88 [0, 1, 4, 5, 15, 26] = some F88 := by kernel_rfl
abbrev F89.fr := fr1
def F89.b0 : IR := (iSr [iQo 0 (.mv (.c .zf))] (iSr [.w .push none (.zy 1 9 [(I 0)] [(0, 1, aC2), (1, 1, aC7), (2, 1, aC6), (3, 1, aC9), (4, 1, aC5), (5, 1, aC1), (6, 1, aC4), (7, 1, aC3), (8, 1, aC8)]), iQm 0 0] .ret))
def F89.res : List RV := [.t (.of 0)]
def F89 : Fn := { params := [], res := F89.res, body := F89.b0, init := in1 }
theorem F89.ok : fnA Tryz.prog Tryz.f89 [0] = some F89 := by kernel_rfl
abbrev F90.fr := fr3
def F90.b0 : IR := (iSr [iWl 1 (.box aT0), iQo 2 (.mv (.c .nilf))] (iSr [.s (.fn 159 (.of 159) [aT1]), iQm 2 0] .ret))
def F90.res : List RV := [.t (.of 2)]
def F90 : Fn := { params := [(.of 0)], res := F90.res, body := F90.b0, init := in3 }
theorem F90.ok : fnA Tryz.prog Tryz.f90 [0, 1, 2] = some F90 := by kernel_rfl
abbrev F91.fr := fr2
def F91.b0 : IR := (iSr [iSm 0, .s (.len aS0), iQm 1 0] (.reg [iSm 0, iSm 1, iSm 1, .s (.conv .u64 aS0), iCa 161 [aS0], iCa 160 [aS4, aC0, aS3, aS0]]))
def F91.res : List RV := []
def F91 : Fn := { params := [(.of 0)], res := F91.res, body := F91.b0, init := in2 }
theorem F91.ok : fnA Tryz.prog Tryz.f91 [0, 2] = some F91 := by kernel_rfl
abbrev F92.fr := fr20
def F92.b5 : IR := (iSr [iQo 8 (.mv aT16)] (.reg [iWl 9 (.alloc [.zf, (.bool false)]), .w .none none (.store 2 aT9 aT17)]))
def F92.b7 : IR := (.seq (.yt [] [(iSm 8, 0, []), (.s (.bin .gtr .int aS0 aC0), 0, []), (.s (.mv aS0), 0, []), (iPt 0 (.load aT2), 0, []), (iPt 1 (.mv aT8), 0, []), (iPt 2 (.bin .sub .int aS0 aC1), 0, []), (iPt 3 (.zn 2 aS2 aS0), 0, []), (iPt 4 (.zi 2 aS0), 0, []), (iPt 5 (.zi 2 aT9), 0, []), (.w .push (some (aS6, true)) (.call (.c (.fn 162 (.of 162) [])) [aS1, aS0]), 0, []), (iPt 7 (.bin .geq .int aS0 aC0), 0, []), (iQo 18 (.pick aS8 aS0 (.c (.bool false))), 0, [])]) (.cond aT18 (iSr [.w .none none (.store 1 aT3 (.c .jv)), .w .none none (.store 1 aT4 (.c .zf)), .w .none none (.store 1 aT5 aC11)] .ret) .skip))
def F92.g6 (X7 : IR) : IR := (.block 1 X7)
def F92.b6 : IR := F92.g6 F92.b7
def F92.g4 (X5 X6 : IR) : IR := (.rf aT15 [(.of 16), (.of 17)] X5 X6)
def F92.b4 : IR := F92.g4 F92.b5 F92.b6
def F92.g3 (X4 : IR) : IR := (.block 0 X4)
def F92.b3 : IR := F92.g3 F92.b4
def F92.b9 : IR := (iSr [iSm 10, iSm 11, .w .none none (.store 1 aT3 aS1), .w .none none (.store 1 aT4 aS0), .w .none none (.store 1 aT5 aC0)] .ret)
def F92.g8 (X9 : IR) : IR := (iSr [.s (.load aT2), iSm 1, .s (.load aT2), .s (.len aS0), iCa 98 [aS3, aS2, aS0], .s (.mv aS0), .s (.ext 0 aS0), .s (.ext 1 aS1), .s (.ext 2 aS2), iQm 10 2, iQm 11 1, iQm 12 0] (.seq (iSr [iSm 12, .s (.not aS0), .s (.mv aS0), iPf 0 (.mv bW), iPf 1 (.mlen aS0), iPf 2 (.load aT2), iPf 3 (.len aS0), iPf 4 (.bin .neq .int aS2 aS0), iQo 19 (.pick aS5 (.c (.bool true)) aS0)] (.cond aT19 (iSr [.w .none none (.store 1 aT3 (.c .jv)), .w .none none (.store 1 aT4 (.c .zf)), .w .none none (.store 1 aT5 aC28)] .ret) .skip)) X9))
def F92.b8 : IR := F92.g8 F92.b9
def F92.g2 (X3 X8 : IR) : IR := (.seq (iSr [.s (.load aT2), iWl 15 (.call (.c (.fn 90 (.of 90) [])) [aS0])] X3) X8)
def F92.b2 : IR := F92.g2 F92.b3 F92.b8
def F92.g1 (X2 : IR) : IR := (.seq (iSr [.s (.load aT2), iSm 1, iCa 97 [aS1, aS0], iQm 7 0] (iSr [iSm 7, iQo 14 (.bin .neq .int aS0 aC0)] (.cond aT14 (iSr [iSm 7, .w .none none (.store 1 aT3 (.c .jv)), .w .none none (.store 1 aT4 (.c .zf)), .w .none none (.store 1 aT5 aS0)] .ret) .skip))) X2)
def F92.b1 : IR := F92.g1 F92.b2
def F92.g0 (X1 : IR) : IR := (iSr [iWl 2 (.box aT0), iWl 3 (.alloc [.jv]), iWl 4 (.alloc [.zf]), iWl 5 (.alloc [(I 0)])] (.seq (.seq (.yt [] [(iSm 1, 0, []), (.s (.load aT2), 1, []), (.s (.len aS0), 1, []), (.s (.bin .eql .int aS0 aC0), 1, []), (.s (.load aT2), 2, []), (.s (.len aS0), 2, []), (.s (.bin .gtr .int aS0 aC1536), 2, []), (iCa 95 [aS6], 0, []), (iCa 96 [aS4, aC12], 0, []), (iCa 96 [aS2, aC5], 0, []), (.w .push none (.zy 1 3 [(I 0)] [(0, 1, aS2), (1, 1, aS1), (2, 1, aS0)]), 0, []), (iCa 94 [aS0], 0, []), (iQm 6 0, 0, [])]) (iSr [iSm 6, iQo 13 (.bin .neq .int aS0 aC0)] (.cond fK (iSr [iSm 6, .w .none none (.store 1 aT3 (.c .jv)), .w .none none (.store 1 aT4 (.c .zf)), .w .none none (.store 1 aT5 aS0)] .ret) .skip))) X1))
def F92.b0 : IR := F92.g0 F92.b1
def F92.res : List RV := [.cell (.of 3) none, .cell (.of 4) none, .cell (.of 5) none]
def F92 : Fn := { params := [(.of 0), (.of 1)], res := F92.res, body := F92.b0, init := in20 }
theorem F92.ok : fnA Tryz.prog Tryz.f92 [0, 1, 2, 4, 5, 6, 7, 8, 9, 10, 11, 12, 13, 27, 33, 36, 37, 38, 50, 68] = some F92 := by kernel_rfl
abbrev F93.fr := fr7
def F93.b8 : IR := (.reg [iSm 2, iSm 0, iSm 3, .s (.zn 1 aS1 aS0), .s (.load aS0), .s (.zn 1 aS4 aS0), .w .none none (.store 1 aS0 (.c (.bool true)))])
def F93.g7 (X8 : IR) : IR := (.seq (iSr [iSm 0, iSm 3, .s (.zn 1 aS1 aS0), .s (.load aS0), .s (.bin .lss .int aS0 aC0), .s (.mv aS0), iPf 0 (.mv aT0), iPf 1 (.mv aT3), iPf 2 (.zn 1 aS1 aS0), iPf 3 (.load aS0), iPf 4 (.mv aT0), iPf 5 (.len aS0), iPf 6 (.bin .geq .int aS2 aS0), .s (.pick aS7 (.c (.bool true)) aS0), .s (.mv aS0), iPf 0 (.mv aT2), iPf 1 (.mv aT0), iPf 2 (.mv aT3), iPf 3 (.zn 1 aS1 aS0), iPf 4 (.load aS0), iPf 5 (.zn 1 aS4 aS0), iPf 6 (.load aS0), iQo 6 (.pick aS7 (.c (.bool true)) aS0)] (.cond aT6 (iSr [iQo 1 (.mv aC14)] .ret) .skip)) X8)
def F93.b7 : IR := F93.g7 F93.b8
def F93.g6 (X7 : IR) : IR := (.block 1 X7)
def F93.b6 : IR := F93.g6 F93.b7
def F93.b9 : IR := (.reg [iSm 3, .s (.bin .add .int aS0 aC1), iQm 3 0])
def F93.g5 (X6 X9 : IR) : IR := (.seq X6 X9)
def F93.b5 : IR := F93.g5 F93.b6 F93.b9
def F93.g4 (X5 : IR) : IR := (.seq (iSr [iSm 3, iSm 0, .s (.len aS0), iQo 5 (.bin .lss .int aS2 aS0)] (.cond aT5 .skip (.exit 0))) X5)
def F93.b4 : IR := F93.g4 F93.b5
def F93.g3 (X4 : IR) : IR := (.loop X4)
def F93.b3 : IR := F93.g3 F93.b4
def F93.g2 (X3 : IR) : IR := (.block 0 X3)
def F93.b2 : IR := F93.g2 F93.b3
def F93.b10 : IR := (iSr [iQo 1 (.mv aC0)] .ret)
def F93.g1 (X2 X10 : IR) : IR := (iSr [iSm 0, .s (.len aS0), .w .push none (.um 1 1 [(.bool false)] aS0 aS0), iQm 2 0] (.seq (iSr [iQo 3 (.mv aC0)] X2) X10))
def F93.b1 : IR := F93.g1 F93.b2 F93.b10
def F93.g0 (X1 : IR) : IR := (iSr [iQo 1 (.mv aC0)] (.seq (iSr [iSm 0, .s (.len aS0), iQo 4 (.bin .gtr .int aS0 aC256)] (.cond aT4 (iSr [iQo 1 (.mv aC5)] .ret) .skip)) X1))
def F93.b0 : IR := F93.g0 F93.b1
def F93.res : List RV := [.t (.of 1)]
def F93 : Fn := { params := [(.of 0)], res := F93.res, body := F93.b0, init := in7 }
theorem F93.ok : fnA Tryz.prog Tryz.f93 [0, 2, 3, 4, 7, 14, 39] = some F93 := by kernel_rfl
abbrev F94.fr := fr8
def F94.b6 : IR := (iSr [.s (.zn 1 aT3 aT5), .s (.load aS0), iQm 2 0] (iSr [iSm 2, iQo 7 (.bin .neq .int aS0 aC0)] (.cond aT7 (iSr [iSm 2, iQm 1 0] .ret) .skip)))
def F94.g5 (X6 : IR) : IR := (.block 1 X6)
def F94.b5 : IR := F94.g5 F94.b6
def F94.b7 : IR := (.reg [.s (.bin .add .int aT5 aC1), iQm 5 0])
def F94.g4 (X5 X7 : IR) : IR := (.seq X5 X7)
def F94.b4 : IR := F94.g4 F94.b5 F94.b7
def F94.g3 (X4 : IR) : IR := (iSr [iQo 6 (.bin .lss .int aT5 aT4)] (.seq (.cond aT6 .skip (.exit 0)) X4))
def F94.b3 : IR := F94.g3 F94.b4
def F94.g2 (X3 : IR) : IR := (.loop X3)
def F94.b2 : IR := F94.g2 F94.b3
def F94.g1 (X2 : IR) : IR := (.block 0 X2)
def F94.b1 : IR := F94.g1 F94.b2
def F94.b8 : IR := (iSr [iQo 1 (.mv aC0)] .ret)
def F94.g0 (X1 X8 : IR) : IR := (iSr [iQo 1 (.mv aC0)] (.seq (iSr [iQo 3 (.mv aT0), iQo 4 (.len aT3), iQo 5 (.mv aC0)] X1) X8))
def F94.b0 : IR := F94.g0 F94.b1 F94.b8
def F94.res : List RV := [.t (.of 1)]
def F94 : Fn := { params := [(.of 0)], res := F94.res, body := F94.b0, init := in8 }
theorem F94.ok : fnA Tryz.prog Tryz.f94 [0, 2, 4, 5, 6, 7, 8, 12] = some F94 := by kernel_rfl
abbrev F95.fr := fr2
def F95.b0 : IR := (iSr [iQo 1 (.mv aC0)] (iSr [iSm 0, .s (.bin .lss .int aS0 aC0), .s (.mv aS0), iPf 0 (.mv aT0), iPf 1 (.bin .gtr .int aS0 aC256), .s (.pick aS2 (.c (.bool true)) aS0), iCa 96 [aS0, aC3], iQm 1 0] .ret))
def F95.res : List RV := [.t (.of 1)]
def F95 : Fn := { params := [(.of 0)], res := F95.res, body := F95.b0, init := in2 }
theorem F95.ok : fnA Tryz.prog Tryz.f95 [0, 2] = some F95 := by kernel_rfl
abbrev F96.fr := fr4
def F96.b1 : IR := (iSr [iQo 2 (.mv aC0)] .ret)
def F96.g0 (X1 : IR) : IR := (iSr [iQo 2 (.mv aC0)] (.seq (iSr [iQo 3 (.mv aT0)] (.cond aT3 (iSr [iSm 1, iQm 2 0] .ret) .skip)) X1))
def F96.b0 : IR := F96.g0 F96.b1
def F96.res : List RV := [.t (.of 2)]
def F96 : Fn := { params := [(.of 0), (.of 1)], res := F96.res, body := F96.b0, init := in4 }
theorem F96.ok : fnA Tryz.prog Tryz.f96 [0, 1, 4, 5] = some F96 := by kernel_rfl
abbrev F97.fr := fr10
def F97.b6 : IR := (iSr [.s (.zn 2 aT5 aT7), .s (.zi 2 aS0), iWl 3 (.alloc [.zf, (.bool false)]), .w .none none (.store 2 aT3 aS0)] (iSr [.s (.zi 2 aT3), iSm 1, iCa 56 [aS1, aS0], iQm 4 0] (iSr [iSm 4, iQo 9 (.bin .neq .int aS0 aC0)] (.cond aT9 (iSr [iSm 4, iQm 2 0] .ret) .skip))))
def F97.g5 (X6 : IR) : IR := (.block 1 X6)
def F97.b5 : IR := F97.g5 F97.b6
def F97.b7 : IR := (.reg [.s (.bin .add .int aT7 aC1), iQm 7 0])
def F97.g4 (X5 X7 : IR) : IR := (.seq X5 X7)
def F97.b4 : IR := F97.g4 F97.b5 F97.b7
def F97.g3 (X4 : IR) : IR := (iSr [iQo 8 (.bin .lss .int aT7 aT6)] (.seq (.cond aT8 .skip (.exit 0)) X4))
def F97.b3 : IR := F97.g3 F97.b4
def F97.g2 (X3 : IR) : IR := (.loop X3)
def F97.b2 : IR := F97.g2 F97.b3
def F97.g1 (X2 : IR) : IR := (.block 0 X2)
def F97.b1 : IR := F97.g1 F97.b2
def F97.b8 : IR := (iSr [iQo 2 (.mv aC0)] .ret)
def F97.g0 (X1 X8 : IR) : IR := (iSr [iQo 2 (.mv aC0)] (.seq (iSr [iQo 5 (.mv aT0), iQo 6 (.len aT5), iQo 7 (.mv aC0)] X1) X8))
def F97.b0 : IR := F97.g0 F97.b1 F97.b8
def F97.res : List RV := [.t (.of 2)]
def F97 : Fn := { params := [(.of 0), (.of 1)], res := F97.res, body := F97.b0, init := in10 }
theorem F97.ok : fnA Tryz.prog Tryz.f97 [0, 1, 4, 6, 7, 8, 9, 10, 11, 18] = some F97 := by kernel_rfl
abbrev F98.fr := fr25
def F98.b3 : IR := (.reg [iWl 10 (.alloc [.zf, (.bool false)]), .w .none none (.store 2 bW aT16)])
def F98.b20 : IR := (.seq (.yt [] [(.s (.load aT8), 1, []), (.s (.zi 2 fK), 0, []), (.s (.zi 2 fK), 1, []), (iCa 123 [aS1], 0, []), (.w .none none (.mapup .str aS3 aS0 aS1), 0, [])]) (.reg [iSm 11, .s (.zi 2 fK), .w .push none (.zy 2 1 [.zf, (.bool false)] [(0, 2, aS0)]), .w .push none (.appq 2 32 aS2 aS0), iQm 11 0]))
def F98.g19 (X20 : IR) : IR := (.seq (iSr [.s (.load aT8), .s (.mlen aS0), .s (.load aT3), iQo 24 (.bin .eql .int aS1 aS0)] (.cond aT24 (iSr [.w .none none (.store 1 aT4 (.c .jv)), .w .none none (.store 1 aT5 (.c .zf)), .w .none none (.store 1 aT6 (.c (.bool false)))] .ret) .skip)) X20)
def F98.b19 : IR := F98.g19 F98.b20
def F98.g18 (X19 : IR) : IR := (iSr [.s (.zn 2 aT19 aT21), .s (.zi 2 aS0), iWl 12 (.alloc [.zf, (.bool false)]), .w .none none (.store 2 aT12 aS0)] (.seq (.yt [(.alloc [.zf, (.bool false)])] [(.s (.zi 2 aT12), 2, []), (iSm 11, 2, []), (.s (.zn 2 aS0 aC0), 2, []), (.s (.zi 2 aS0), 2, []), (iCa 122 [aS3, aS0], 0, []), (iWl 13 (.alloc [.zf, (.bool false)]), 0, []), (.w .none none (.store 2 fK aS0), 0, [])]) (.seq (iSr [.s (.load aT8), .s (.zi 2 fK), iWl 23 (.call (.c (.fn 121 (.of 121) [])) [aS1, aS0])] (.cond aT23 (.exit 5) .skip)) X19)))
def F98.b18 : IR := F98.g18 F98.b19
def F98.g17 (X18 : IR) : IR := (.block 5 X18)
def F98.b17 : IR := F98.g17 F98.b18
def F98.b21 : IR := (.reg [.s (.bin .add .int aT21 aC1), iQm 21 0])
def F98.g16 (X17 X21 : IR) : IR := (.seq X17 X21)
def F98.b16 : IR := F98.g16 F98.b17 F98.b21
def F98.g15 (X16 : IR) : IR := (iSr [iQo 22 (.bin .lss .int aT21 aT20)] (.seq (.cond aT22 .skip (.exit 4)) X16))
def F98.b15 : IR := F98.g15 F98.b16
def F98.g14 (X15 : IR) : IR := (.loop X15)
def F98.b14 : IR := F98.g14 F98.b15
def F98.g13 (X14 : IR) : IR := (.block 4 X14)
def F98.b13 : IR := F98.g13 F98.b14
def F98.g12 (X13 : IR) : IR := (iSr [iQo 19 (.load aT9), iQo 20 (.len aT19), iQo 21 (.mv aC0)] X13)
def F98.b12 : IR := F98.g12 F98.b13
def F98.g11 (X12 : IR) : IR := (.block 3 X12)
def F98.b11 : IR := F98.g11 F98.b12
def F98.b22 : IR := (.reg [iSm 11, .s (.slice 2 aS0 (some aC1) none none), iQm 11 0])
def F98.g10 (X11 X22 : IR) : IR := (.seq X11 X22)
def F98.b10 : IR := F98.g10 F98.b11 F98.b22
def F98.g9 (X10 : IR) : IR := (.seq (iSr [iSm 11, .s (.len aS0), iQo 18 (.bin .gtr .int aS0 aC0)] (.cond aT18 .skip (.exit 2))) X10)
def F98.b9 : IR := F98.g9 F98.b10
def F98.g8 (X9 : IR) : IR := (.loop X9)
def F98.b8 : IR := F98.g8 F98.b9
def F98.g7 (X8 : IR) : IR := (.block 2 X8)
def F98.b7 : IR := F98.g7 F98.b8
def F98.g6 (X7 : IR) : IR := (iSr [.s (.load aT9), .s (.zi 2 bW), .w .push none (.zy 2 1 [.zf, (.bool false)] [(0, 2, aS0)]), .w .push none (.appq 2 32 aS2 aS0), .w .none none (.store 1 aT9 aS0)] (.seq (.yt [.fH] [(.s (.zi 2 aT7), 2, []), (.s (.zi 2 aT7), 2, []), (iCa 123 [aS1], 0, []), (.w .push none .fH, 0, []), (.w .none none (.mapup .str aS0 aS1 aS2), 0, []), (.s (.mv aS0), 0, []), (.w .none none (.store 1 aT8 aS0), 0, [])]) (iSr [.s (.zi 2 aT7), .w .push none (.zy 2 1 [.zf, (.bool false)] [(0, 2, aS0)]), iQm 11 0] X7)))
def F98.b6 : IR := F98.g6 F98.b7
def F98.g5 (X6 : IR) : IR := (.seq (iSr [.s (.load aT8), .s (.zi 2 bW), iWl 17 (.call (.c (.fn 121 (.of 121) [])) [aS1, aS0])] (.cond aT17 (.exit 1) .skip)) X6)
def F98.b5 : IR := F98.g5 F98.b6
def F98.g4 (X5 : IR) : IR := (.block 1 X5)
def F98.b4 : IR := F98.g4 F98.b5
def F98.g2 (X3 X4 : IR) : IR := (.rf aT14 [(.of 15), (.of 16)] X3 X4)
def F98.b2 : IR := F98.g2 F98.b3 F98.b4
def F98.g1 (X2 : IR) : IR := (.block 0 X2)
def F98.b1 : IR := F98.g1 F98.b2
def F98.b23 : IR := (.seq (.yt [] [(.s (.load aT8), 0, []), (.s (.load aT9), 1, []), (.w .none none (.store 1 aT4 aS1), 0, []), (.w .none none (.store 1 aT5 aS0), 0, []), (.w .none none (.store 1 aT6 (.c (.bool true))), 0, [])]) .ret)
def F98.g0 (X1 X23 : IR) : IR := (iSr [iWl 3 (.box aT2), iWl 4 (.alloc [.jv]), iWl 5 (.alloc [.zf]), iWl 6 (.alloc [(.bool false)])] (iSr [iSm 1, iCa 163 [aS0], iWl 7 (.alloc [.zf, (.bool false)]), .w .none none (.store 2 aT7 aS0)] (.seq (.yt [.fH, (.alloc [.jv])] [(.s (.zi 2 aT7), 4, []), (.s (.zi 2 aT7), 4, []), (iCa 123 [aS1], 0, []), (.w .push none .fH, 0, []), (.w .none none (.mapup .str aS0 aS1 aS2), 0, []), (.s (.mv aS0), 1, []), (iWl 8 (.alloc [.jv]), 0, []), (.w .none none (.store 1 aT8 aS0), 0, [])]) (iSr [iWl 9 (.alloc [.zf])] (.seq (iSr [iSm 0, iWl 14 (.call (.c (.fn 90 (.of 90) [])) [aS0])] X1) X23)))))
def F98.b0 : IR := F98.g0 F98.b1 F98.b23
def F98.res : List RV := [.cell (.of 4) none, .cell (.of 5) none, .cell (.of 6) none]
def F98 : Fn := { params := [(.of 0), (.of 1), (.of 2)], res := F98.res, body := F98.b0, init := in25 }
theorem F98.ok : fnA Tryz.prog Tryz.f98 [0, 1, 2, 5, 6, 7, 8, 9, 10, 11, 13, 14, 16, 17, 26, 27, 28, 31, 45, 48, 49, 50, 51, 61, 65] = some F98 := by kernel_rfl
abbrev F99.fr := fr12
def F99.b5 : IR := (iSr [.s (.entry aT6), .s (.ext 1 aS0), iWl 3 (.alloc [.zf, (.bool false)]), .w .none none (.store 2 aT3 aS0)] (.reg [iSm 2, .s (.zi 2 aT3), .w .push none (.zy 2 1 [.zf, (.bool false)] [(0, 2, aS0)]), .w .push none (.appq 2 32 aS2 aS0), iQm 2 0]))
def F99.g4 (X5 : IR) : IR := (.block 1 X5)
def F99.b4 : IR := F99.g4 F99.b5
def F99.g3 (X4 : IR) : IR := (iSr [.w .push none (.next aT6), iQo 7 (.ext 0 aS0)] (.seq (.cond aT7 .skip (.exit 0)) X4))
def F99.b3 : IR := F99.g3 F99.b4
def F99.g2 (X3 : IR) : IR := (.loop X3)
def F99.b2 : IR := F99.g2 F99.b3
def F99.g1 (X2 : IR) : IR := (.block 0 X2)
def F99.b1 : IR := F99.g1 F99.b2
def F99.b12 : IR := (iSr [.s (.zn 2 aT8 bW), .s (.zi 2 aS0), iWl 5 (.alloc [.zf, (.bool false)]), .w .none none (.store 2 aT5 aS0)] (.reg [iSm 4, .s (.zi 2 aT5), .w .push none (.zy 2 1 [.zf, (.bool false)] [(0, 2, aS0)]), .w .push none (.appq 2 32 aS2 aS0), iQm 4 0]))
def F99.g11 (X12 : IR) : IR := (.block 3 X12)
def F99.b11 : IR := F99.g11 F99.b12
def F99.b13 : IR := (.reg [.s (.bin .add .int bW aC1), iQm 10 0])
def F99.g10 (X11 X13 : IR) : IR := (.seq X11 X13)
def F99.b10 : IR := F99.g10 F99.b11 F99.b13
def F99.g9 (X10 : IR) : IR := (iSr [iQo 11 (.bin .lss .int bW aT9)] (.seq (.cond aT11 .skip (.exit 2)) X10))
def F99.b9 : IR := F99.g9 F99.b10
def F99.g8 (X9 : IR) : IR := (.loop X9)
def F99.b8 : IR := F99.g8 F99.b9
def F99.g7 (X8 : IR) : IR := (.block 2 X8)
def F99.b7 : IR := F99.g7 F99.b8
def F99.b14 : IR := (iSr [iSm 4, iQm 1 0] .ret)
def F99.g6 (X7 X14 : IR) : IR := (iSr [iSm 2, .w .push none (.call (.c (.fn 164 (.of 164) [])) [aS0, (.c (.fn 162 (.of 162) []))])] (iSr [iQo 4 (.mv (.c .zf))] (.seq (iSr [iQo 8 (.mv aT2), iQo 9 (.len aT8), iQo 10 (.mv aC0)] X7) X14)))
def F99.b6 : IR := F99.g6 F99.b7 F99.b14
def F99.g0 (X1 X6 : IR) : IR := (iSr [iQo 1 (.mv (.c .zf))] (iSr [iQo 2 (.mv (.c .zf))] (.seq (iSr [iSm 0, iWl 6 (.range aS0)] X1) X6)))
def F99.b0 : IR := F99.g0 F99.b1 F99.b6
def F99.res : List RV := [.t (.of 1)]
def F99 : Fn := { params := [(.of 0)], res := F99.res, body := F99.b0, init := in12 }
theorem F99.ok : fnA Tryz.prog Tryz.f99 [0, 2, 3, 5, 6, 8, 10, 12, 21, 22, 23, 24] = some F99 := by kernel_rfl
abbrev vg.fr := fr11
def vg.b7 : IR := (iSr [iSm 8, iQm 4 0] (iSr [.s (.zi 2 aT1), iSm 4, iCa 168 [aS1, aS0], iQm 5 0] (iSr [iSm 5, iQo 10 (.bin .neq .int aS0 aC0)] (.cond bW (iSr [iSm 5, iQm 2 0] .ret) .skip))))
def vg.g6 (X7 : IR) : IR := (.block 1 X7)
def vg.b6 : IR := vg.g6 vg.b7
def vg.b8 : IR := (.reg [.s (.bin .add .int aT8 aC1), iQm 8 0])
def vg.g5 (X6 X8 : IR) : IR := (.seq X6 X8)
def vg.b5 : IR := vg.g5 vg.b6 vg.b8
def vg.g4 (X5 : IR) : IR := (iSr [iQo 9 (.bin .lss .int aT8 aT7)] (.seq (.cond aT9 .skip (.exit 0)) X5))
def vg.b4 : IR := vg.g4 vg.b5
def vg.g3 (X4 : IR) : IR := (.loop X4)
def vg.b3 : IR := vg.g3 vg.b4
def vg.g2 (X3 : IR) : IR := (.block 0 X3)
def vg.b2 : IR := vg.g2 vg.b3
def vg.b9 : IR := (iSr [iQo 2 (.mv aC0)] .ret)
def vg.g1 (X2 X9 : IR) : IR := (.seq (iSr [.s (.zx 1 aT1), .s (.load aS0), iQo 7 (.len aS0), iQo 8 (.mv aC0)] X2) X9)
def vg.b1 : IR := vg.g1 vg.b2 vg.b9
def vg.g0 (X1 : IR) : IR := (iSr [iWl 1 (.box aT0), iQo 2 (.mv aC0)] (.seq (.seq (.yt [] [(.s (.zx 0 aT1), 0, []), (.s (.load aS0), 0, []), (.s (.zx 1 aT1), 2, []), (.s (.load aS0), 2, []), (.s (.len aS0), 2, []), (.s (.bin .gtr .int aS0 aC128), 2, []), (.w .push none (.zy 1 1 [(I 0)] [(0, 1, aS4)]), 0, []), (iCa 166 [aC1, aC256, aS0], 0, []), (iCa 167 [aS2, aC5], 0, []), (.w .push none (.zy 1 2 [(I 0)] [(0, 1, aS1), (1, 1, aS0)]), 0, []), (iCa 165 [aS0], 0, []), (iQm 3 0, 0, [])]) (iSr [iSm 3, iQo 6 (.bin .neq .int aS0 aC0)] (.cond aT6 (iSr [iSm 3, iQm 2 0] .ret) .skip))) X1))
def vg.b0 : IR := vg.g0 vg.b1
def vg.res : List RV := [.t (.of 2)]
def vg : Fn := { params := [(.of 0)], res := vg.res, body := vg.b0, init := in11 }
theorem vg.ok : fnA Tryz.prog Tryz.f103 [0, 1, 2, 3, 4, 5, 18, 22, 23, 24, 30] = some vg := by kernel_rfl
abbrev bH.fr := fr9
def bH.b6 : IR := (iSr [.s (.zn 1 aT5 aT7), .s (.load aS0), iQm 4 0] (.yt [] [(.s (.load aT3), 1, []), (iSm 4, 0, []), (.s (.build [.zf, (.bool false)] [(0, 1, aS0)]), 0, []), (iCa 123 [aS0], 0, []), (.w .none none (.mapup .str aS3 aS0 (.c (.bool true))), 0, [])]))
def bH.g5 (X6 : IR) : IR := (.block 1 X6)
def bH.b5 : IR := bH.g5 bH.b6
def bH.b7 : IR := (.reg [.s (.bin .add .int aT7 aC1), iQm 7 0])
def bH.g4 (X5 X7 : IR) : IR := (.seq X5 X7)
def bH.b4 : IR := bH.g4 bH.b5 bH.b7
def bH.g3 (X4 : IR) : IR := (iSr [iQo 8 (.bin .lss .int aT7 aT6)] (.seq (.cond aT8 .skip (.exit 0)) X4))
def bH.b3 : IR := bH.g3 bH.b4
def bH.g2 (X3 : IR) : IR := (.loop X3)
def bH.b2 : IR := bH.g2 bH.b3
def bH.g1 (X2 : IR) : IR := (.block 0 X2)
def bH.b1 : IR := bH.g1 bH.b2
def bH.b8 : IR := (iSr [.s (.fn 169 (.of 169) [aT3]), iQm 2 0] .ret)
def bH.g0 (X1 X8 : IR) : IR := (iSr [iWl 1 (.box aT0), iQo 2 (.mv (.c .nilf))] (iSr [.w .push none .fH, iWl 3 (.alloc [.jv]), .w .none none (.store 1 aT3 aS0)] (.seq (iSr [.s (.zx 1 aT1), iQo 5 (.load aS0), iQo 6 (.len aT5), iQo 7 (.mv aC0)] X1) X8)))
def bH.b0 : IR := bH.g0 bH.b1 bH.b8
def bH.res : List RV := [.t (.of 2)]
def bH : Fn := { params := [(.of 0)], res := bH.res, body := bH.b0, init := in9 }
theorem bH.ok : fnA Tryz.prog Tryz.f104 [0, 1, 2, 3, 5, 8, 9, 10, 11] = some bH := by kernel_rfl
abbrev jr.fr := fr23
def jr.b14 : IR := (iSr [.s (.zn 1 aT17 aT19), .s (.load aS0), iQm 10 0] (iSr [.s (.load aT6), .s (.load aT3), iSm 10, .w .push none (.call aS2 [aS1, aS0]), iQo 21 (.not aS0)] (.cond aT21 (.exit 1) .skip)))
def jr.g13 (X14 : IR) : IR := (.block 3 X14)
def jr.b13 : IR := jr.g13 jr.b14
def jr.b15 : IR := (.reg [.s (.bin .add .int aT19 aC1), iQm 19 0])
def jr.g12 (X13 X15 : IR) : IR := (.seq X13 X15)
def jr.b12 : IR := jr.g12 jr.b13 jr.b15
def jr.g11 (X12 : IR) : IR := (iSr [iQo 20 (.bin .lss .int aT19 aT18)] (.seq (.cond aT20 .skip (.exit 2)) X12))
def jr.b11 : IR := jr.g11 jr.b12
def jr.g10 (X11 : IR) : IR := (.loop X11)
def jr.b10 : IR := jr.g10 jr.b11
def jr.g9 (X10 : IR) : IR := (.block 2 X10)
def jr.b9 : IR := jr.g9 jr.b10
def jr.b16 : IR := (iSr [.s (.load aT4), iSm 9, .s (.zn 1 aS1 aS0), .w .none none (.store 1 aS0 (.c (.bool true)))] (iSr [.s (.load aT7), iSm 0, .s (.bin .add .int aS0 aC1), .w .push none (.call aS2 [aS0]), iQm 11 0] (iSr [.s (.load aT4), iSm 9, .s (.zn 1 aS1 aS0), .w .none none (.store 1 aS0 (.c (.bool false)))] (iSr [iSm 11, iQo 22 (.not aS0)] (.cond aT22 (iSr [iQo 8 (.mv (.c (.bool false)))] .ret) .skip)))))
def jr.g8 (X9 X16 : IR) : IR := (iSr [.s (.load aT3), iSm 0, iSm 9, .s (.zn 1 aS2 aS1), .w .none none (.store 1 aS0 aS1)] (.seq (iSr [.s (.load aT5), iSm 0, .s (.zn 1 aS1 aS0), iQo 17 (.load aS0), iQo 18 (.len aT17), iQo 19 (.mv aC0)] X9) X16))
def jr.b8 : IR := jr.g8 jr.b9 jr.b16
def jr.g7 (X8 : IR) : IR := (iSr [iSm 14, iQm 9 0] (.seq (iSr [.s (.load aT4), iSm 9, .s (.zn 1 aS1 aS0), iQo 16 (.load aS0)] (.cond aT16 (.exit 1) .skip)) X8))
def jr.b7 : IR := jr.g7 jr.b8
def jr.g6 (X7 : IR) : IR := (.block 1 X7)
def jr.b6 : IR := jr.g6 jr.b7
def jr.b17 : IR := (.reg [.s (.bin .add .int aT14 aC1), iQm 14 0])
def jr.g5 (X6 X17 : IR) : IR := (.seq X6 X17)
def jr.b5 : IR := jr.g5 jr.b6 jr.b17
def jr.g4 (X5 : IR) : IR := (iSr [iQo 15 (.bin .lss .int aT14 fK)] (.seq (.cond aT15 .skip (.exit 0)) X5))
def jr.b4 : IR := jr.g4 jr.b5
def jr.g3 (X4 : IR) : IR := (.loop X4)
def jr.b3 : IR := jr.g3 jr.b4
def jr.g2 (X3 : IR) : IR := (.block 0 X3)
def jr.b2 : IR := jr.g2 jr.b3
def jr.b18 : IR := (iSr [iQo 8 (.mv (.c (.bool true)))] .ret)
def jr.g1 (X2 X18 : IR) : IR := (.seq .skip (.seq (iSr [.s (.zx 0 aT1), iQo 13 (.load aS0), iQo 14 (.mv aC0)] X2) X18))
def jr.b1 : IR := jr.g1 jr.b2 jr.b18
def jr.g0 (X1 : IR) : IR := (iSr [iQo 8 (.mv (.c (.bool false)))] (.seq (iSr [iSm 0, .s (.zx 0 aT1), .s (.load aS0), iQo 12 (.bin .eql .int aS2 aS0)] (.cond aT12 (.seq (.yt [] [(.s (.load aT2), 2, []), (.s (.load aT3), 0, []), (iCa 106 [aS0], 0, []), (.s (.build [.zf, (.bool false)] [(0, 1, aS0)]), 0, []), (.w .push none (.zy 2 1 [.zf, (.bool false)] [(0, 2, aS0)]), 0, []), (.w .push none (.appq 2 32 aS4 aS0), 0, []), (.w .none none (.store 1 aT2 aS0), 0, [])]) (iSr [.s (.load aT2), .s (.len aS0), .s (.bin .leq .int aS0 aC1536), iQm 8 0] .ret)) .skip)) X1))
def jr.b0 : IR := jr.g0 jr.b1
def jr.res : List RV := [.t (.of 8)]
def jr : Fn := { params := [(.of 0), (.of 1), (.of 2), (.of 3), (.of 4), (.of 5), (.of 6), (.of 7)], res := jr.res, body := jr.b0, init := in23 }
theorem jr.ok : fnA Tryz.prog Tryz.f105 [0, 1, 2, 3, 4, 5, 6, 7, 9, 10, 12, 13, 17, 28, 29, 30, 35, 43, 44, 45, 46, 53, 66] = some jr := by kernel_rfl
abbrev F106.fr := fr3
def F106.b1 : IR := (iSr [.w .push none (.zy 1 0 [(I 0)] []), iSm 0, .w .push none (.app 1 8 aS1 aS0), iQm 1 0] .ret)
def F106.g0 (X1 : IR) : IR := (iSr [iQo 1 (.mv (.c .zf))] (.seq (iSr [iSm 0, iQo 2 (.bin .eql (.nil .sl) aS0 (.c .zf))] (.cond aT2 (iSr [iQo 1 (.mv (.c .zf))] .ret) .skip)) X1))
def F106.b0 : IR := F106.g0 F106.b1
def F106.res : List RV := [.t (.of 1)]
def F106 : Fn := { params := [(.of 0)], res := F106.res, body := F106.b0, init := in3 }
theorem F106.ok : fnA Tryz.prog Tryz.f106 [0, 2, 4] = some F106 := by kernel_rfl
abbrev F110.fr := fr2
def F110.b0 : IR := (iSr [iWl 1 (.alloc [(I 0), .zf])] (iSr [iSm 0, .s (.build [(I 0), .zf] [(0, 1, aS0)]), .w .none none (.store 2 aT1 aS0)] .ret))
def F110.res : List RV := [.cell (.of 1) (some 2)]
def F110 : Fn := { params := [(.of 0)], res := F110.res, body := F110.b0, init := in2 }
theorem F110.ok : fnA Tryz.prog Tryz.f110 [0, 2] = some F110 := by kernel_rfl
abbrev F111.fr := fr14
def F111.b3 : IR := (iSr [iSm 6, iSm 8, .s (.bin .eql .bool aS1 aS0), iQm 12 0] (.cond aT12 (iSr [iSm 6, iSm 7, iSm 9, iCa 176 [aS1, aS0], iCa 175 [aS3, aS0], .w .none none (.store 2 aT4 aS0)] .ret) (iSr [iSm 7, iSm 9, iCa 177 [aS1, aS0], .s (.bin .geq .int aS0 aC0), iQm 13 0] (.cond fK (iSr [iSm 6, iSm 7, iSm 9, iCa 178 [aS1, aS0], iCa 175 [aS3, aS0], .w .none none (.store 2 aT4 aS0)] .ret) .skip))))
def F111.g2 (X3 : IR) : IR := (.block 0 X3)
def F111.b2 : IR := F111.g2 F111.b3
def F111.b4 : IR := (iSr [iSm 8, iSm 9, iSm 7, iCa 178 [aS1, aS0], iCa 175 [aS3, aS0], .w .none none (.store 2 aT4 aS0)] .ret)
def F111.g1 (X2 X4 : IR) : IR := (iSr [.s (.zi 2 aT2), iCa 174 [aS0], .s (.mv aS0), .s (.ext 0 aS0), .s (.ext 1 aS1), iQm 6 1, iQm 7 0] (iSr [.s (.zi 2 aT3), iCa 174 [aS0], .s (.mv aS0), .s (.ext 0 aS0), .s (.ext 1 aS1), iQm 8 1, iQm 9 0] (.seq X2 X4)))
def F111.b1 : IR := F111.g1 F111.b2 F111.b4
def F111.g0 (X1 : IR) : IR := (iSr [iWl 2 (.box aT0), iWl 3 (.box aT1), iWl 4 (.alloc [(I 0), .zf])] (.seq (iSr [.s (.zx 1 aT2), .s (.load aS0), .s (.bin .eql (.nil .sl) aS0 (.c .zf)), .s (.mv aS0), iPt 0 (.zx 1 aT3), iPt 1 (.load aS0), iPt 2 (.bin .eql (.nil .sl) aS0 (.c .zf)), iQo 10 (.pick aS3 aS0 (.c (.bool false)))] (.cond bW (iSr [.s (.zx 0 aT2), .s (.load aS0), .s (.zx 0 aT3), .s (.load aS0), .s (.bin .add .int aS2 aS0), iQm 5 0] (iSr [iSm 5, .s (.zx 0 aT2), .s (.load aS0), .s (.bin .gtr .int aS2 aS0), .s (.zx 0 aT3), .s (.load aS0), .s (.bin .gtr .int aS0 aC0), iQo 11 (.bin .eql .bool aS3 aS0)] (.cond aT11 (iSr [iSm 5, .s (.build [(I 0), .zf] [(0, 1, aS0)]), .w .none none (.store 2 aT4 aS0)] .ret) .skip))) .skip)) X1))
def F111.b0 : IR := F111.g0 F111.b1
def F111.res : List RV := [.cell (.of 4) (some 2)]
def F111 : Fn := { params := [(.of 0), (.of 1)], res := F111.res, body := F111.b0, init := in14 }
theorem F111.ok : fnA Tryz.prog Tryz.f111 [0, 1, 2, 3, 4, 5, 6, 7, 8, 9, 17, 30, 43, 52] = some F111 := by kernel_rfl
abbrev vk.fr := fr12
def vk.b7 : IR := (.yt [] [(.s (.zi 2 aT4), 1, []), (iSm 6, 0, []), (iCa 110 [aS0], 0, []), (iCa 179 [aS2, aS0], 0, []), (.w .none none (.store 2 aT4 aS0), 0, [])])
def vk.g6 (X7 : IR) : IR := (iSr [.s (.zn 1 aT7 aT9), .s (.load aS0), iQm 5 0] (iSr [iSm 1, iQm 6 0] (.seq (iSr [.s (.zx 1 aT2), .s (.load aS0), .s (.mv aS0), iPt 0 (.mv aT5), iPt 1 (.bin .rem .int aS0 aC2), iPt 2 (.bin .eql .int aS0 aC1), iQo 11 (.pick aS3 aS0 (.c (.bool false)))] (.cond aT11 (.reg [iSm 1, .s (.bin .rem .int aS0 aC2), iQm 6 0]) .skip)) X7)))
def vk.b6 : IR := vk.g6 vk.b7
def vk.g5 (X6 : IR) : IR := (.block 1 X6)
def vk.b5 : IR := vk.g5 vk.b6
def vk.b8 : IR := (.reg [.s (.bin .add .int aT9 aC1), iQm 9 0])
def vk.g4 (X5 X8 : IR) : IR := (.seq X5 X8)
def vk.b4 : IR := vk.g4 vk.b5 vk.b8
def vk.g3 (X4 : IR) : IR := (iSr [iQo 10 (.bin .lss .int aT9 aT8)] (.seq (.cond bW .skip (.exit 0)) X4))
def vk.b3 : IR := vk.g3 vk.b4
def vk.g2 (X3 : IR) : IR := (.loop X3)
def vk.b2 : IR := vk.g2 vk.b3
def vk.g1 (X2 : IR) : IR := (.block 0 X2)
def vk.b1 : IR := vk.g1 vk.b2
def vk.b9 : IR := (iSr [.s (.zi 2 aT4), .w .none none (.store 2 aT3 aS0)] .ret)
def vk.g0 (X1 X9 : IR) : IR := (iSr [iWl 2 (.box aT0), iWl 3 (.alloc [(I 0), .zf])] (iSr [iCa 110 [aC1], iWl 4 (.alloc [(I 0), .zf]), .w .none none (.store 2 aT4 aS0)] (.seq (iSr [.s (.zi 2 aT2), iWl 7 (.call (.c (.fn 138 (.of 138) [])) [aS0]), iQo 8 (.len aT7), iQo 9 (.mv aC0)] X1) X9)))
def vk.b0 : IR := vk.g0 vk.b1 vk.b9
def vk.res : List RV := [.cell (.of 3) (some 2)]
def vk : Fn := { params := [(.of 0), (.of 1)], res := vk.res, body := vk.b0, init := in12 }
theorem vk.ok : fnA Tryz.prog Tryz.f112 [0, 1, 2, 4, 5, 7, 8, 11, 12, 13, 14, 24] = some vk := by kernel_rfl
abbrev F113.fr := fr3
def F113.b0 : IR := (iSr [iWl 1 (.box aT0), iWl 2 (.alloc [(I 0), .zf, (I 0), .zf])] (.seq (.yt [] [(.s (.zi 2 aT1), 1, []), (iCa 110 [aC1], 0, []), (.s (.build [(I 0), .zf, (I 0), .zf] [(0, 2, aS1), (2, 2, aS0)]), 0, []), (.w .none none (.store 4 aT2 aS0), 0, [])]) .ret))
def F113.res : List RV := [.cell (.of 2) (some 4)]
def F113 : Fn := { params := [(.of 0)], res := F113.res, body := F113.b0, init := in3 }
theorem F113.ok : fnA Tryz.prog Tryz.f113 [0, 1, 2] = some F113 := by kernel_rfl
abbrev F114.fr := fr7
def F114.b1 : IR := (iSr [.s (.zi 2 aT2), .s (.zi 2 aT3), iCa 182 [aS1, aS0], .s (.mv aS0), .s (.ext 0 aS0), .s (.ext 1 aS1), iWl 5 (.alloc [(I 0), .zf]), .w .push none (.alloc [(I 0), .zf]), .w .none none (.store 2 aT5 aS2), .w .none none (.store 2 aS0 aS1)] (iSr [.s (.zi 2 aT5), .w .none none (.store 2 aT4 aS0)] .ret))
def F114.g0 (X1 : IR) : IR := (iSr [iWl 2 (.box aT0), iWl 3 (.box aT1), iWl 4 (.alloc [(I 0), .zf])] (.seq (iSr [.s (.zi 2 aT3), iCa 180 [aS0], iQo 6 (.bin .lss .int aS0 aC0)] (.cond aT6 (.yt [] [(.s (.zi 2 aT2), 0, []), (.s (.zi 2 aT3), 1, []), (iCa 181 [aS1], 0, []), (iCa 181 [aS1], 0, []), (.w .none none (.store 2 aT2 aS1), 0, []), (.w .none none (.store 2 aT3 aS0), 0, [])]) .skip)) X1))
def F114.b0 : IR := F114.g0 F114.b1
def F114.res : List RV := [.cell (.of 4) (some 2)]
def F114 : Fn := { params := [(.of 0), (.of 1)], res := F114.res, body := F114.b0, init := in7 }
theorem F114.ok : fnA Tryz.prog Tryz.f114 [0, 1, 2, 3, 4, 5, 9] = some F114 := by kernel_rfl
abbrev F115.fr := fr3
def F115.b0 : IR := (iSr [iWl 1 (.box aT0), iQo 2 (.mv (.c (.bool false)))] (iSr [.s (.zx 0 aT1), .s (.zi 2 aS0), iCa 183 [aS0], .s (.mv aS0), iPf 0 (.zx 2 aT1), iPf 1 (.zi 2 aS0), .w .push (some (aS2, false)) (.call (.c (.fn 183 (.of 183) [])) [aS0]), .s (.pick aS3 (.c (.bool true)) aS0), iQm 2 0] .ret))
def F115.res : List RV := [.t (.of 2)]
def F115 : Fn := { params := [(.of 0)], res := F115.res, body := F115.b0, init := in3 }
theorem F115.ok : fnA Tryz.prog Tryz.f115 [0, 1, 2] = some F115 := by kernel_rfl
abbrev F116.fr := fr4
def F116.b1 : IR := (.seq (.yt [] [(.s (.zx 0 aT1), 0, []), (.s (.zi 2 aS0), 0, []), (.s (.zx 2 aT1), 1, []), (.s (.zi 2 aS0), 1, []), (iCa 185 [aS2], 0, []), (.s (.bin .add .str aS0 (.c (.str [47]))), 1, []), (iCa 185 [aS2], 0, []), (.s (.bin .add .str aS1 aS0), 0, []), (iQm 2 0, 0, [])]) .ret)
def F116.g0 (X1 : IR) : IR := (iSr [iWl 1 (.box aT0), iQo 2 (.mv (.c (.str [])))] (.seq (iSr [.s (.zi 4 aT1), iWl 3 (.call (.c (.fn 184 (.of 184) [])) [aS0])] (.cond aT3 (iSr [.s (.zx 0 aT1), .s (.zi 2 aS0), iCa 185 [aS0], iQm 2 0] .ret) .skip)) X1))
def F116.b0 : IR := F116.g0 F116.b1
def F116.res : List RV := [.t (.of 2)]
def F116 : Fn := { params := [(.of 0)], res := F116.res, body := F116.b0, init := in4 }
theorem F116.ok : fnA Tryz.prog Tryz.f116 [0, 1, 2, 4] = some F116 := by kernel_rfl
abbrev zk.fr := fr18
def zk.b7 : IR := (iSr [.s (.entry aT15), .s (.ext 1 aS0), iWl 12 (.alloc [.zf, (.bool false)]), .w .none none (.store 2 aT12 aS0)] (iSr [iSm 7, .s (.zi 2 aT12), iCa 121 [aS1, aS0], iQo 17 (.not aS0)] (.cond aT17 (.seq (.yt [] [(.s (.zi 2 aT6), 0, []), (iQo 3 (.mv (.c .jv)), 0, []), (.w .none none (.store 2 aT4 aS0), 0, []), (iQo 5 (.mv aC28), 0, [])]) .ret) .skip)))
def zk.g6 (X7 : IR) : IR := (.block 1 X7)
def zk.b6 : IR := zk.g6 zk.b7
def zk.g5 (X6 : IR) : IR := (iSr [.w .push none (.next aT15), iQo 16 (.ext 0 aS0)] (.seq (.cond aT16 .skip (.exit 0)) X6))
def zk.b5 : IR := zk.g5 zk.b6
def zk.g4 (X5 : IR) : IR := (.loop X5)
def zk.b4 : IR := zk.g4 zk.b5
def zk.g3 (X4 : IR) : IR := (.block 0 X4)
def zk.b3 : IR := zk.g3 zk.b4
def zk.b8 : IR := (iSr [iSm 8, iSm 11, .s (.aaddr 1 2 aT6 aC0), .w .none none (.store 1 aS0 aS2), .s (.aaddr 1 2 aT6 aC1), .w .none none (.store 1 aS0 aS2)] (.seq (.yt [] [(iSm 10, 0, []), (.s (.zi 2 aT6), 0, []), (iQm 3 1, 0, []), (.w .none none (.store 2 aT4 aS0), 0, []), (iQo 5 (.mv aC0), 0, [])]) .ret))
def zk.g2 (X3 X8 : IR) : IR := (.seq (iSr [iSm 10, iWl 15 (.range aS0)] X3) X8)
def zk.b2 : IR := zk.g2 zk.b3 zk.b8
def zk.g1 (X2 : IR) : IR := (iSr [iSm 1, iSm 2, iCa 92 [aS1, aS0], .s (.mv aS0), .s (.ext 0 aS0), .s (.ext 1 aS1), .s (.ext 2 aS2), iQm 10 2, iQm 11 1, iQm 9 0] (.seq (iSr [iSm 9, iQo 14 (.bin .neq .int aS0 aC0)] (.cond aT14 (.seq (.yt [] [(.s (.zi 2 aT6), 0, []), (iSm 9, 1, []), (iQo 3 (.mv (.c .jv)), 0, []), (.w .none none (.store 2 aT4 aS1), 0, []), (iQm 5 0, 0, [])]) .ret) .skip)) X2))
def zk.b1 : IR := zk.g1 zk.b2
def zk.g0 (X1 : IR) : IR := (iSr [iQo 3 (.mv (.c .jv)), iWl 4 (.alloc [.zf, .zf]), iQo 5 (.mv aC0)] (iSr [iWl 6 (.alloc [.zf, .zf])] (iSr [iSm 0, iSm 2, iCa 92 [aS1, aS0], .s (.mv aS0), .s (.ext 0 aS0), .s (.ext 1 aS1), .s (.ext 2 aS2), iQm 7 2, iQm 8 1, iQm 9 0] (.seq (iSr [iSm 9, iQo 13 (.bin .neq .int aS0 aC0)] (.cond fK (.seq (.yt [] [(.s (.zi 2 aT6), 0, []), (iSm 9, 1, []), (iQo 3 (.mv (.c .jv)), 0, []), (.w .none none (.store 2 aT4 aS1), 0, []), (iQm 5 0, 0, [])]) .ret) .skip)) X1))))
def zk.b0 : IR := zk.g0 zk.b1
def zk.res : List RV := [.t (.of 3), .cell (.of 4) (some 2), .t (.of 5)]
def zk : Fn := { params := [(.of 0), (.of 1), (.of 2)], res := zk.res, body := zk.b0, init := in18 }
theorem zk.ok : fnA Tryz.prog Tryz.f120 [0, 1, 2, 6, 7, 8, 9, 10, 11, 12, 13, 14, 16, 25, 36, 40, 42, 48] = some zk := by kernel_rfl
abbrev F121.fr := fr5
def F121.b0 : IR := (iSr [iWl 2 (.box aT1), iQo 3 (.mv (.c (.bool false)))] (iSr [iSm 0, .s (.zi 2 aT2), iCa 123 [aS0], .s (.look .str (.agg [.zf, (.bool false)]) true aS2 aS0), .s (.mv aS0), .s (.ext 0 aS0), .s (.ext 1 aS1), .w .push none (.alloc [.zf, (.bool false)]), .w .none none (.store 2 aS0 aS2), iQm 4 1] (iSr [iSm 4, iQm 3 0] .ret)))
def F121.res : List RV := [.t (.of 3)]
def F121 : Fn := { params := [(.of 0), (.of 1)], res := F121.res, body := F121.b0, init := in5 }
theorem F121.ok : fnA Tryz.prog Tryz.f121 [0, 1, 3, 4, 6] = some F121 := by kernel_rfl
abbrev uh.fr := fr12
def uh.b6 : IR := (iSr [iSm 10, .s (.zn 1 aT8 bW), .s (.load aS0), iQm 6 2, iQm 7 0] (.yt [] [(.s (.zx 0 aT5), 0, []), (.s (.load aS0), 0, []), (iSm 6, 0, []), (.s (.zx 0 aT2), 0, []), (.s (.load aS0), 0, []), (iSm 7, 0, []), (.s (.zn 1 aS1 aS0), 0, []), (.s (.load aS0), 0, []), (.s (.zn 1 aS6 aS5), 0, []), (.w .none none (.store 1 aS0 aS1), 0, [])]))
def uh.g5 (X6 : IR) : IR := (.block 1 X6)
def uh.b5 : IR := uh.g5 uh.b6
def uh.b7 : IR := (.reg [.s (.bin .add .int bW aC1), iQm 10 0])
def uh.g4 (X5 X7 : IR) : IR := (.seq X5 X7)
def uh.b4 : IR := uh.g4 uh.b5 uh.b7
def uh.g3 (X4 : IR) : IR := (iSr [iQo 11 (.bin .lss .int bW aT9)] (.seq (.cond aT11 .skip (.exit 0)) X4))
def uh.b3 : IR := uh.g3 uh.b4
def uh.g2 (X3 : IR) : IR := (.loop X3)
def uh.b2 : IR := uh.g2 uh.b3
def uh.g1 (X2 : IR) : IR := (.block 0 X2)
def uh.b1 : IR := uh.g1 uh.b2
def uh.b8 : IR := (iSr [.s (.zi 2 aT5), .w .none none (.store 2 aT4 aS0)] .ret)
def uh.g0 (X1 X8 : IR) : IR := (iSr [iWl 2 (.box aT0), iWl 3 (.box aT1), iWl 4 (.alloc [.zf, (.bool false)])] (.seq (.yt [(.alloc [.zf, (.bool false)])] [(.s (.zx 0 aT3), 2, []), (.s (.load aS0), 2, []), (.s (.len aS0), 2, [(.um 1 8 [(I 0)] aS0 aS0)]), (.s (.zx 1 aT2), 2, []), (.s (.load aS0), 2, []), (.s (.zx 1 aT3), 2, []), (.s (.load aS0), 2, []), (.s (.bin .neq .bool aS2 aS0), 2, []), (.w .push none (.um 1 8 [(I 0)] aS5 aS5), 0, []), (.s (.build [.zf, (.bool false)] [(0, 1, aS0), (1, 1, aS1)]), 1, []), (iWl 5 (.alloc [.zf, (.bool false)]), 0, []), (.w .none none (.store 2 aT5 aS0), 0, [])]) (.seq (iSr [.s (.zx 0 aT3), iQo 8 (.load aS0), iQo 9 (.len aT8), iQo 10 (.mv aC0)] X1) X8)))
def uh.b0 : IR := uh.g0 uh.b1 uh.b8
def uh.res : List RV := [.cell (.of 4) (some 2)]
def uh : Fn := { params := [(.of 0), (.of 1)], res := uh.res, body := uh.b0, init := in12 }
theorem uh.ok : fnA Tryz.prog Tryz.f122 [0, 1, 2, 3, 4, 5, 6, 7, 19, 20, 21, 22] = some uh := by kernel_rfl
abbrev gq.fr := fr10
def gq.b6 : IR := (iSr [.s (.zn 1 aT5 aT7), .s (.load aS0), iQm 4 0] (.reg [iSm 3, iSm 4, .s (.conv .u8 aS0), .w .push none (.zy 1 1 [(.int .u8 0)] [(0, 1, aS0)]), .w .push none (.app 1 1 aS3 aS0), iQm 3 0]))
def gq.g5 (X6 : IR) : IR := (.block 1 X6)
def gq.b5 : IR := gq.g5 gq.b6
def gq.b7 : IR := (.reg [.s (.bin .add .int aT7 aC1), iQm 7 0])
def gq.g4 (X5 X7 : IR) : IR := (.seq X5 X7)
def gq.b4 : IR := gq.g4 gq.b5 gq.b7
def gq.g3 (X4 : IR) : IR := (iSr [iQo 8 (.bin .lss .int aT7 aT6)] (.seq (.cond aT8 .skip (.exit 0)) X4))
def gq.b3 : IR := gq.g3 gq.b4
def gq.g2 (X3 : IR) : IR := (.loop X3)
def gq.b2 : IR := gq.g2 gq.b3
def gq.g1 (X2 : IR) : IR := (.block 0 X2)
def gq.b1 : IR := gq.g1 gq.b2
def gq.b9 : IR := (iSr [iSm 3, .s (.b2s aS0), iQm 2 0] .ret)
def gq.g8 (X9 : IR) : IR := (.seq (iSr [.s (.zx 1 aT1), iQo 9 (.load aS0)] (.cond aT9 (.reg [iSm 3, .w .push none (.zy 1 1 [(.int .u8 0)] [(0, 1, (.c (.int .u8 1)))]), .w .push none (.app 1 1 aS1 aS0), iQm 3 0]) .skip)) X9)
def gq.b8 : IR := gq.g8 gq.b9
def gq.g0 (X1 X8 : IR) : IR := (iSr [iWl 1 (.box aT0), iQo 2 (.mv (.c (.str [])))] (iSr [.s (.zx 0 aT1), .s (.load aS0), .s (.len aS0), .s (.bin .add .int aS0 aC1), .w .push none (.um 1 1 [(.int .u8 0)] aC0 aS0), iQm 3 0] (.seq (iSr [.s (.zx 0 aT1), iQo 5 (.load aS0), iQo 6 (.len aT5), iQo 7 (.mv aC0)] X1) X8)))
def gq.b0 : IR := gq.g0 gq.b1 gq.b8
def gq.res : List RV := [.t (.of 2)]
def gq : Fn := { params := [(.of 0)], res := gq.res, body := gq.b0, init := in10 }
theorem gq.ok : fnA Tryz.prog Tryz.f123 [0, 1, 2, 3, 5, 12, 13, 14, 15, 25] = some gq := by kernel_rfl
abbrev yj.fr := fr10
def yj.b6 : IR := (iSr [iSm 8, .s (.zn 1 aT6 aT8), .s (.load aS0), iQm 4 2, iQm 5 0] (.reg [.s (.zx 0 aT3), .s (.load aS0), iSm 5, iSm 4, .s (.zn 1 aS2 aS1), .w .none none (.store 1 aS0 aS1)]))
def yj.g5 (X6 : IR) : IR := (.block 1 X6)
def yj.b5 : IR := yj.g5 yj.b6
def yj.b7 : IR := (.reg [.s (.bin .add .int aT8 aC1), iQm 8 0])
def yj.g4 (X5 X7 : IR) : IR := (.seq X5 X7)
def yj.b4 : IR := yj.g4 yj.b5 yj.b7
def yj.g3 (X4 : IR) : IR := (iSr [iQo 9 (.bin .lss .int aT8 aT7)] (.seq (.cond aT9 .skip (.exit 0)) X4))
def yj.b3 : IR := yj.g3 yj.b4
def yj.g2 (X3 : IR) : IR := (.loop X3)
def yj.b2 : IR := yj.g2 yj.b3
def yj.g1 (X2 : IR) : IR := (.block 0 X2)
def yj.b1 : IR := yj.g1 yj.b2
def yj.b8 : IR := (iSr [.s (.zi 2 aT3), .w .none none (.store 2 aT2 aS0)] .ret)
def yj.g0 (X1 X8 : IR) : IR := (iSr [iWl 1 (.box aT0), iWl 2 (.alloc [.zf, (.bool false)])] (.seq (.yt [(.alloc [.zf, (.bool false)])] [(.s (.zx 0 aT1), 2, []), (.s (.load aS0), 2, []), (.s (.len aS0), 2, [(.um 1 8 [(I 0)] aS0 aS0)]), (.s (.zx 1 aT1), 2, []), (.s (.load aS0), 2, []), (.w .push none (.um 1 8 [(I 0)] aS2 aS2), 0, []), (.s (.build [.zf, (.bool false)] [(0, 1, aS0), (1, 1, aS1)]), 1, []), (iWl 3 (.alloc [.zf, (.bool false)]), 0, []), (.w .none none (.store 2 aT3 aS0), 0, [])]) (.seq (iSr [.s (.zx 0 aT1), iQo 6 (.load aS0), iQo 7 (.len aT6), iQo 8 (.mv aC0)] X1) X8)))
def yj.b0 : IR := yj.g0 yj.b1 yj.b8
def yj.res : List RV := [.cell (.of 2) (some 2)]
def yj : Fn := { params := [(.of 0)], res := yj.res, body := yj.b0, init := in10 }
theorem yj.ok : fnA Tryz.prog Tryz.f124 [0, 1, 2, 3, 4, 5, 14, 15, 16, 17] = some yj := by kernel_rfl
abbrev qw.fr := fr2
def qw.b0 : IR := (iSr [iQo 1 (.mv aC0)] (iSr [iSm 0, .s (.len aS0), .s (.bin .gtr .int aS0 aC256), iCa 96 [aS0, aC5], iSm 0, .w .push none (.call (.c (.fn 136 (.of 136) [])) [aS0, (.c (.fn 137 (.of 137) []))]), iCa 96 [aS0, aC3], .w .push none (.zy 1 2 [(I 0)] [(0, 1, aS3), (1, 1, aS0)]), iCa 94 [aS0], iQm 1 0] .ret))
def qw.res : List RV := [.t (.of 1)]
def qw : Fn := { params := [(.of 0)], res := qw.res, body := qw.b0, init := in2 }
theorem qw.ok : fnA Tryz.prog Tryz.f134 [0, 2] = some qw := by kernel_rfl
abbrev zo.fr := fr12
def zo.b7 : IR := (.reg [iSm 4, .s (.zx 0 aT2), .s (.load aS0), iSm 5, .s (.zn 1 aS1 aS0), .s (.load aS0), iSm 6, .s (.zn 1 aS6 aS1), .w .none none (.store 1 aS0 aS1)])
def zo.g6 (X7 : IR) : IR := (iSr [iSm 9, .s (.zn 1 aT7 aT9), .s (.load aS0), iQm 5 2, iQm 6 0] (.seq (iSr [.s (.zx 1 aT2), iQo 11 (.load aS0)] (.cond aT11 (.reg [iSm 1, .s (.len aS0), .s (.bin .add .int aS0 aC1), iSm 6, .s (.bin .sub .int aS1 aS0), iQm 6 0]) .skip)) X7))
def zo.b6 : IR := zo.g6 zo.b7
def zo.g5 (X6 : IR) : IR := (.block 1 X6)
def zo.b5 : IR := zo.g5 zo.b6
def zo.b8 : IR := (.reg [.s (.bin .add .int aT9 aC1), iQm 9 0])
def zo.g4 (X5 X8 : IR) : IR := (.seq X5 X8)
def zo.b4 : IR := zo.g4 zo.b5 zo.b8
def zo.g3 (X4 : IR) : IR := (iSr [iQo 10 (.bin .lss .int aT9 aT8)] (.seq (.cond bW .skip (.exit 0)) X4))
def zo.b3 : IR := zo.g3 zo.b4
def zo.g2 (X3 : IR) : IR := (.loop X3)
def zo.b2 : IR := zo.g2 zo.b3
def zo.g1 (X2 : IR) : IR := (.block 0 X2)
def zo.b1 : IR := zo.g1 zo.b2
def zo.b9 : IR := (iSr [iSm 4, iQm 3 0] .ret)
def zo.g0 (X1 X9 : IR) : IR := (iSr [iWl 2 (.box aT0), iQo 3 (.mv (.c .zf))] (iSr [iSm 1, .s (.len aS0), .w .push none (.um 1 8 [(I 0)] aS0 aS0), iQm 4 0] (.seq (iSr [iQo 7 (.mv aT1), iQo 8 (.len aT7), iQo 9 (.mv aC0)] X1) X9)))
def zo.b0 : IR := zo.g0 zo.b1 zo.b9
def zo.res : List RV := [.t (.of 3)]
def zo : Fn := { params := [(.of 0), (.of 1)], res := zo.res, body := zo.b0, init := in12 }
theorem zo.ok : fnA Tryz.prog Tryz.f135 [0, 1, 2, 4, 5, 6, 7, 11, 12, 13, 14, 19] = some zo := by kernel_rfl
abbrev F136.fr := fr3
def F136.b0 : IR := (iSr [iQo 2 (.mv (.c (.bool false)))] (iSr [iSm 0, iSm 1, iCa 197 [aS1, aS0], .s (.bin .geq .int aS0 aC0), iQm 2 0] .ret))
def F136.res : List RV := [.t (.of 2)]
def F136 : Fn := { params := [(.of 0), (.of 1)], res := F136.res, body := F136.b0, init := in3 }
theorem F136.ok : fnA Tryz.prog Tryz.f136 [0, 1, 4] = some F136 := by kernel_rfl
abbrev qp.fr := fr2
def qp.b0 : IR := (iSr [iQo 1 (.mv (.c (.bool false)))] (iSr [iSm 0, .s (.bin .lss .int aS0 (.c (I (-999999999)))), .s (.mv aS0), iPf 0 (.mv aT0), iPf 1 (.bin .gtr .int aS0 m7), .s (.pick aS2 (.c (.bool true)) aS0), iQm 1 0] .ret))
def qp.res : List RV := [.t (.of 1)]
def qp : Fn := { params := [(.of 0)], res := qp.res, body := qp.b0, init := in2 }
theorem qp.ok : fnA Tryz.prog Tryz.f137 [0, 2] = some qp := by kernel_rfl
abbrev uo.fr := fr13
def uo.b12 : IR := (iSr [iSm 4, iSm 7, .s (.zn 1 aS1 aS0), .w .none none (.store 1 aS0 (.c (.bool true)))] (.reg [iSm 6, .s (.bin .add .int aS0 aC1), iQm 6 0]))
def uo.g11 (X12 : IR) : IR := (.block 3 X12)
def uo.b11 : IR := uo.g11 uo.b12
def uo.b13 : IR := (.reg [.s (.zx 0 aT1), .s (.load aS0), iSm 7, .s (.zn 1 aS1 aS0), .s (.load aS0), iQm 7 0])
def uo.g10 (X11 X13 : IR) : IR := (.seq X11 X13)
def uo.b10 : IR := uo.g10 uo.b11 uo.b13
def uo.g9 (X10 : IR) : IR := (.seq (iSr [iSm 4, iSm 7, .s (.zn 1 aS1 aS0), .s (.load aS0), iQo 11 (.not aS0)] (.cond aT11 .skip (.exit 2))) X10)
def uo.b9 : IR := uo.g9 uo.b10
def uo.g8 (X9 : IR) : IR := (.loop X9)
def uo.b8 : IR := uo.g8 uo.b9
def uo.g7 (X8 : IR) : IR := (.block 2 X8)
def uo.b7 : IR := uo.g7 uo.b8
def uo.b14 : IR := (iSr [iSm 6, iQo 12 (.bin .gtr .int aS0 aC0)] (.cond aT12 (.reg [iSm 3, iSm 6, .w .push none (.zy 1 1 [(I 0)] [(0, 1, aS0)]), .w .push none (.app 1 8 aS2 aS0), iQm 3 0]) .skip))
def uo.g6 (X7 X14 : IR) : IR := (iSr [iSm 9, iQm 5 0] (iSr [iQo 6 (.mv aC0)] (.seq (iSr [iSm 5, iQm 7 0] X7) X14)))
def uo.b6 : IR := uo.g6 uo.b7 uo.b14
def uo.g5 (X6 : IR) : IR := (.block 1 X6)
def uo.b5 : IR := uo.g5 uo.b6
def uo.b15 : IR := (.reg [.s (.bin .add .int aT9 aC1), iQm 9 0])
def uo.g4 (X5 X15 : IR) : IR := (.seq X5 X15)
def uo.b4 : IR := uo.g4 uo.b5 uo.b15
def uo.g3 (X4 : IR) : IR := (iSr [iQo 10 (.bin .lss .int aT9 aT8)] (.seq (.cond bW .skip (.exit 0)) X4))
def uo.b3 : IR := uo.g3 uo.b4
def uo.g2 (X3 : IR) : IR := (.loop X3)
def uo.b2 : IR := uo.g2 uo.b3
def uo.g1 (X2 : IR) : IR := (.block 0 X2)
def uo.b1 : IR := uo.g1 uo.b2
def uo.b16 : IR := (iSr [iSm 3, iQm 2 0] .ret)
def uo.g0 (X1 X16 : IR) : IR := (iSr [iWl 1 (.box aT0), iQo 2 (.mv (.c .zf))] (iSr [iQo 3 (.mv (.c .zf))] (iSr [.s (.zx 0 aT1), .s (.load aS0), .s (.len aS0), .w .push none (.um 1 1 [(.bool false)] aS0 aS0), iQm 4 0] (.seq (iSr [.s (.zx 0 aT1), .s (.load aS0), iQo 8 (.len aS0), iQo 9 (.mv aC0)] X1) X16))))
def uo.b0 : IR := uo.g0 uo.b1 uo.b16
def uo.res : List RV := [.t (.of 2)]
def uo : Fn := { params := [(.of 0)], res := uo.res, body := uo.b0, init := in13 }
theorem uo.ok : fnA Tryz.prog Tryz.f138 [0, 1, 2, 3, 4, 5, 6, 7, 14, 15, 16, 23, 35] = some uo := by kernel_rfl
abbrev cZ.fr := fr4
def cZ.b5 : IR := (.yt [] [(iSm 1, 0, []), (iSm 0, 0, []), (iSm 1, 0, []), (.s (.bin .rem .int aS1 aS0), 0, []), (iQm 0 3, 0, []), (iQm 1 0, 0, [])])
def cZ.g4 (X5 : IR) : IR := (.block 1 X5)
def cZ.b4 : IR := cZ.g4 cZ.b5
def cZ.g3 (X4 : IR) : IR := (.seq (iSr [iSm 1, iQo 3 (.bin .neq .int aS0 aC0)] (.cond aT3 .skip (.exit 0))) X4)
def cZ.b3 : IR := cZ.g3 cZ.b4
def cZ.g2 (X3 : IR) : IR := (.loop X3)
def cZ.b2 : IR := cZ.g2 cZ.b3
def cZ.g1 (X2 : IR) : IR := (.block 0 X2)
def cZ.b1 : IR := cZ.g1 cZ.b2
def cZ.b6 : IR := (iSr [iSm 0, iQm 2 0] .ret)
def cZ.g0 (X1 X6 : IR) : IR := (iSr [iQo 2 (.mv aC0)] (.seq X1 X6))
def cZ.b0 : IR := cZ.g0 cZ.b1 cZ.b6
def cZ.res : List RV := [.t (.of 2)]
def cZ : Fn := { params := [(.of 0), (.of 1)], res := cZ.res, body := cZ.b0, init := in4 }
theorem cZ.ok : fnA Tryz.prog Tryz.f139 [0, 1, 4, 6] = some cZ := by kernel_rfl
abbrev F140.fr := fr2
def F140.b0 : IR := (iSr [iQo 1 (.mv (.c (.bool false)))] (iSr [iSm 0, iCa 198 [aS0], .s (.bin .eql .int aS0 aC0), iQm 1 0] .ret))
def F140.res : List RV := [.t (.of 1)]
def F140 : Fn := { params := [(.of 0)], res := F140.res, body := F140.b0, init := in2 }
theorem F140.ok : fnA Tryz.prog Tryz.f140 [0, 2] = some F140 := by kernel_rfl
abbrev uf.fr := fr6
def uf.b6 : IR := (.reg [iSm 3, iSm 0, iSm 1, iSm 4, .s (.zn 1 aS1 aS0), .s (.load aS0), .s (.zn 1 aS4 aS0), .s (.load aS0), .w .push none (.zy 1 1 [(I 0)] [(0, 1, aS0)]), .w .push none (.app 1 8 aS8 aS0), iQm 3 0])
def uf.g5 (X6 : IR) : IR := (.block 1 X6)
def uf.b5 : IR := uf.g5 uf.b6
def uf.b7 : IR := (.reg [iSm 4, .s (.bin .add .int aS0 aC1), iQm 4 0])
def uf.g4 (X5 X7 : IR) : IR := (.seq X5 X7)
def uf.b4 : IR := uf.g4 uf.b5 uf.b7
def uf.g3 (X4 : IR) : IR := (.seq (iSr [iSm 4, iSm 1, .s (.len aS0), iQo 5 (.bin .lss .int aS2 aS0)] (.cond aT5 .skip (.exit 0))) X4)
def uf.b3 : IR := uf.g3 uf.b4
def uf.g2 (X3 : IR) : IR := (.loop X3)
def uf.b2 : IR := uf.g2 uf.b3
def uf.g1 (X2 : IR) : IR := (.block 0 X2)
def uf.b1 : IR := uf.g1 uf.b2
def uf.b8 : IR := (iSr [iSm 3, iQm 2 0] .ret)
def uf.g0 (X1 X8 : IR) : IR := (iSr [iQo 2 (.mv (.c .zf))] (iSr [iQo 3 (.mv (.c .zf))] (.seq (iSr [iQo 4 (.mv aC0)] X1) X8)))
def uf.b0 : IR := uf.g0 uf.b1 uf.b8
def uf.res : List RV := [.t (.of 2)]
def uf : Fn := { params := [(.of 0), (.of 1)], res := uf.res, body := uf.b0, init := in6 }
theorem uf.ok : fnA Tryz.prog Tryz.f144 [0, 1, 4, 5, 6, 10] = some uf := by kernel_rfl
abbrev F145.fr := fr2
def F145.b0 : IR := (iSr [iQo 1 (.mv aC0)] (iSr [iSm 0, .s (.bin .lss .int aS0 aC1), .s (.mv aS0), iPf 0 (.mv aT0), iPf 1 (.bin .gtr .int aS0 aC16), .s (.pick aS2 (.c (.bool true)) aS0), iCa 96 [aS0, aC3], iQm 1 0] .ret))
def F145.res : List RV := [.t (.of 1)]
def F145 : Fn := { params := [(.of 0)], res := F145.res, body := F145.b0, init := in2 }
theorem F145.ok : fnA Tryz.prog Tryz.f145 [0, 2] = some F145 := by kernel_rfl
abbrev bI.fr := fr10
def bI.b6 : IR := (iSr [iSm 8, iQm 4 0] (.seq (.yt [] [(iSm 2, 0, []), (iSm 4, 0, []), (iSm 1, 0, []), (.s (.bin .quo .int aS1 aS0), 0, []), (iSm 4, 0, []), (iSm 1, 0, []), (.s (.bin .rem .int aS1 aS0), 0, []), (.w .push none (.call aS6 [aS3, aS0]), 0, []), (.s (.mv aS0), 0, []), (.s (.ext 0 aS0), 0, []), (.s (.ext 1 aS1), 0, []), (iQm 5 1, 0, []), (iQm 6 0, 0, [])]) (.reg [.s (.zx 0 aT3), .s (.load aS0), iSm 4, iSm 1, iSm 5, .s (.bin .mul .int aS1 aS0), iSm 6, .s (.bin .add .int aS1 aS0), .s (.zn 1 aS6 aS5), .w .none none (.store 1 aS0 aS1)])))
def bI.g5 (X6 : IR) : IR := (.block 1 X6)
def bI.b5 : IR := bI.g5 bI.b6
def bI.b7 : IR := (.reg [.s (.bin .add .int aT8 aC1), iQm 8 0])
def bI.g4 (X5 X7 : IR) : IR := (.seq X5 X7)
def bI.b4 : IR := bI.g4 bI.b5 bI.b7
def bI.g3 (X4 : IR) : IR := (iSr [iQo 9 (.bin .lss .int aT8 aT7)] (.seq (.cond aT9 .skip (.exit 0)) X4))
def bI.b3 : IR := bI.g3 bI.b4
def bI.g2 (X3 : IR) : IR := (.loop X3)
def bI.b2 : IR := bI.g2 bI.b3
def bI.g1 (X2 : IR) : IR := (.block 0 X2)
def bI.b1 : IR := bI.g1 bI.b2
def bI.b8 : IR := (.yt [] [(iSm 0, 1, []), (.s (.zi 2 aT3), 0, []), (.s (.zi 2 aT3), 1, []), (iCa 123 [aS1], 0, []), (.w .none none (.mapup .str aS3 aS0 aS1), 0, [])])
def bI.g0 (X1 X8 : IR) : IR := (iSr [iSm 1, iSm 1, .s (.bin .mul .int aS1 aS0), .w .push none (.um 1 8 [(I 0)] aS0 aS0), .s (.build [.zf, (.bool false)] [(0, 1, aS0)]), iWl 3 (.alloc [.zf, (.bool false)]), .w .none none (.store 2 aT3 aS0)] (.seq (iSr [.s (.zx 0 aT3), .s (.load aS0), iQo 7 (.len aS0), iQo 8 (.mv aC0)] X1) X8))
def bI.b0 : IR := bI.g0 bI.b1 bI.b8
def bI.res : List RV := []
def bI : Fn := { params := [(.of 0), (.of 1), (.of 2)], res := bI.res, body := bI.b0, init := in10 }
theorem bI.ok : fnA Tryz.prog Tryz.f146 [0, 1, 2, 6, 7, 8, 9, 17, 18, 19] = some bI := by kernel_rfl
abbrev F147.fr := fr9
def F147.b3 : IR := (iSr [iSm 0, iSm 1, iQm 4 1, iQm 5 0] .ret)
def F147.g2 (X3 : IR) : IR := (.seq (iSr [.s (.load aT2), .s (.bin .and .int aS0 aC4), iQo 8 (.bin .neq .int aS0 aC0)] (.cond aT8 (iSr [iSm 1, iSm 0, iQm 4 1, iQm 5 0] .ret) .skip)) X3)
def F147.b2 : IR := F147.g2 F147.b3
def F147.g1 (X2 : IR) : IR := (.seq (iSr [.s (.load aT2), .s (.bin .and .int aS0 aC2), iQo 7 (.bin .neq .int aS0 aC0)] (.cond aT7 (.reg [.s (.load aT3), .s (.bin .sub .int aS0 aC1), iSm 1, .s (.bin .sub .int aS1 aS0), iQm 1 0]) .skip)) X2)
def F147.b1 : IR := F147.g1 F147.b2
def F147.g0 (X1 : IR) : IR := (iSr [iQo 4 (.mv aC0), iQo 5 (.mv aC0)] (.seq (iSr [.s (.load aT2), .s (.bin .and .int aS0 aC1), iQo 6 (.bin .neq .int aS0 aC0)] (.cond aT6 (.reg [.s (.load aT3), .s (.bin .sub .int aS0 aC1), iSm 0, .s (.bin .sub .int aS1 aS0), iQm 0 0]) .skip)) X1))
def F147.b0 : IR := F147.g0 F147.b1
def F147.res : List RV := [.t (.of 4), .t (.of 5)]
def F147 : Fn := { params := [(.of 0), (.of 1), (.of 2), (.of 3)], res := F147.res, body := F147.b0, init := in9 }
theorem F147.ok : fnA Tryz.prog Tryz.f147 [0, 1, 2, 3, 6, 7, 10, 17, 24] = some F147 := by kernel_rfl
abbrev xg.fr := fr12
def xg.b8 : IR := (.seq (.yt [] [(.s (.load aT3), 0, []), (iSm 0, 0, []), (.s (.load aT3), 1, []), (.s (.load aT1), 1, []), (.s (.bin .sub .int aS0 aC1), 1, []), (iSm 0, 1, []), (.s (.bin .sub .int aS1 aS0), 1, []), (iSm 6, 0, []), (.s (.load aT1), 1, []), (.s (.bin .sub .int aS0 aC1), 1, []), (iSm 6, 1, []), (.s (.bin .sub .int aS1 aS0), 1, []), (.s (.zn 1 aS11 aS10), 0, []), (.w .none none (.store 1 aS0 aS5), 0, []), (.s (.zn 1 aS10 aS6), 0, []), (.w .none none (.store 1 aS0 aS2), 0, [])]) (.seq (.yt [] [(.s (.load aT4), 0, []), (iSm 6, 0, []), (.s (.load aT4), 1, []), (.s (.load aT1), 1, []), (.s (.bin .sub .int aS0 aC1), 1, []), (iSm 6, 1, []), (.s (.bin .sub .int aS1 aS0), 1, []), (.s (.zn 1 aS6 aS5), 0, []), (.w .none none (.store 1 aS0 (.c (.bool true))), 0, []), (.s (.zn 1 aS5 aS1), 0, []), (.w .none none (.store 1 aS0 (.c (.bool true))), 0, [])]) (iSr [.s (.load aT5), iSm 0, .s (.bin .add .int aS0 aC1), .w .push none (.call aS2 [aS0])] (.yt [] [(.s (.load aT4), 0, []), (iSm 6, 0, []), (.s (.load aT4), 1, []), (.s (.load aT1), 1, []), (.s (.bin .sub .int aS0 aC1), 1, []), (iSm 6, 1, []), (.s (.bin .sub .int aS1 aS0), 1, []), (.s (.zn 1 aS6 aS5), 0, []), (.w .none none (.store 1 aS0 (.c (.bool false))), 0, []), (.s (.zn 1 aS5 aS1), 0, []), (.w .none none (.store 1 aS0 (.c (.bool false))), 0, [])]))))
def xg.g7 (X8 : IR) : IR := (iSr [iSm 9, iQm 6 0] (.seq (iSr [.s (.load aT4), iSm 6, .s (.zn 1 aS1 aS0), .s (.load aS0), .s (.mv aS0), iPf 0 (.mv aT0), iPf 1 (.bin .mul .int aC2 aS0), iPf 2 (.load aT1), iPf 3 (.bin .sub .int aS0 aC1), iPf 4 (.bin .eql .int aS2 aS0), iPf 5 (.mv aT6), iPf 6 (.bin .mul .int aC2 aS0), iPf 7 (.load aT1), iPf 8 (.bin .sub .int aS0 aC1), iPf 9 (.bin .eql .int aS2 aS0), iPf 10 (.bin .neq .bool aS5 aS0), iQo 11 (.pick aS11 (.c (.bool true)) aS0)] (.cond aT11 (.exit 1) .skip)) X8))
def xg.b7 : IR := xg.g7 xg.b8
def xg.g6 (X7 : IR) : IR := (.block 1 X7)
def xg.b6 : IR := xg.g6 xg.b7
def xg.b9 : IR := (.reg [.s (.bin .add .int aT9 aC1), iQm 9 0])
def xg.g5 (X6 X9 : IR) : IR := (.seq X6 X9)
def xg.b5 : IR := xg.g5 xg.b6 xg.b9
def xg.g4 (X5 : IR) : IR := (iSr [iQo 10 (.bin .lss .int aT9 aT8)] (.seq (.cond bW .skip (.exit 0)) X5))
def xg.b4 : IR := xg.g4 xg.b5
def xg.g3 (X4 : IR) : IR := (.loop X4)
def xg.b3 : IR := xg.g3 xg.b4
def xg.g2 (X3 : IR) : IR := (.block 0 X3)
def xg.b2 : IR := xg.g2 xg.b3
def xg.g1 (X2 : IR) : IR := (iSr [iQo 8 (.load aT1), iQo 9 (.mv aC0)] X2)
def xg.b1 : IR := xg.g1 xg.b2
def xg.g0 (X1 : IR) : IR := (.seq (iSr [iSm 0, .s (.load aT1), .s (.bin .add .int aS0 aC1), .s (.bin .quo .int aS0 aC2), iQo 7 (.bin .eql .int aS3 aS0)] (.cond aT7 (iSr [.s (.load aT2), .s (.load aT1), .s (.fn 150 (.of 150) [aT3]), iCa 146 [aS2, aS1, aS0]] .ret) .skip)) X1)
def xg.b0 : IR := xg.g0 xg.b1
def xg.res : List RV := []
def xg : Fn := { params := [(.of 0), (.of 1), (.of 2), (.of 3), (.of 4), (.of 5)], res := xg.res, body := xg.b0, init := in12 }
theorem xg.ok : fnA Tryz.prog Tryz.f149 [0, 1, 2, 3, 4, 5, 7, 12, 17, 18, 19, 37] = some xg := by kernel_rfl
abbrev F150.fr := fr5
def F150.b0 : IR := (iSr [iQo 3 (.mv aC0), iQo 4 (.mv aC0)] (.seq (.yt [] [(.s (.load aT2), 0, []), (iSm 0, 0, []), (.s (.zn 1 aS1 aS0), 0, []), (.s (.load aS0), 0, []), (.s (.load aT2), 0, []), (iSm 1, 0, []), (.s (.zn 1 aS1 aS0), 0, []), (.s (.load aS0), 0, []), (iQm 3 4, 0, []), (iQm 4 0, 0, [])]) .ret))
def F150.res : List RV := [.t (.of 3), .t (.of 4)]
def F150 : Fn := { params := [(.of 0), (.of 1), (.of 2)], res := F150.res, body := F150.b0, init := in5 }
theorem F150.ok : fnA Tryz.prog Tryz.f150 [0, 1, 2, 5, 6] = some F150 := by kernel_rfl
abbrev jd.fr := fr5
def jd.b1 : IR := (iSr [iSm 0, iSm 1, .s (.len aS0), iCa 22 [aS2, aS0], iQm 2 0] .ret)
def jd.g0 (X1 : IR) : IR := (iSr [iQo 2 (.mv aC0)] (.seq (iSr [iSm 1, iCa 134 [aS0], iQm 3 0] (iSr [iSm 3, iQo 4 (.bin .neq .int aS0 aC0)] (.cond aT4 (iSr [iSm 3, iQm 2 0] .ret) .skip))) X1))
def jd.b0 : IR := jd.g0 jd.b1
def jd.res : List RV := [.t (.of 2)]
def jd : Fn := { params := [(.of 0), (.of 1)], res := jd.res, body := jd.b0, init := in5 }
theorem jd.ok : fnA Tryz.prog Tryz.f156 [0, 1, 4, 5, 9] = some jd := by kernel_rfl
abbrev yc.fr := fr12
def yc.b3 : IR := (.reg [iWl 6 (.alloc [.zf, (.bool false)]), .w .none none (.store 2 aT6 bW)])
def yc.b6 : IR := (.reg [.s (.load aT5), iSm 7, .w .push none (.zy 1 1 [.zf] [(0, 1, aS0)]), .w .push none (.app 1 24 aS2 aS0), .w .none none (.store 1 aT5 aS0)])
def yc.g5 (X6 : IR) : IR := (iSr [.s (.zi 2 aT6), .s (.load aT2), iCa 135 [aS1, aS0], iQm 7 0] (.seq (iSr [iSm 7, iWl 11 (.call (.c (.fn 136 (.of 136) [])) [aS0, (.c (.fn 137 (.of 137) []))])] (.cond aT11 (iSr [.w .none none (.store 1 aT3 (.c .zf)), .w .none none (.store 1 aT4 aC3)] .ret) .skip)) X6))
def yc.b5 : IR := yc.g5 yc.b6
def yc.g4 (X5 : IR) : IR := (.block 1 X5)
def yc.b4 : IR := yc.g4 yc.b5
def yc.g2 (X3 X4 : IR) : IR := (.rf aT8 [(.of 9), (.of 10)] X3 X4)
def yc.b2 : IR := yc.g2 yc.b3 yc.b4
def yc.g1 (X2 : IR) : IR := (.block 0 X2)
def yc.b1 : IR := yc.g1 yc.b2
def yc.b7 : IR := (iSr [.s (.load aT5), .w .push none (.call (.c (.fn 200 (.of 200) [])) [aS0, (.c (.fn 201 (.of 201) []))])] (iSr [.s (.load aT5), .w .push none (.call (.c (.fn 202 (.of 202) [])) [aS0, (.c (.fn 158 (.of 158) []))]), .w .none none (.store 1 aT3 aS0), .w .none none (.store 1 aT4 aC0)] .ret))
def yc.g0 (X1 X7 : IR) : IR := (iSr [iWl 2 (.box aT1), iWl 3 (.alloc [.zf]), iWl 4 (.alloc [(I 0)])] (iSr [iWl 5 (.alloc [.zf])] (.seq (iSr [iSm 0, iWl 8 (.call (.c (.fn 90 (.of 90) [])) [aS0])] X1) X7)))
def yc.b0 : IR := yc.g0 yc.b1 yc.b7
def yc.res : List RV := [.cell (.of 3) none, .cell (.of 4) none]
def yc : Fn := { params := [(.of 0), (.of 1)], res := yc.res, body := yc.b0, init := in12 }
theorem yc.ok : fnA Tryz.prog Tryz.f157 [0, 1, 3, 4, 5, 6, 8, 9, 11, 12, 13, 18] = some yc := by kernel_rfl
end
end Go.Ev
