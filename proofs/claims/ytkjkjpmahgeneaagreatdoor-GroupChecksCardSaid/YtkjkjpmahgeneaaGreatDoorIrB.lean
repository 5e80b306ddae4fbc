import Derived.Test.YtkjkjpmahgeneaaGreatDoorIrA
import Derived.Test.YtkjkjpmahgeneaaGreatDoorEvC
import Derived.Test.YtkjkjpmahgeneaaGreatDoorProg
import Derived.KernelRfl
set_option linter.unusedSimpArgs false
set_option linter.unusedVariables false
namespace Go.Ev
open Go Go.Proofs
set_option maxRecDepth 100000
noncomputable section

abbrev F92.fr := fr20
def F92.b5 : IR := (iSr [iQo 8 (.mv aT16)] (.reg [iWl 9 (.alloc [.zf, (.bool false)]), .w .none none (.store 2 aT9 aT17)]))
def F92.b7 : IR := (.seq (.yg [] [(iSm 8, 0, []), (.s (.bin .gtr .int aS0 aC0), 0, []), (.s (.mv aS0), 0, []), (iPt 0 (.load aT2), 0, []), (iPt 1 (.mv aT8), 0, []), (iPt 2 (.bin .sub .int aS0 aC1), 0, []), (iPt 3 (.zk 2 aS2 aS0), 0, []), (iPt 4 (.zi 2 aS0), 0, []), (iPt 5 (.zi 2 aT9), 0, []), (.w .push (some (aS6, true)) (.call (.c (.fn 162 (.of 162) [])) [aS1, aS0]), 0, []), (iPt 7 (.bin .geq .int aS0 aC0), 0, []), (iQo 18 (.pick aS8 aS0 (.c (.bool false))), 0, [])]) (.cond aT18 (iSr [.w .none none (.store 1 aT3 (.c .jl)), .w .none none (.store 1 aT4 (.c .zf)), .w .none none (.store 1 aT5 aC11)] .ret) .skip))
def F92.g6 (X7 : IR) : IR := (.block 1 X7)
def F92.b6 : IR := F92.g6 F92.b7
def F92.g4 (X5 X6 : IR) : IR := (.rf aT15 [(.of 16), (.of 17)] X5 X6)
def F92.b4 : IR := F92.g4 F92.b5 F92.b6
def F92.g3 (X4 : IR) : IR := (.block 0 X4)
def F92.b3 : IR := F92.g3 F92.b4
def F92.b9 : IR := (iSr [iSm 10, iSm 11, .w .none none (.store 1 aT3 aS1), .w .none none (.store 1 aT4 aS0), .w .none none (.store 1 aT5 aC0)] .ret)
def F92.g8 (X9 : IR) : IR := (iSr [.s (.load aT2), iSm 1, .s (.load aT2), .s (.len aS0), iCa 98 [aS3, aS2, aS0], .s (.mv aS0), .s (.ext 0 aS0), .s (.ext 1 aS1), .s (.ext 2 aS2), iQm 10 2, iQm 11 1, iQm 12 0] (.seq (iSr [iSm 12, .s (.not aS0), .s (.mv aS0), iPf 0 (.mv mr), iPf 1 (.mlen aS0), iPf 2 (.load aT2), iPf 3 (.len aS0), iPf 4 (.bin .neq .int aS2 aS0), iQo 19 (.pick aS5 (.c (.bool true)) aS0)] (.cond aT19 (iSr [.w .none none (.store 1 aT3 (.c .jl)), .w .none none (.store 1 aT4 (.c .zf)), .w .none none (.store 1 aT5 aC28)] .ret) .skip)) X9))
def F92.b8 : IR := F92.g8 F92.b9
def F92.g2 (X3 X8 : IR) : IR := (.seq (iSr [.s (.load aT2), iWl 15 (.call (.c (.fn 90 (.of 90) [])) [aS0])] X3) X8)
def F92.b2 : IR := F92.g2 F92.b3 F92.b8
def F92.g1 (X2 : IR) : IR := (.seq (iSr [.s (.load aT2), iSm 1, iCa 97 [aS1, aS0], iQm 7 0] (iSr [iSm 7, iQo 14 (.bin .neq .int aS0 aC0)] (.cond aT14 (iSr [iSm 7, .w .none none (.store 1 aT3 (.c .jl)), .w .none none (.store 1 aT4 (.c .zf)), .w .none none (.store 1 aT5 aS0)] .ret) .skip))) X2)
def F92.b1 : IR := F92.g1 F92.b2
def F92.g0 (X1 : IR) : IR := (iSr [iWl 2 (.box aT0), iWl 3 (.alloc [.jl]), iWl 4 (.alloc [.zf]), iWl 5 (.alloc [(I 0)])] (.seq (.seq (.yg [] [(iSm 1, 0, []), (.s (.load aT2), 1, []), (.s (.len aS0), 1, []), (.s (.bin .eql .int aS0 aC0), 1, []), (.s (.load aT2), 2, []), (.s (.len aS0), 2, []), (.s (.bin .gtr .int aS0 aC1536), 2, []), (iCa 95 [aS6], 0, []), (iCa 96 [aS4, aC12], 0, []), (iCa 96 [aS2, aC5], 0, []), (.w .push none (.zy 1 3 [(I 0)] [(0, 1, aS2), (1, 1, aS1), (2, 1, aS0)]), 0, []), (iCa 94 [aS0], 0, []), (iQm 6 0, 0, [])]) (iSr [iSm 6, iQo 13 (.bin .neq .int aS0 aC0)] (.cond bK (iSr [iSm 6, .w .none none (.store 1 aT3 (.c .jl)), .w .none none (.store 1 aT4 (.c .zf)), .w .none none (.store 1 aT5 aS0)] .ret) .skip))) X1))
def F92.b0 : IR := F92.g0 F92.b1
def F92.res : List RV := [.cell (.of 3) none, .cell (.of 4) none, .cell (.of 5) none]
def F92 : Fn := { params := [(.of 0), (.of 1)], res := F92.res, body := F92.b0, init := in20 }
theorem F92.ok : fnA Tryz.prog Tryz.f92 [0, 1, 2, 4, 5, 6, 7, 8, 9, 10, 11, 12, 13, 27, 33, 36, 37, 38, 50, 68] = some F92 := by kernel_rfl
abbrev F93.fr := fr7
def F93.b8 : IR := (.reg [iSm 2, iSm 0, iSm 3, .s (.zk 1 aS1 aS0), .s (.load aS0), .s (.zk 1 aS4 aS0), .w .none none (.store 1 aS0 (.c (.bool true)))])
def F93.g7 (X8 : IR) : IR := (.seq (iSr [iSm 0, iSm 3, .s (.zk 1 aS1 aS0), .s (.load aS0), .s (.bin .lss .int aS0 aC0), .s (.mv aS0), iPf 0 (.mv aT0), iPf 1 (.mv aT3), iPf 2 (.zk 1 aS1 aS0), iPf 3 (.load aS0), iPf 4 (.mv aT0), iPf 5 (.len aS0), iPf 6 (.bin .geq .int aS2 aS0), .s (.pick aS7 (.c (.bool true)) aS0), .s (.mv aS0), iPf 0 (.mv aT2), iPf 1 (.mv aT0), iPf 2 (.mv aT3), iPf 3 (.zk 1 aS1 aS0), iPf 4 (.load aS0), iPf 5 (.zk 1 aS4 aS0), iPf 6 (.load aS0), iQo 6 (.pick aS7 (.c (.bool true)) aS0)] (.cond aT6 (iSr [iQo 1 (.mv aC14)] .ret) .skip)) X8)
def F93.b7 : IR := F93.g7 F93.b8
def F93.g6 (X7 : IR) : IR := (.block 1 X7)
def F93.b6 : IR := F93.g6 F93.b7
def F93.b9 : IR := (.reg [iSm 3, .s (.bin .add .int aS0 aC1), iQm 3 0])
def F93.g5 (X6 X9 : IR) : IR := (.seq X6 X9)
def F93.b5 : IR := F93.g5 F93.b6 F93.b9
def F93.g4 (X5 : IR) : IR := (.seq (iSr [iSm 3, iSm 0, .s (.len aS0), iQo 5 (.bin .lss .int aS2 aS0)] (.cond aT5 .skip (.exit 0))) X5)
def F93.b4 : IR := F93.g4 F93.b5
def F93.g3 (X4 : IR) : IR := (.loop X4)
def F93.b3 : IR := F93.g3 F93.b4
def F93.g2 (X3 : IR) : IR := (.block 0 X3)
def F93.b2 : IR := F93.g2 F93.b3
def F93.b10 : IR := (iSr [iQo 1 (.mv aC0)] .ret)
def F93.g1 (X2 X10 : IR) : IR := (iSr [iSm 0, .s (.len aS0), .w .push none (.jf 1 1 [(.bool false)] aS0 aS0), iQm 2 0] (.seq (iSr [iQo 3 (.mv aC0)] X2) X10))
def F93.b1 : IR := F93.g1 F93.b2 F93.b10
def F93.g0 (X1 : IR) : IR := (iSr [iQo 1 (.mv aC0)] (.seq (iSr [iSm 0, .s (.len aS0), iQo 4 (.bin .gtr .int aS0 aC256)] (.cond aT4 (iSr [iQo 1 (.mv aC5)] .ret) .skip)) X1))
def F93.b0 : IR := F93.g0 F93.b1
def F93.res : List RV := [.t (.of 1)]
def F93 : Fn := { params := [(.of 0)], res := F93.res, body := F93.b0, init := in7 }
theorem F93.ok : fnA Tryz.prog Tryz.f93 [0, 2, 3, 4, 7, 14, 39] = some F93 := by kernel_rfl
abbrev F94.fr := fr8
def F94.b6 : IR := (iSr [.s (.zk 1 aT3 aT5), .s (.load aS0), iQm 2 0] (iSr [iSm 2, iQo 7 (.bin .neq .int aS0 aC0)] (.cond aT7 (iSr [iSm 2, iQm 1 0] .ret) .skip)))
def F94.g5 (X6 : IR) : IR := (.block 1 X6)
def F94.b5 : IR := F94.g5 F94.b6
def F94.b7 : IR := (.reg [.s (.bin .add .int aT5 aC1), iQm 5 0])
def F94.g4 (X5 X7 : IR) : IR := (.seq X5 X7)
def F94.b4 : IR := F94.g4 F94.b5 F94.b7
def F94.g3 (X4 : IR) : IR := (iSr [iQo 6 (.bin .lss .int aT5 aT4)] (.seq (.cond aT6 .skip (.exit 0)) X4))
def F94.b3 : IR := F94.g3 F94.b4
def F94.g2 (X3 : IR) : IR := (.loop X3)
def F94.b2 : IR := F94.g2 F94.b3
def F94.g1 (X2 : IR) : IR := (.block 0 X2)
def F94.b1 : IR := F94.g1 F94.b2
def F94.b8 : IR := (iSr [iQo 1 (.mv aC0)] .ret)
def F94.g0 (X1 X8 : IR) : IR := (iSr [iQo 1 (.mv aC0)] (.seq (iSr [iQo 3 (.mv aT0), iQo 4 (.len aT3), iQo 5 (.mv aC0)] X1) X8))
def F94.b0 : IR := F94.g0 F94.b1 F94.b8
def F94.res : List RV := [.t (.of 1)]
def F94 : Fn := { params := [(.of 0)], res := F94.res, body := F94.b0, init := in8 }
theorem F94.ok : fnA Tryz.prog Tryz.f94 [0, 2, 4, 5, 6, 7, 8, 12] = some F94 := by kernel_rfl
abbrev F95.fr := fr2
def F95.b0 : IR := (iSr [iQo 1 (.mv aC0)] (iSr [iSm 0, .s (.bin .lss .int aS0 aC0), .s (.mv aS0), iPf 0 (.mv aT0), iPf 1 (.bin .gtr .int aS0 aC256), .s (.pick aS2 (.c (.bool true)) aS0), iCa 96 [aS0, aC3], iQm 1 0] .ret))
def F95.res : List RV := [.t (.of 1)]
def F95 : Fn := { params := [(.of 0)], res := F95.res, body := F95.b0, init := in2 }
theorem F95.ok : fnA Tryz.prog Tryz.f95 [0, 2] = some F95 := by kernel_rfl
abbrev F96.fr := fr4
def F96.b1 : IR := (iSr [iQo 2 (.mv aC0)] .ret)
def F96.g0 (X1 : IR) : IR := (iSr [iQo 2 (.mv aC0)] (.seq (iSr [iQo 3 (.mv aT0)] (.cond aT3 (iSr [iSm 1, iQm 2 0] .ret) .skip)) X1))
def F96.b0 : IR := F96.g0 F96.b1
def F96.res : List RV := [.t (.of 2)]
def F96 : Fn := { params := [(.of 0), (.of 1)], res := F96.res, body := F96.b0, init := in4 }
theorem F96.ok : fnA Tryz.prog Tryz.f96 [0, 1, 4, 5] = some F96 := by kernel_rfl
abbrev F97.fr := fr10
def F97.b6 : IR := (iSr [.s (.zk 2 aT5 aT7), .s (.zi 2 aS0), iWl 3 (.alloc [.zf, (.bool false)]), .w .none none (.store 2 aT3 aS0)] (iSr [.s (.zi 2 aT3), iSm 1, iCa 56 [aS1, aS0], iQm 4 0] (iSr [iSm 4, iQo 9 (.bin .neq .int aS0 aC0)] (.cond aT9 (iSr [iSm 4, iQm 2 0] .ret) .skip))))
def F97.g5 (X6 : IR) : IR := (.block 1 X6)
def F97.b5 : IR := F97.g5 F97.b6
def F97.b7 : IR := (.reg [.s (.bin .add .int aT7 aC1), iQm 7 0])
def F97.g4 (X5 X7 : IR) : IR := (.seq X5 X7)
def F97.b4 : IR := F97.g4 F97.b5 F97.b7
def F97.g3 (X4 : IR) : IR := (iSr [iQo 8 (.bin .lss .int aT7 aT6)] (.seq (.cond aT8 .skip (.exit 0)) X4))
def F97.b3 : IR := F97.g3 F97.b4
def F97.g2 (X3 : IR) : IR := (.loop X3)
def F97.b2 : IR := F97.g2 F97.b3
def F97.g1 (X2 : IR) : IR := (.block 0 X2)
def F97.b1 : IR := F97.g1 F97.b2
def F97.b8 : IR := (iSr [iQo 2 (.mv aC0)] .ret)
def F97.g0 (X1 X8 : IR) : IR := (iSr [iQo 2 (.mv aC0)] (.seq (iSr [iQo 5 (.mv aT0), iQo 6 (.len aT5), iQo 7 (.mv aC0)] X1) X8))
def F97.b0 : IR := F97.g0 F97.b1 F97.b8
def F97.res : List RV := [.t (.of 2)]
def F97 : Fn := { params := [(.of 0), (.of 1)], res := F97.res, body := F97.b0, init := in10 }
theorem F97.ok : fnA Tryz.prog Tryz.f97 [0, 1, 4, 6, 7, 8, 9, 10, 11, 18] = some F97 := by kernel_rfl
abbrev F98.fr := fr25
def F98.b3 : IR := (.reg [iWl 10 (.alloc [.zf, (.bool false)]), .w .none none (.store 2 mr aT16)])
def F98.b20 : IR := (.seq (.yg [] [(.s (.load aT8), 1, []), (.s (.zi 2 bK), 0, []), (.s (.zi 2 bK), 1, []), (iCa 123 [aS1], 0, []), (.w .none none (.mapup .str aS3 aS0 aS1), 0, [])]) (.reg [iSm 11, .s (.zi 2 bK), .w .push none (.zy 2 1 [.zf, (.bool false)] [(0, 2, aS0)]), .w .push none (.appq 2 32 aS2 aS0), iQm 11 0]))
def F98.g19 (X20 : IR) : IR := (.seq (iSr [.s (.load aT8), .s (.mlen aS0), .s (.load aT3), iQo 24 (.bin .eql .int aS1 aS0)] (.cond aT24 (iSr [.w .none none (.store 1 aT4 (.c .jl)), .w .none none (.store 1 aT5 (.c .zf)), .w .none none (.store 1 aT6 (.c (.bool false)))] .ret) .skip)) X20)
def F98.b19 : IR := F98.g19 F98.b20
def F98.g18 (X19 : IR) : IR := (iSr [.s (.zk 2 aT19 aT21), .s (.zi 2 aS0), iWl 12 (.alloc [.zf, (.bool false)]), .w .none none (.store 2 aT12 aS0)] (.seq (.yg [(.alloc [.zf, (.bool false)])] [(.s (.zi 2 aT12), 2, []), (iSm 11, 2, []), (.s (.zk 2 aS0 aC0), 2, []), (.s (.zi 2 aS0), 2, []), (iCa 122 [aS3, aS0], 0, []), (iWl 13 (.alloc [.zf, (.bool false)]), 0, []), (.w .none none (.store 2 bK aS0), 0, [])]) (.seq (iSr [.s (.load aT8), .s (.zi 2 bK), iWl 23 (.call (.c (.fn 121 (.of 121) [])) [aS1, aS0])] (.cond aT23 (.exit 5) .skip)) X19)))
def F98.b18 : IR := F98.g18 F98.b19
def F98.g17 (X18 : IR) : IR := (.block 5 X18)
def F98.b17 : IR := F98.g17 F98.b18
def F98.b21 : IR := (.reg [.s (.bin .add .int aT21 aC1), iQm 21 0])
def F98.g16 (X17 X21 : IR) : IR := (.seq X17 X21)
def F98.b16 : IR := F98.g16 F98.b17 F98.b21
def F98.g15 (X16 : IR) : IR := (iSr [iQo 22 (.bin .lss .int aT21 aT20)] (.seq (.cond aT22 .skip (.exit 4)) X16))
def F98.b15 : IR := F98.g15 F98.b16
def F98.g14 (X15 : IR) : IR := (.loop X15)
def F98.b14 : IR := F98.g14 F98.b15
def F98.g13 (X14 : IR) : IR := (.block 4 X14)
def F98.b13 : IR := F98.g13 F98.b14
def F98.g12 (X13 : IR) : IR := (iSr [iQo 19 (.load aT9), iQo 20 (.len aT19), iQo 21 (.mv aC0)] X13)
def F98.b12 : IR := F98.g12 F98.b13
def F98.g11 (X12 : IR) : IR := (.block 3 X12)
def F98.b11 : IR := F98.g11 F98.b12
def F98.b22 : IR := (.reg [iSm 11, .s (.slice 2 aS0 (some aC1) none none), iQm 11 0])
def F98.g10 (X11 X22 : IR) : IR := (.seq X11 X22)
def F98.b10 : IR := F98.g10 F98.b11 F98.b22
def F98.g9 (X10 : IR) : IR := (.seq (iSr [iSm 11, .s (.len aS0), iQo 18 (.bin .gtr .int aS0 aC0)] (.cond aT18 .skip (.exit 2))) X10)
def F98.b9 : IR := F98.g9 F98.b10
def F98.g8 (X9 : IR) : IR := (.loop X9)
def F98.b8 : IR := F98.g8 F98.b9
def F98.g7 (X8 : IR) : IR := (.block 2 X8)
def F98.b7 : IR := F98.g7 F98.b8
def F98.g6 (X7 : IR) : IR := (iSr [.s (.load aT9), .s (.zi 2 mr), .w .push none (.zy 2 1 [.zf, (.bool false)] [(0, 2, aS0)]), .w .push none (.appq 2 32 aS2 aS0), .w .none none (.store 1 aT9 aS0)] (.seq (.yg [.mkmap] [(.s (.zi 2 aT7), 2, []), (.s (.zi 2 aT7), 2, []), (iCa 123 [aS1], 0, []), (.w .push none .mkmap, 0, []), (.w .none none (.mapup .str aS0 aS1 aS2), 0, []), (.s (.mv aS0), 0, []), (.w .none none (.store 1 aT8 aS0), 0, [])]) (iSr [.s (.zi 2 aT7), .w .push none (.zy 2 1 [.zf, (.bool false)] [(0, 2, aS0)]), iQm 11 0] X7)))
def F98.b6 : IR := F98.g6 F98.b7
def F98.g5 (X6 : IR) : IR := (.seq (iSr [.s (.load aT8), .s (.zi 2 mr), iWl 17 (.call (.c (.fn 121 (.of 121) [])) [aS1, aS0])] (.cond aT17 (.exit 1) .skip)) X6)
def F98.b5 : IR := F98.g5 F98.b6
def F98.g4 (X5 : IR) : IR := (.block 1 X5)
def F98.b4 : IR := F98.g4 F98.b5
def F98.g2 (X3 X4 : IR) : IR := (.rf aT14 [(.of 15), (.of 16)] X3 X4)
def F98.b2 : IR := F98.g2 F98.b3 F98.b4
def F98.g1 (X2 : IR) : IR := (.block 0 X2)
def F98.b1 : IR := F98.g1 F98.b2
def F98.b23 : IR := (.seq (.yg [] [(.s (.load aT8), 0, []), (.s (.load aT9), 1, []), (.w .none none (.store 1 aT4 aS1), 0, []), (.w .none none (.store 1 aT5 aS0), 0, []), (.w .none none (.store 1 aT6 (.c (.bool true))), 0, [])]) .ret)
def F98.g0 (X1 X23 : IR) : IR := (iSr [iWl 3 (.box aT2), iWl 4 (.alloc [.jl]), iWl 5 (.alloc [.zf]), iWl 6 (.alloc [(.bool false)])] (iSr [iSm 1, iCa 163 [aS0], iWl 7 (.alloc [.zf, (.bool false)]), .w .none none (.store 2 aT7 aS0)] (.seq (.yg [.mkmap, (.alloc [.jl])] [(.s (.zi 2 aT7), 4, []), (.s (.zi 2 aT7), 4, []), (iCa 123 [aS1], 0, []), (.w .push none .mkmap, 0, []), (.w .none none (.mapup .str aS0 aS1 aS2), 0, []), (.s (.mv aS0), 1, []), (iWl 8 (.alloc [.jl]), 0, []), (.w .none none (.store 1 aT8 aS0), 0, [])]) (iSr [iWl 9 (.alloc [.zf])] (.seq (iSr [iSm 0, iWl 14 (.call (.c (.fn 90 (.of 90) [])) [aS0])] X1) X23)))))
def F98.b0 : IR := F98.g0 F98.b1 F98.b23
def F98.res : List RV := [.cell (.of 4) none, .cell (.of 5) none, .cell (.of 6) none]
def F98 : Fn := { params := [(.of 0), (.of 1), (.of 2)], res := F98.res, body := F98.b0, init := in25 }
theorem F98.ok : fnA Tryz.prog Tryz.f98 [0, 1, 2, 5, 6, 7, 8, 9, 10, 11, 13, 14, 16, 17, 26, 27, 28, 31, 45, 48, 49, 50, 51, 61, 65] = some F98 := by kernel_rfl
abbrev F99.fr := fr12
def F99.b5 : IR := (iSr [.s (.entry aT6), .s (.ext 1 aS0), iWl 3 (.alloc [.zf, (.bool false)]), .w .none none (.store 2 aT3 aS0)] (.reg [iSm 2, .s (.zi 2 aT3), .w .push none (.zy 2 1 [.zf, (.bool false)] [(0, 2, aS0)]), .w .push none (.appq 2 32 aS2 aS0), iQm 2 0]))
def F99.g4 (X5 : IR) : IR := (.block 1 X5)
def F99.b4 : IR := F99.g4 F99.b5
def F99.g3 (X4 : IR) : IR := (iSr [.w .push none (.next aT6), iQo 7 (.ext 0 aS0)] (.seq (.cond aT7 .skip (.exit 0)) X4))
def F99.b3 : IR := F99.g3 F99.b4
def F99.g2 (X3 : IR) : IR := (.loop X3)
def F99.b2 : IR := F99.g2 F99.b3
def F99.g1 (X2 : IR) : IR := (.block 0 X2)
def F99.b1 : IR := F99.g1 F99.b2
def F99.b12 : IR := (iSr [.s (.zk 2 aT8 mr), .s (.zi 2 aS0), iWl 5 (.alloc [.zf, (.bool false)]), .w .none none (.store 2 aT5 aS0)] (.reg [iSm 4, .s (.zi 2 aT5), .w .push none (.zy 2 1 [.zf, (.bool false)] [(0, 2, aS0)]), .w .push none (.appq 2 32 aS2 aS0), iQm 4 0]))
def F99.g11 (X12 : IR) : IR := (.block 3 X12)
def F99.b11 : IR := F99.g11 F99.b12
def F99.b13 : IR := (.reg [.s (.bin .add .int mr aC1), iQm 10 0])
def F99.g10 (X11 X13 : IR) : IR := (.seq X11 X13)
def F99.b10 : IR := F99.g10 F99.b11 F99.b13
def F99.g9 (X10 : IR) : IR := (iSr [iQo 11 (.bin .lss .int mr aT9)] (.seq (.cond aT11 .skip (.exit 2)) X10))
def F99.b9 : IR := F99.g9 F99.b10
def F99.g8 (X9 : IR) : IR := (.loop X9)
def F99.b8 : IR := F99.g8 F99.b9
def F99.g7 (X8 : IR) : IR := (.block 2 X8)
def F99.b7 : IR := F99.g7 F99.b8
def F99.b14 : IR := (iSr [iSm 4, iQm 1 0] .ret)
def F99.g6 (X7 X14 : IR) : IR := (iSr [iSm 2, .w .push none (.call (.c (.fn 164 (.of 164) [])) [aS0, (.c (.fn 162 (.of 162) []))])] (iSr [iQo 4 (.mv (.c .zf))] (.seq (iSr [iQo 8 (.mv aT2), iQo 9 (.len aT8), iQo 10 (.mv aC0)] X7) X14)))
def F99.b6 : IR := F99.g6 F99.b7 F99.b14
def F99.g0 (X1 X6 : IR) : IR := (iSr [iQo 1 (.mv (.c .zf))] (iSr [iQo 2 (.mv (.c .zf))] (.seq (iSr [iSm 0, iWl 6 (.range aS0)] X1) X6)))
def F99.b0 : IR := F99.g0 F99.b1 F99.b6
def F99.res : List RV := [.t (.of 1)]
def F99 : Fn := { params := [(.of 0)], res := F99.res, body := F99.b0, init := in12 }
theorem F99.ok : fnA Tryz.prog Tryz.f99 [0, 2, 3, 5, 6, 8, 10, 12, 21, 22, 23, 24] = some F99 := by kernel_rfl
abbrev qx.fr := fr11
def qx.b7 : IR := (iSr [iSm 8, iQm 4 0] (iSr [.s (.zi 2 aT1), iSm 4, iCa 168 [aS1, aS0], iQm 5 0] (iSr [iSm 5, iQo 10 (.bin .neq .int aS0 aC0)] (.cond mr (iSr [iSm 5, iQm 2 0] .ret) .skip))))
def qx.g6 (X7 : IR) : IR := (.block 1 X7)
def qx.b6 : IR := qx.g6 qx.b7
def qx.b8 : IR := (.reg [.s (.bin .add .int aT8 aC1), iQm 8 0])
def qx.g5 (X6 X8 : IR) : IR := (.seq X6 X8)
def qx.b5 : IR := qx.g5 qx.b6 qx.b8
def qx.g4 (X5 : IR) : IR := (iSr [iQo 9 (.bin .lss .int aT8 aT7)] (.seq (.cond aT9 .skip (.exit 0)) X5))
def qx.b4 : IR := qx.g4 qx.b5
def qx.g3 (X4 : IR) : IR := (.loop X4)
def qx.b3 : IR := qx.g3 qx.b4
def qx.g2 (X3 : IR) : IR := (.block 0 X3)
def qx.b2 : IR := qx.g2 qx.b3
def qx.b9 : IR := (iSr [iQo 2 (.mv aC0)] .ret)
def qx.g1 (X2 X9 : IR) : IR := (.seq (iSr [.s (.zn 1 aT1), .s (.load aS0), iQo 7 (.len aS0), iQo 8 (.mv aC0)] X2) X9)
def qx.b1 : IR := qx.g1 qx.b2 qx.b9
def qx.g0 (X1 : IR) : IR := (iSr [iWl 1 (.box aT0), iQo 2 (.mv aC0)] (.seq (.seq (.yg [] [(.s (.zn 0 aT1), 0, []), (.s (.load aS0), 0, []), (.s (.zn 1 aT1), 2, []), (.s (.load aS0), 2, []), (.s (.len aS0), 2, []), (.s (.bin .gtr .int aS0 aC128), 2, []), (.w .push none (.zy 1 1 [(I 0)] [(0, 1, aS4)]), 0, []), (iCa 166 [aC1, aC256, aS0], 0, []), (iCa 167 [aS2, aC5], 0, []), (.w .push none (.zy 1 2 [(I 0)] [(0, 1, aS1), (1, 1, aS0)]), 0, []), (iCa 165 [aS0], 0, []), (iQm 3 0, 0, [])]) (iSr [iSm 3, iQo 6 (.bin .neq .int aS0 aC0)] (.cond aT6 (iSr [iSm 3, iQm 2 0] .ret) .skip))) X1))
def qx.b0 : IR := qx.g0 qx.b1
def qx.res : List RV := [.t (.of 2)]
def qx : Fn := { params := [(.of 0)], res := qx.res, body := qx.b0, init := in11 }
theorem qx.ok : fnA Tryz.prog Tryz.f103 [0, 1, 2, 3, 4, 5, 18, 22, 23, 24, 30] = some qx := by kernel_rfl
abbrev vg.fr := fr9
def vg.b6 : IR := (iSr [.s (.zk 1 aT5 aT7), .s (.load aS0), iQm 4 0] (.yg [] [(.s (.load aT3), 1, []), (iSm 4, 0, []), (.s (.build [.zf, (.bool false)] [(0, 1, aS0)]), 0, []), (iCa 123 [aS0], 0, []), (.w .none none (.mapup .str aS3 aS0 (.c (.bool true))), 0, [])]))
def vg.g5 (X6 : IR) : IR := (.block 1 X6)
def vg.b5 : IR := vg.g5 vg.b6
def vg.b7 : IR := (.reg [.s (.bin .add .int aT7 aC1), iQm 7 0])
def vg.g4 (X5 X7 : IR) : IR := (.seq X5 X7)
def vg.b4 : IR := vg.g4 vg.b5 vg.b7
def vg.g3 (X4 : IR) : IR := (iSr [iQo 8 (.bin .lss .int aT7 aT6)] (.seq (.cond aT8 .skip (.exit 0)) X4))
def vg.b3 : IR := vg.g3 vg.b4
def vg.g2 (X3 : IR) : IR := (.loop X3)
def vg.b2 : IR := vg.g2 vg.b3
def vg.g1 (X2 : IR) : IR := (.block 0 X2)
def vg.b1 : IR := vg.g1 vg.b2
def vg.b8 : IR := (iSr [.s (.fn 169 (.of 169) [aT3]), iQm 2 0] .ret)
def vg.g0 (X1 X8 : IR) : IR := (iSr [iWl 1 (.box aT0), iQo 2 (.mv (.c .nilf))] (iSr [.w .push none .mkmap, iWl 3 (.alloc [.jl]), .w .none none (.store 1 aT3 aS0)] (.seq (iSr [.s (.zn 1 aT1), iQo 5 (.load aS0), iQo 6 (.len aT5), iQo 7 (.mv aC0)] X1) X8)))
def vg.b0 : IR := vg.g0 vg.b1 vg.b8
def vg.res : List RV := [.t (.of 2)]
def vg : Fn := { params := [(.of 0)], res := vg.res, body := vg.b0, init := in9 }
theorem vg.ok : fnA Tryz.prog Tryz.f104 [0, 1, 2, 3, 5, 8, 9, 10, 11] = some vg := by kernel_rfl
abbrev jk.fr := fr23
def jk.b14 : IR := (iSr [.s (.zk 1 aT17 aT19), .s (.load aS0), iQm 10 0] (iSr [.s (.load aT6), .s (.load aT3), iSm 10, .w .push none (.call aS2 [aS1, aS0]), iQo 21 (.not aS0)] (.cond aT21 (.exit 1) .skip)))
def jk.g13 (X14 : IR) : IR := (.block 3 X14)
def jk.b13 : IR := jk.g13 jk.b14
def jk.b15 : IR := (.reg [.s (.bin .add .int aT19 aC1), iQm 19 0])
def jk.g12 (X13 X15 : IR) : IR := (.seq X13 X15)
def jk.b12 : IR := jk.g12 jk.b13 jk.b15
def jk.g11 (X12 : IR) : IR := (iSr [iQo 20 (.bin .lss .int aT19 aT18)] (.seq (.cond aT20 .skip (.exit 2)) X12))
def jk.b11 : IR := jk.g11 jk.b12
def jk.g10 (X11 : IR) : IR := (.loop X11)
def jk.b10 : IR := jk.g10 jk.b11
def jk.g9 (X10 : IR) : IR := (.block 2 X10)
def jk.b9 : IR := jk.g9 jk.b10
def jk.b16 : IR := (iSr [.s (.load aT4), iSm 9, .s (.zk 1 aS1 aS0), .w .none none (.store 1 aS0 (.c (.bool true)))] (iSr [.s (.load aT7), iSm 0, .s (.bin .add .int aS0 aC1), .w .push none (.call aS2 [aS0]), iQm 11 0] (iSr [.s (.load aT4), iSm 9, .s (.zk 1 aS1 aS0), .w .none none (.store 1 aS0 (.c (.bool false)))] (iSr [iSm 11, iQo 22 (.not aS0)] (.cond aT22 (iSr [iQo 8 (.mv (.c (.bool false)))] .ret) .skip)))))
def jk.g8 (X9 X16 : IR) : IR := (iSr [.s (.load aT3), iSm 0, iSm 9, .s (.zk 1 aS2 aS1), .w .none none (.store 1 aS0 aS1)] (.seq (iSr [.s (.load aT5), iSm 0, .s (.zk 1 aS1 aS0), iQo 17 (.load aS0), iQo 18 (.len aT17), iQo 19 (.mv aC0)] X9) X16))
def jk.b8 : IR := jk.g8 jk.b9 jk.b16
def jk.g7 (X8 : IR) : IR := (iSr [iSm 14, iQm 9 0] (.seq (iSr [.s (.load aT4), iSm 9, .s (.zk 1 aS1 aS0), iQo 16 (.load aS0)] (.cond aT16 (.exit 1) .skip)) X8))
def jk.b7 : IR := jk.g7 jk.b8
def jk.g6 (X7 : IR) : IR := (.block 1 X7)
def jk.b6 : IR := jk.g6 jk.b7
def jk.b17 : IR := (.reg [.s (.bin .add .int aT14 aC1), iQm 14 0])
def jk.g5 (X6 X17 : IR) : IR := (.seq X6 X17)
def jk.b5 : IR := jk.g5 jk.b6 jk.b17
def jk.g4 (X5 : IR) : IR := (iSr [iQo 15 (.bin .lss .int aT14 bK)] (.seq (.cond aT15 .skip (.exit 0)) X5))
def jk.b4 : IR := jk.g4 jk.b5
def jk.g3 (X4 : IR) : IR := (.loop X4)
def jk.b3 : IR := jk.g3 jk.b4
def jk.g2 (X3 : IR) : IR := (.block 0 X3)
def jk.b2 : IR := jk.g2 jk.b3
def jk.b18 : IR := (iSr [iQo 8 (.mv (.c (.bool true)))] .ret)
def jk.g1 (X2 X18 : IR) : IR := (.seq .skip (.seq (iSr [.s (.zn 0 aT1), iQo 13 (.load aS0), iQo 14 (.mv aC0)] X2) X18))
def jk.b1 : IR := jk.g1 jk.b2 jk.b18
def jk.g0 (X1 : IR) : IR := (iSr [iQo 8 (.mv (.c (.bool false)))] (.seq (iSr [iSm 0, .s (.zn 0 aT1), .s (.load aS0), iQo 12 (.bin .eql .int aS2 aS0)] (.cond aT12 (.seq (.yg [] [(.s (.load aT2), 2, []), (.s (.load aT3), 0, []), (iCa 106 [aS0], 0, []), (.s (.build [.zf, (.bool false)] [(0, 1, aS0)]), 0, []), (.w .push none (.zy 2 1 [.zf, (.bool false)] [(0, 2, aS0)]), 0, []), (.w .push none (.appq 2 32 aS4 aS0), 0, []), (.w .none none (.store 1 aT2 aS0), 0, [])]) (iSr [.s (.load aT2), .s (.len aS0), .s (.bin .leq .int aS0 aC1536), iQm 8 0] .ret)) .skip)) X1))
def jk.b0 : IR := jk.g0 jk.b1
def jk.res : List RV := [.t (.of 8)]
def jk : Fn := { params := [(.of 0), (.of 1), (.of 2), (.of 3), (.of 4), (.of 5), (.of 6), (.of 7)], res := jk.res, body := jk.b0, init := in23 }
theorem jk.ok : fnA Tryz.prog Tryz.f105 [0, 1, 2, 3, 4, 5, 6, 7, 9, 10, 12, 13, 17, 28, 29, 30, 35, 43, 44, 45, 46, 53, 66] = some jk := by kernel_rfl
abbrev F106.fr := fr3
def F106.b1 : IR := (iSr [.w .push none (.zy 1 0 [(I 0)] []), iSm 0, .w .push none (.app 1 8 aS1 aS0), iQm 1 0] .ret)
def F106.g0 (X1 : IR) : IR := (iSr [iQo 1 (.mv (.c .zf))] (.seq (iSr [iSm 0, iQo 2 (.bin .eql (.nil .sl) aS0 (.c .zf))] (.cond aT2 (iSr [iQo 1 (.mv (.c .zf))] .ret) .skip)) X1))
def F106.b0 : IR := F106.g0 F106.b1
def F106.res : List RV := [.t (.of 1)]
def F106 : Fn := { params := [(.of 0)], res := F106.res, body := F106.b0, init := in3 }
theorem F106.ok : fnA Tryz.prog Tryz.f106 [0, 2, 4] = some F106 := by kernel_rfl
abbrev F110.fr := fr2
def F110.b0 : IR := (iSr [iWl 1 (.alloc [(I 0), .zf])] (iSr [iSm 0, .s (.build [(I 0), .zf] [(0, 1, aS0)]), .w .none none (.store 2 aT1 aS0)] .ret))
def F110.res : List RV := [.cell (.of 1) (some 2)]
def F110 : Fn := { params := [(.of 0)], res := F110.res, body := F110.b0, init := in2 }
theorem F110.ok : fnA Tryz.prog Tryz.f110 [0, 2] = some F110 := by kernel_rfl
abbrev F111.fr := fr14
def F111.b3 : IR := (iSr [iSm 6, iSm 8, .s (.bin .eql .bool aS1 aS0), iQm 12 0] (.cond aT12 (iSr [iSm 6, iSm 7, iSm 9, iCa 176 [aS1, aS0], iCa 175 [aS3, aS0], .w .none none (.store 2 aT4 aS0)] .ret) (iSr [iSm 7, iSm 9, iCa 177 [aS1, aS0], .s (.bin .geq .int aS0 aC0), iQm 13 0] (.cond bK (iSr [iSm 6, iSm 7, iSm 9, iCa 178 [aS1, aS0], iCa 175 [aS3, aS0], .w .none none (.store 2 aT4 aS0)] .ret) .skip))))
def F111.g2 (X3 : IR) : IR := (.block 0 X3)
def F111.b2 : IR := F111.g2 F111.b3
def F111.b4 : IR := (iSr [iSm 8, iSm 9, iSm 7, iCa 178 [aS1, aS0], iCa 175 [aS3, aS0], .w .none none (.store 2 aT4 aS0)] .ret)
def F111.g1 (X2 X4 : IR) : IR := (iSr [.s (.zi 2 aT2), iCa 174 [aS0], .s (.mv aS0), .s (.ext 0 aS0), .s (.ext 1 aS1), iQm 6 1, iQm 7 0] (iSr [.s (.zi 2 aT3), iCa 174 [aS0], .s (.mv aS0), .s (.ext 0 aS0), .s (.ext 1 aS1), iQm 8 1, iQm 9 0] (.seq X2 X4)))
def F111.b1 : IR := F111.g1 F111.b2 F111.b4
def F111.g0 (X1 : IR) : IR := (iSr [iWl 2 (.box aT0), iWl 3 (.box aT1), iWl 4 (.alloc [(I 0), .zf])] (.seq (iSr [.s (.zn 1 aT2), .s (.load aS0), .s (.bin .eql (.nil .sl) aS0 (.c .zf)), .s (.mv aS0), iPt 0 (.zn 1 aT3), iPt 1 (.load aS0), iPt 2 (.bin .eql (.nil .sl) aS0 (.c .zf)), iQo 10 (.pick aS3 aS0 (.c (.bool false)))] (.cond mr (iSr [.s (.zn 0 aT2), .s (.load aS0), .s (.zn 0 aT3), .s (.load aS0), .s (.bin .add .int aS2 aS0), iQm 5 0] (iSr [iSm 5, .s (.zn 0 aT2), .s (.load aS0), .s (.bin .gtr .int aS2 aS0), .s (.zn 0 aT3), .s (.load aS0), .s (.bin .gtr .int aS0 aC0), iQo 11 (.bin .eql .bool aS3 aS0)] (.cond aT11 (iSr [iSm 5, .s (.build [(I 0), .zf] [(0, 1, aS0)]), .w .none none (.store 2 aT4 aS0)] .ret) .skip))) .skip)) X1))
def F111.b0 : IR := F111.g0 F111.b1
def F111.res : List RV := [.cell (.of 4) (some 2)]
def F111 : Fn := { params := [(.of 0), (.of 1)], res := F111.res, body := F111.b0, init := in14 }
theorem F111.ok : fnA Tryz.prog Tryz.f111 [0, 1, 2, 3, 4, 5, 6, 7, 8, 9, 17, 30, 43, 52] = some F111 := by kernel_rfl
abbrev qy.fr := fr12
def qy.b7 : IR := (.yg [] [(.s (.zi 2 aT4), 1, []), (iSm 6, 0, []), (iCa 110 [aS0], 0, []), (iCa 179 [aS2, aS0], 0, []), (.w .none none (.store 2 aT4 aS0), 0, [])])
def qy.g6 (X7 : IR) : IR := (iSr [.s (.zk 1 aT7 aT9), .s (.load aS0), iQm 5 0] (iSr [iSm 1, iQm 6 0] (.seq (iSr [.s (.zn 1 aT2), .s (.load aS0), .s (.mv aS0), iPt 0 (.mv aT5), iPt 1 (.bin .rem .int aS0 aC2), iPt 2 (.bin .eql .int aS0 aC1), iQo 11 (.pick aS3 aS0 (.c (.bool false)))] (.cond aT11 (.reg [iSm 1, .s (.bin .rem .int aS0 aC2), iQm 6 0]) .skip)) X7)))
def qy.b6 : IR := qy.g6 qy.b7
def qy.g5 (X6 : IR) : IR := (.block 1 X6)
def qy.b5 : IR := qy.g5 qy.b6
def qy.b8 : IR := (.reg [.s (.bin .add .int aT9 aC1), iQm 9 0])
def qy.g4 (X5 X8 : IR) : IR := (.seq X5 X8)
def qy.b4 : IR := qy.g4 qy.b5 qy.b8
def qy.g3 (X4 : IR) : IR := (iSr [iQo 10 (.bin .lss .int aT9 aT8)] (.seq (.cond mr .skip (.exit 0)) X4))
def qy.b3 : IR := qy.g3 qy.b4
def qy.g2 (X3 : IR) : IR := (.loop X3)
def qy.b2 : IR := qy.g2 qy.b3
def qy.g1 (X2 : IR) : IR := (.block 0 X2)
def qy.b1 : IR := qy.g1 qy.b2
def qy.b9 : IR := (iSr [.s (.zi 2 aT4), .w .none none (.store 2 aT3 aS0)] .ret)
def qy.g0 (X1 X9 : IR) : IR := (iSr [iWl 2 (.box aT0), iWl 3 (.alloc [(I 0), .zf])] (iSr [iCa 110 [aC1], iWl 4 (.alloc [(I 0), .zf]), .w .none none (.store 2 aT4 aS0)] (.seq (iSr [.s (.zi 2 aT2), iWl 7 (.call (.c (.fn 138 (.of 138) [])) [aS0]), iQo 8 (.len aT7), iQo 9 (.mv aC0)] X1) X9)))
def qy.b0 : IR := qy.g0 qy.b1 qy.b9
def qy.res : List RV := [.cell (.of 3) (some 2)]
def qy : Fn := { params := [(.of 0), (.of 1)], res := qy.res, body := qy.b0, init := in12 }
theorem qy.ok : fnA Tryz.prog Tryz.f112 [0, 1, 2, 4, 5, 7, 8, 11, 12, 13, 14, 24] = some qy := by kernel_rfl
abbrev F113.fr := fr3
def F113.b0 : IR := (iSr [iWl 1 (.box aT0), iWl 2 (.alloc [(I 0), .zf, (I 0), .zf])] (.seq (.yg [] [(.s (.zi 2 aT1), 1, []), (iCa 110 [aC1], 0, []), (.s (.build [(I 0), .zf, (I 0), .zf] [(0, 2, aS1), (2, 2, aS0)]), 0, []), (.w .none none (.store 4 aT2 aS0), 0, [])]) .ret))
def F113.res : List RV := [.cell (.of 2) (some 4)]
def F113 : Fn := { params := [(.of 0)], res := F113.res, body := F113.b0, init := in3 }
theorem F113.ok : fnA Tryz.prog Tryz.f113 [0, 1, 2] = some F113 := by kernel_rfl
abbrev F114.fr := fr7
def F114.b1 : IR := (iSr [.s (.zi 2 aT2), .s (.zi 2 aT3), iCa 182 [aS1, aS0], .s (.mv aS0), .s (.ext 0 aS0), .s (.ext 1 aS1), iWl 5 (.alloc [(I 0), .zf]), .w .push none (.alloc [(I 0), .zf]), .w .none none (.store 2 aT5 aS2), .w .none none (.store 2 aS0 aS1)] (iSr [.s (.zi 2 aT5), .w .none none (.store 2 aT4 aS0)] .ret))
def F114.g0 (X1 : IR) : IR := (iSr [iWl 2 (.box aT0), iWl 3 (.box aT1), iWl 4 (.alloc [(I 0), .zf])] (.seq (iSr [.s (.zi 2 aT3), iCa 180 [aS0], iQo 6 (.bin .lss .int aS0 aC0)] (.cond aT6 (.yg [] [(.s (.zi 2 aT2), 0, []), (.s (.zi 2 aT3), 1, []), (iCa 181 [aS1], 0, []), (iCa 181 [aS1], 0, []), (.w .none none (.store 2 aT2 aS1), 0, []), (.w .none none (.store 2 aT3 aS0), 0, [])]) .skip)) X1))
def F114.b0 : IR := F114.g0 F114.b1
def F114.res : List RV := [.cell (.of 4) (some 2)]
def F114 : Fn := { params := [(.of 0), (.of 1)], res := F114.res, body := F114.b0, init := in7 }
theorem F114.ok : fnA Tryz.prog Tryz.f114 [0, 1, 2, 3, 4, 5, 9] = some F114 := by kernel_rfl
abbrev F115.fr := fr3
def F115.b0 : IR := (iSr [iWl 1 (.box aT0), iQo 2 (.mv (.c (.bool false)))] (iSr [.s (.zn 0 aT1), .s (.zi 2 aS0), iCa 183 [aS0], .s (.mv aS0), iPf 0 (.zn 2 aT1), iPf 1 (.zi 2 aS0), .w .push (some (aS2, false)) (.call (.c (.fn 183 (.of 183) [])) [aS0]), .s (.pick aS3 (.c (.bool true)) aS0), iQm 2 0] .ret))
def F115.res : List RV := [.t (.of 2)]
def F115 : Fn := { params := [(.of 0)], res := F115.res, body := F115.b0, init := in3 }
theorem F115.ok : fnA Tryz.prog Tryz.f115 [0, 1, 2] = some F115 := by kernel_rfl
abbrev F116.fr := fr4
def F116.b1 : IR := (.seq (.yg [] [(.s (.zn 0 aT1), 0, []), (.s (.zi 2 aS0), 0, []), (.s (.zn 2 aT1), 1, []), (.s (.zi 2 aS0), 1, []), (iCa 185 [aS2], 0, []), (.s (.bin .add .str aS0 (.c (.str [47]))), 1, []), (iCa 185 [aS2], 0, []), (.s (.bin .add .str aS1 aS0), 0, []), (iQm 2 0, 0, [])]) .ret)
def F116.g0 (X1 : IR) : IR := (iSr [iWl 1 (.box aT0), iQo 2 (.mv (.c (.str [])))] (.seq (iSr [.s (.zi 4 aT1), iWl 3 (.call (.c (.fn 184 (.of 184) [])) [aS0])] (.cond aT3 (iSr [.s (.zn 0 aT1), .s (.zi 2 aS0), iCa 185 [aS0], iQm 2 0] .ret) .skip)) X1))
def F116.b0 : IR := F116.g0 F116.b1
def F116.res : List RV := [.t (.of 2)]
def F116 : Fn := { params := [(.of 0)], res := F116.res, body := F116.b0, init := in4 }
theorem F116.ok : fnA Tryz.prog Tryz.f116 [0, 1, 2, 4] = some F116 := by kernel_rfl
abbrev zh.fr := fr18
def zh.b7 : IR := (iSr [.s (.entry aT15), .s (.ext 1 aS0), iWl 12 (.alloc [.zf, (.bool false)]), .w .none none (.store 2 aT12 aS0)] (iSr [iSm 7, .s (.zi 2 aT12), iCa 121 [aS1, aS0], iQo 17 (.not aS0)] (.cond aT17 (.seq (.yg [] [(.s (.zi 2 aT6), 0, []), (iQo 3 (.mv (.c .jl)), 0, []), (.w .none none (.store 2 aT4 aS0), 0, []), (iQo 5 (.mv aC28), 0, [])]) .ret) .skip)))
def zh.g6 (X7 : IR) : IR := (.block 1 X7)
def zh.b6 : IR := zh.g6 zh.b7
def zh.g5 (X6 : IR) : IR := (iSr [.w .push none (.next aT15), iQo 16 (.ext 0 aS0)] (.seq (.cond aT16 .skip (.exit 0)) X6))
def zh.b5 : IR := zh.g5 zh.b6
def zh.g4 (X5 : IR) : IR := (.loop X5)
def zh.b4 : IR := zh.g4 zh.b5
def zh.g3 (X4 : IR) : IR := (.block 0 X4)
def zh.b3 : IR := zh.g3 zh.b4
def zh.b8 : IR := (iSr [iSm 8, iSm 11, .s (.aaddr 1 2 aT6 aC0), .w .none none (.store 1 aS0 aS2), .s (.aaddr 1 2 aT6 aC1), .w .none none (.store 1 aS0 aS2)] (.seq (.yg [] [(iSm 10, 0, []), (.s (.zi 2 aT6), 0, []), (iQm 3 1, 0, []), (.w .none none (.store 2 aT4 aS0), 0, []), (iQo 5 (.mv aC0), 0, [])]) .ret))
def zh.g2 (X3 X8 : IR) : IR := (.seq (iSr [iSm 10, iWl 15 (.range aS0)] X3) X8)
def zh.b2 : IR := zh.g2 zh.b3 zh.b8
def zh.g1 (X2 : IR) : IR := (iSr [iSm 1, iSm 2, iCa 92 [aS1, aS0], .s (.mv aS0), .s (.ext 0 aS0), .s (.ext 1 aS1), .s (.ext 2 aS2), iQm 10 2, iQm 11 1, iQm 9 0] (.seq (iSr [iSm 9, iQo 14 (.bin .neq .int aS0 aC0)] (.cond aT14 (.seq (.yg [] [(.s (.zi 2 aT6), 0, []), (iSm 9, 1, []), (iQo 3 (.mv (.c .jl)), 0, []), (.w .none none (.store 2 aT4 aS1), 0, []), (iQm 5 0, 0, [])]) .ret) .skip)) X2))
def zh.b1 : IR := zh.g1 zh.b2
def zh.g0 (X1 : IR) : IR := (iSr [iQo 3 (.mv (.c .jl)), iWl 4 (.alloc [.zf, .zf]), iQo 5 (.mv aC0)] (iSr [iWl 6 (.alloc [.zf, .zf])] (iSr [iSm 0, iSm 2, iCa 92 [aS1, aS0], .s (.mv aS0), .s (.ext 0 aS0), .s (.ext 1 aS1), .s (.ext 2 aS2), iQm 7 2, iQm 8 1, iQm 9 0] (.seq (iSr [iSm 9, iQo 13 (.bin .neq .int aS0 aC0)] (.cond bK (.seq (.yg [] [(.s (.zi 2 aT6), 0, []), (iSm 9, 1, []), (iQo 3 (.mv (.c .jl)), 0, []), (.w .none none (.store 2 aT4 aS1), 0, []), (iQm 5 0, 0, [])]) .ret) .skip)) X1))))
def zh.b0 : IR := zh.g0 zh.b1
def zh.res : List RV := [.t (.of 3), .cell (.of 4) (some 2), .t (.of 5)]
def zh : Fn := { params := [(.of 0), (.of 1), (.of 2)], res := zh.res, body := zh.b0, init := in18 }
theorem zh.ok : fnA Tryz.prog Tryz.f120 [0, 1, 2, 6, 7, 8, 9, 10, 11, 12, 13, 14, 16, 25, 36, 40, 42, 48] = some zh := by kernel_rfl
abbrev F121.fr := fr5
def F121.b0 : IR := (iSr [iWl 2 (.box aT1), iQo 3 (.mv (.c (.bool false)))] (iSr [iSm 0, .s (.zi 2 aT2), iCa 123 [aS0], .s (.look .str (.agg [.zf, (.bool false)]) true aS2 aS0), .s (.mv aS0), .s (.ext 0 aS0), .s (.ext 1 aS1), .w .push none (.alloc [.zf, (.bool false)]), .w .none none (.store 2 aS0 aS2), iQm 4 1] (iSr [iSm 4, iQm 3 0] .ret)))
def F121.res : List RV := [.t (.of 3)]
def F121 : Fn := { params := [(.of 0), (.of 1)], res := F121.res, body := F121.b0, init := in5 }
theorem F121.ok : fnA Tryz.prog Tryz.f121 [0, 1, 3, 4, 6] = some F121 := by kernel_rfl
abbrev jy.fr := fr12
def jy.b6 : IR := (iSr [iSm 10, .s (.zk 1 aT8 mr), .s (.load aS0), iQm 6 2, iQm 7 0] (.yg [] [(.s (.zn 0 aT5), 0, []), (.s (.load aS0), 0, []), (iSm 6, 0, []), (.s (.zn 0 aT2), 0, []), (.s (.load aS0), 0, []), (iSm 7, 0, []), (.s (.zk 1 aS1 aS0), 0, []), (.s (.load aS0), 0, []), (.s (.zk 1 aS6 aS5), 0, []), (.w .none none (.store 1 aS0 aS1), 0, [])]))
def jy.g5 (X6 : IR) : IR := (.block 1 X6)
def jy.b5 : IR := jy.g5 jy.b6
def jy.b7 : IR := (.reg [.s (.bin .add .int mr aC1), iQm 10 0])
def jy.g4 (X5 X7 : IR) : IR := (.seq X5 X7)
def jy.b4 : IR := jy.g4 jy.b5 jy.b7
def jy.g3 (X4 : IR) : IR := (iSr [iQo 11 (.bin .lss .int mr aT9)] (.seq (.cond aT11 .skip (.exit 0)) X4))
def jy.b3 : IR := jy.g3 jy.b4
def jy.g2 (X3 : IR) : IR := (.loop X3)
def jy.b2 : IR := jy.g2 jy.b3
def jy.g1 (X2 : IR) : IR := (.block 0 X2)
def jy.b1 : IR := jy.g1 jy.b2
def jy.b8 : IR := (iSr [.s (.zi 2 aT5), .w .none none (.store 2 aT4 aS0)] .ret)
def jy.g0 (X1 X8 : IR) : IR := (iSr [iWl 2 (.box aT0), iWl 3 (.box aT1), iWl 4 (.alloc [.zf, (.bool false)])] (.seq (.yg [(.alloc [.zf, (.bool false)])] [(.s (.zn 0 aT3), 2, []), (.s (.load aS0), 2, []), (.s (.len aS0), 2, [(.jf 1 8 [(I 0)] aS0 aS0)]), (.s (.zn 1 aT2), 2, []), (.s (.load aS0), 2, []), (.s (.zn 1 aT3), 2, []), (.s (.load aS0), 2, []), (.s (.bin .neq .bool aS2 aS0), 2, []), (.w .push none (.jf 1 8 [(I 0)] aS5 aS5), 0, []), (.s (.build [.zf, (.bool false)] [(0, 1, aS0), (1, 1, aS1)]), 1, []), (iWl 5 (.alloc [.zf, (.bool false)]), 0, []), (.w .none none (.store 2 aT5 aS0), 0, [])]) (.seq (iSr [.s (.zn 0 aT3), iQo 8 (.load aS0), iQo 9 (.len aT8), iQo 10 (.mv aC0)] X1) X8)))
def jy.b0 : IR := jy.g0 jy.b1 jy.b8
def jy.res : List RV := [.cell (.of 4) (some 2)]
def jy : Fn := { params := [(.of 0), (.of 1)], res := jy.res, body := jy.b0, init := in12 }
theorem jy.ok : fnA Tryz.prog Tryz.f122 [0, 1, 2, 3, 4, 5, 6, 7, 19, 20, 21, 22] = some jy := by kernel_rfl
abbrev jo.fr := fr10
def jo.b6 : IR := (iSr [.s (.zk 1 aT5 aT7), .s (.load aS0), iQm 4 0] (.reg [iSm 3, iSm 4, .s (.conv .u8 aS0), .w .push none (.zy 1 1 [(.int .u8 0)] [(0, 1, aS0)]), .w .push none (.app 1 1 aS3 aS0), iQm 3 0]))
def jo.g5 (X6 : IR) : IR := (.block 1 X6)
def jo.b5 : IR := jo.g5 jo.b6
def jo.b7 : IR := (.reg [.s (.bin .add .int aT7 aC1), iQm 7 0])
def jo.g4 (X5 X7 : IR) : IR := (.seq X5 X7)
def jo.b4 : IR := jo.g4 jo.b5 jo.b7
def jo.g3 (X4 : IR) : IR := (iSr [iQo 8 (.bin .lss .int aT7 aT6)] (.seq (.cond aT8 .skip (.exit 0)) X4))
def jo.b3 : IR := jo.g3 jo.b4
def jo.g2 (X3 : IR) : IR := (.loop X3)
def jo.b2 : IR := jo.g2 jo.b3
def jo.g1 (X2 : IR) : IR := (.block 0 X2)
def jo.b1 : IR := jo.g1 jo.b2
def jo.b9 : IR := (iSr [iSm 3, .s (.b2s aS0), iQm 2 0] .ret)
def jo.g8 (X9 : IR) : IR := (.seq (iSr [.s (.zn 1 aT1), iQo 9 (.load aS0)] (.cond aT9 (.reg [iSm 3, .w .push none (.zy 1 1 [(.int .u8 0)] [(0, 1, (.c (.int .u8 1)))]), .w .push none (.app 1 1 aS1 aS0), iQm 3 0]) .skip)) X9)
def jo.b8 : IR := jo.g8 jo.b9
def jo.g0 (X1 X8 : IR) : IR := (iSr [iWl 1 (.box aT0), iQo 2 (.mv (.c (.str [])))] (iSr [.s (.zn 0 aT1), .s (.load aS0), .s (.len aS0), .s (.bin .add .int aS0 aC1), .w .push none (.jf 1 1 [(.int .u8 0)] aC0 aS0), iQm 3 0] (.seq (iSr [.s (.zn 0 aT1), iQo 5 (.load aS0), iQo 6 (.len aT5), iQo 7 (.mv aC0)] X1) X8)))
def jo.b0 : IR := jo.g0 jo.b1 jo.b8
def jo.res : List RV := [.t (.of 2)]
def jo : Fn := { params := [(.of 0)], res := jo.res, body := jo.b0, init := in10 }
theorem jo.ok : fnA Tryz.prog Tryz.f123 [0, 1, 2, 3, 5, 12, 13, 14, 15, 25] = some jo := by kernel_rfl
abbrev zx.fr := fr10
def zx.b6 : IR := (iSr [iSm 8, .s (.zk 1 aT6 aT8), .s (.load aS0), iQm 4 2, iQm 5 0] (.reg [.s (.zn 0 aT3), .s (.load aS0), iSm 5, iSm 4, .s (.zk 1 aS2 aS1), .w .none none (.store 1 aS0 aS1)]))
def zx.g5 (X6 : IR) : IR := (.block 1 X6)
def zx.b5 : IR := zx.g5 zx.b6
def zx.b7 : IR := (.reg [.s (.bin .add .int aT8 aC1), iQm 8 0])
def zx.g4 (X5 X7 : IR) : IR := (.seq X5 X7)
def zx.b4 : IR := zx.g4 zx.b5 zx.b7
def zx.g3 (X4 : IR) : IR := (iSr [iQo 9 (.bin .lss .int aT8 aT7)] (.seq (.cond aT9 .skip (.exit 0)) X4))
def zx.b3 : IR := zx.g3 zx.b4
def zx.g2 (X3 : IR) : IR := (.loop X3)
def zx.b2 : IR := zx.g2 zx.b3
def zx.g1 (X2 : IR) : IR := (.block 0 X2)
def zx.b1 : IR := zx.g1 zx.b2
def zx.b8 : IR := (iSr [.s (.zi 2 aT3), .w .none none (.store 2 aT2 aS0)] .ret)
def zx.g0 (X1 X8 : IR) : IR := (iSr [iWl 1 (.box aT0), iWl 2 (.alloc [.zf, (.bool false)])] (.seq (.yg [(.alloc [.zf, (.bool false)])] [(.s (.zn 0 aT1), 2, []), (.s (.load aS0), 2, []), (.s (.len aS0), 2, [(.jf 1 8 [(I 0)] aS0 aS0)]), (.s (.zn 1 aT1), 2, []), (.s (.load aS0), 2, []), (.w .push none (.jf 1 8 [(I 0)] aS2 aS2), 0, []), (.s (.build [.zf, (.bool false)] [(0, 1, aS0), (1, 1, aS1)]), 1, []), (iWl 3 (.alloc [.zf, (.bool false)]), 0, []), (.w .none none (.store 2 aT3 aS0), 0, [])]) (.seq (iSr [.s (.zn 0 aT1), iQo 6 (.load aS0), iQo 7 (.len aT6), iQo 8 (.mv aC0)] X1) X8)))
def zx.b0 : IR := zx.g0 zx.b1 zx.b8
def zx.res : List RV := [.cell (.of 2) (some 2)]
def zx : Fn := { params := [(.of 0)], res := zx.res, body := zx.b0, init := in10 }
theorem zx.ok : fnA Tryz.prog Tryz.f124 [0, 1, 2, 3, 4, 5, 14, 15, 16, 17] = some zx := by kernel_rfl
abbrev F134.fr := fr2
def F134.b0 : IR := (iSr [iQo 1 (.mv aC0)] (iSr [iSm 0, .s (.len aS0), .s (.bin .gtr .int aS0 aC256), iCa 96 [aS0, aC5], iSm 0, .w .push none (.call (.c (.fn 136 (.of 136) [])) [aS0, (.c (.fn 137 (.of 137) []))]), iCa 96 [aS0, aC3], .w .push none (.zy 1 2 [(I 0)] [(0, 1, aS3), (1, 1, aS0)]), iCa 94 [aS0], iQm 1 0] .ret))
def F134.res : List RV := [.t (.of 1)]
def F134 : Fn := { params := [(.of 0)], res := F134.res, body := F134.b0, init := in2 }
theorem F134.ok : fnA Tryz.prog Tryz.f134 [0, 2] = some F134 := by kernel_rfl
abbrev wo.fr := fr12
def wo.b7 : IR := (.reg [iSm 4, .s (.zn 0 aT2), .s (.load aS0), iSm 5, .s (.zk 1 aS1 aS0), .s (.load aS0), iSm 6, .s (.zk 1 aS6 aS1), .w .none none (.store 1 aS0 aS1)])
def wo.g6 (X7 : IR) : IR := (iSr [iSm 9, .s (.zk 1 aT7 aT9), .s (.load aS0), iQm 5 2, iQm 6 0] (.seq (iSr [.s (.zn 1 aT2), iQo 11 (.load aS0)] (.cond aT11 (.reg [iSm 1, .s (.len aS0), .s (.bin .add .int aS0 aC1), iSm 6, .s (.bin .sub .int aS1 aS0), iQm 6 0]) .skip)) X7))
def wo.b6 : IR := wo.g6 wo.b7
def wo.g5 (X6 : IR) : IR := (.block 1 X6)
def wo.b5 : IR := wo.g5 wo.b6
def wo.b8 : IR := (.reg [.s (.bin .add .int aT9 aC1), iQm 9 0])
def wo.g4 (X5 X8 : IR) : IR := (.seq X5 X8)
def wo.b4 : IR := wo.g4 wo.b5 wo.b8
def wo.g3 (X4 : IR) : IR := (iSr [iQo 10 (.bin .lss .int aT9 aT8)] (.seq (.cond mr .skip (.exit 0)) X4))
def wo.b3 : IR := wo.g3 wo.b4
def wo.g2 (X3 : IR) : IR := (.loop X3)
def wo.b2 : IR := wo.g2 wo.b3
def wo.g1 (X2 : IR) : IR := (.block 0 X2)
def wo.b1 : IR := wo.g1 wo.b2
def wo.b9 : IR := (iSr [iSm 4, iQm 3 0] .ret)
def wo.g0 (X1 X9 : IR) : IR := (iSr [iWl 2 (.box aT0), iQo 3 (.mv (.c .zf))] (iSr [iSm 1, .s (.len aS0), .w .push none (.jf 1 8 [(I 0)] aS0 aS0), iQm 4 0] (.seq (iSr [iQo 7 (.mv aT1), iQo 8 (.len aT7), iQo 9 (.mv aC0)] X1) X9)))
def wo.b0 : IR := wo.g0 wo.b1 wo.b9
def wo.res : List RV := [.t (.of 3)]
def wo : Fn := { params := [(.of 0), (.of 1)], res := wo.res, body := wo.b0, init := in12 }
theorem wo.ok : fnA Tryz.prog Tryz.f135 [0, 1, 2, 4, 5, 6, 7, 11, 12, 13, 14, 19] = some wo := by kernel_rfl
abbrev F136.fr := fr3
def F136.b0 : IR := (iSr [iQo 2 (.mv (.c (.bool false)))] (iSr [iSm 0, iSm 1, iCa 197 [aS1, aS0], .s (.bin .geq .int aS0 aC0), iQm 2 0] .ret))
def F136.res : List RV := [.t (.of 2)]
def F136 : Fn := { params := [(.of 0), (.of 1)], res := F136.res, body := F136.b0, init := in3 }
theorem F136.ok : fnA Tryz.prog Tryz.f136 [0, 1, 4] = some F136 := by kernel_rfl
abbrev F137.fr := fr2
def F137.b0 : IR := (iSr [iQo 1 (.mv (.c (.bool false)))] (iSr [iSm 0, .s (.bin .lss .int aS0 (.c (I (-999999999)))), .s (.mv aS0), iPf 0 (.mv aT0), iPf 1 (.bin .gtr .int aS0 mG), .s (.pick aS2 (.c (.bool true)) aS0), iQm 1 0] .ret))
def F137.res : List RV := [.t (.of 1)]
def F137 : Fn := { params := [(.of 0)], res := F137.res, body := F137.b0, init := in2 }
theorem F137.ok : fnA Tryz.prog Tryz.f137 [0, 2] = some F137 := by kernel_rfl
abbrev gu.fr := fr13
def gu.b12 : IR := (iSr [iSm 4, iSm 7, .s (.zk 1 aS1 aS0), .w .none none (.store 1 aS0 (.c (.bool true)))] (.reg [iSm 6, .s (.bin .add .int aS0 aC1), iQm 6 0]))
def gu.g11 (X12 : IR) : IR := (.block 3 X12)
def gu.b11 : IR := gu.g11 gu.b12
def gu.b13 : IR := (.reg [.s (.zn 0 aT1), .s (.load aS0), iSm 7, .s (.zk 1 aS1 aS0), .s (.load aS0), iQm 7 0])
def gu.g10 (X11 X13 : IR) : IR := (.seq X11 X13)
def gu.b10 : IR := gu.g10 gu.b11 gu.b13
def gu.g9 (X10 : IR) : IR := (.seq (iSr [iSm 4, iSm 7, .s (.zk 1 aS1 aS0), .s (.load aS0), iQo 11 (.not aS0)] (.cond aT11 .skip (.exit 2))) X10)
def gu.b9 : IR := gu.g9 gu.b10
def gu.g8 (X9 : IR) : IR := (.loop X9)
def gu.b8 : IR := gu.g8 gu.b9
def gu.g7 (X8 : IR) : IR := (.block 2 X8)
def gu.b7 : IR := gu.g7 gu.b8
def gu.b14 : IR := (iSr [iSm 6, iQo 12 (.bin .gtr .int aS0 aC0)] (.cond aT12 (.reg [iSm 3, iSm 6, .w .push none (.zy 1 1 [(I 0)] [(0, 1, aS0)]), .w .push none (.app 1 8 aS2 aS0), iQm 3 0]) .skip))
def gu.g6 (X7 X14 : IR) : IR := (iSr [iSm 9, iQm 5 0] (iSr [iQo 6 (.mv aC0)] (.seq (iSr [iSm 5, iQm 7 0] X7) X14)))
def gu.b6 : IR := gu.g6 gu.b7 gu.b14
def gu.g5 (X6 : IR) : IR := (.block 1 X6)
def gu.b5 : IR := gu.g5 gu.b6
def gu.b15 : IR := (.reg [.s (.bin .add .int aT9 aC1), iQm 9 0])
def gu.g4 (X5 X15 : IR) : IR := (.seq X5 X15)
def gu.b4 : IR := gu.g4 gu.b5 gu.b15
def gu.g3 (X4 : IR) : IR := (iSr [iQo 10 (.bin .lss .int aT9 aT8)] (.seq (.cond mr .skip (.exit 0)) X4))
def gu.b3 : IR := gu.g3 gu.b4
def gu.g2 (X3 : IR) : IR := (.loop X3)
def gu.b2 : IR := gu.g2 gu.b3
def gu.g1 (X2 : IR) : IR := (.block 0 X2)
def gu.b1 : IR := gu.g1 gu.b2
def gu.b16 : IR := (iSr [iSm 3, iQm 2 0] .ret)
def gu.g0 (X1 X16 : IR) : IR := (iSr [iWl 1 (.box aT0), iQo 2 (.mv (.c .zf))] (iSr [iQo 3 (.mv (.c .zf))] (iSr [.s (.zn 0 aT1), .s (.load aS0), .s (.len aS0), .w .push none (.jf 1 1 [(.bool false)] aS0 aS0), iQm 4 0] (.seq (iSr [.s (.zn 0 aT1), .s (.load aS0), iQo 8 (.len aS0), iQo 9 (.mv aC0)] X1) X16))))
def gu.b0 : IR := gu.g0 gu.b1 gu.b16
def gu.res : List RV := [.t (.of 2)]
def gu : Fn := { params := [(.of 0)], res := gu.res, body := gu.b0, init := in13 }
theorem gu.ok : fnA Tryz.prog Tryz.f138 [0, 1, 2, 3, 4, 5, 6, 7, 14, 15, 16, 23, 35] = some gu := by kernel_rfl
abbrev bC.fr := fr4
def bC.b5 : IR := (.yg [] [(iSm 1, 0, []), (iSm 0, 0, []), (iSm 1, 0, []), (.s (.bin .rem .int aS1 aS0), 0, []), (iQm 0 3, 0, []), (iQm 1 0, 0, [])])
def bC.g4 (X5 : IR) : IR := (.block 1 X5)
def bC.b4 : IR := bC.g4 bC.b5
def bC.g3 (X4 : IR) : IR := (.seq (iSr [iSm 1, iQo 3 (.bin .neq .int aS0 aC0)] (.cond aT3 .skip (.exit 0))) X4)
def bC.b3 : IR := bC.g3 bC.b4
def bC.g2 (X3 : IR) : IR := (.loop X3)
def bC.b2 : IR := bC.g2 bC.b3
def bC.g1 (X2 : IR) : IR := (.block 0 X2)
def bC.b1 : IR := bC.g1 bC.b2
def bC.b6 : IR := (iSr [iSm 0, iQm 2 0] .ret)
def bC.g0 (X1 X6 : IR) : IR := (iSr [iQo 2 (.mv aC0)] (.seq X1 X6))
def bC.b0 : IR := bC.g0 bC.b1 bC.b6
def bC.res : List RV := [.t (.of 2)]
def bC : Fn := { params := [(.of 0), (.of 1)], res := bC.res, body := bC.b0, init := in4 }
theorem bC.ok : fnA Tryz.prog Tryz.f139 [0, 1, 4, 6] = some bC := by kernel_rfl
abbrev F140.fr := fr2
def F140.b0 : IR := (iSr [iQo 1 (.mv (.c (.bool false)))] (iSr [iSm 0, iCa 198 [aS0], .s (.bin .eql .int aS0 aC0), iQm 1 0] .ret))
def F140.res : List RV := [.t (.of 1)]
def F140 : Fn := { params := [(.of 0)], res := F140.res, body := F140.b0, init := in2 }
theorem F140.ok : fnA Tryz.prog Tryz.f140 [0, 2] = some F140 := by kernel_rfl
abbrev jr.fr := fr6
def jr.b6 : IR := (.reg [iSm 3, iSm 0, iSm 1, iSm 4, .s (.zk 1 aS1 aS0), .s (.load aS0), .s (.zk 1 aS4 aS0), .s (.load aS0), .w .push none (.zy 1 1 [(I 0)] [(0, 1, aS0)]), .w .push none (.app 1 8 aS8 aS0), iQm 3 0])
def jr.g5 (X6 : IR) : IR := (.block 1 X6)
def jr.b5 : IR := jr.g5 jr.b6
def jr.b7 : IR := (.reg [iSm 4, .s (.bin .add .int aS0 aC1), iQm 4 0])
def jr.g4 (X5 X7 : IR) : IR := (.seq X5 X7)
def jr.b4 : IR := jr.g4 jr.b5 jr.b7
def jr.g3 (X4 : IR) : IR := (.seq (iSr [iSm 4, iSm 1, .s (.len aS0), iQo 5 (.bin .lss .int aS2 aS0)] (.cond aT5 .skip (.exit 0))) X4)
def jr.b3 : IR := jr.g3 jr.b4
def jr.g2 (X3 : IR) : IR := (.loop X3)
def jr.b2 : IR := jr.g2 jr.b3
def jr.g1 (X2 : IR) : IR := (.block 0 X2)
def jr.b1 : IR := jr.g1 jr.b2
def jr.b8 : IR := (iSr [iSm 3, iQm 2 0] .ret)
def jr.g0 (X1 X8 : IR) : IR := (iSr [iQo 2 (.mv (.c .zf))] (iSr [iQo 3 (.mv (.c .zf))] (.seq (iSr [iQo 4 (.mv aC0)] X1) X8)))
def jr.b0 : IR := jr.g0 jr.b1 jr.b8
def jr.res : List RV := [.t (.of 2)]
def jr : Fn := { params := [(.of 0), (.of 1)], res := jr.res, body := jr.b0, init := in6 }
theorem jr.ok : fnA Tryz.prog Tryz.f144 [0, 1, 4, 5, 6, 10] = some jr := by kernel_rfl
abbrev F145.fr := fr2
def F145.b0 : IR := (iSr [iQo 1 (.mv aC0)] (iSr [iSm 0, .s (.bin .lss .int aS0 aC1), .s (.mv aS0), iPf 0 (.mv aT0), iPf 1 (.bin .gtr .int aS0 aC16), .s (.pick aS2 (.c (.bool true)) aS0), iCa 96 [aS0, aC3], iQm 1 0] .ret))
def F145.res : List RV := [.t (.of 1)]
def F145 : Fn := { params := [(.of 0)], res := F145.res, body := F145.b0, init := in2 }
theorem F145.ok : fnA Tryz.prog Tryz.f145 [0, 2] = some F145 := by kernel_rfl
abbrev vk.fr := fr10
def vk.b6 : IR := (iSr [iSm 8, iQm 4 0] (.seq (.yg [] [(iSm 2, 0, []), (iSm 4, 0, []), (iSm 1, 0, []), (.s (.bin .quo .int aS1 aS0), 0, []), (iSm 4, 0, []), (iSm 1, 0, []), (.s (.bin .rem .int aS1 aS0), 0, []), (.w .push none (.call aS6 [aS3, aS0]), 0, []), (.s (.mv aS0), 0, []), (.s (.ext 0 aS0), 0, []), (.s (.ext 1 aS1), 0, []), (iQm 5 1, 0, []), (iQm 6 0, 0, [])]) (.reg [.s (.zn 0 aT3), .s (.load aS0), iSm 4, iSm 1, iSm 5, .s (.bin .mul .int aS1 aS0), iSm 6, .s (.bin .add .int aS1 aS0), .s (.zk 1 aS6 aS5), .w .none none (.store 1 aS0 aS1)])))
def vk.g5 (X6 : IR) : IR := (.block 1 X6)
def vk.b5 : IR := vk.g5 vk.b6
def vk.b7 : IR := (.reg [.s (.bin .add .int aT8 aC1), iQm 8 0])
def vk.g4 (X5 X7 : IR) : IR := (.seq X5 X7)
def vk.b4 : IR := vk.g4 vk.b5 vk.b7
def vk.g3 (X4 : IR) : IR := (iSr [iQo 9 (.bin .lss .int aT8 aT7)] (.seq (.cond aT9 .skip (.exit 0)) X4))
def vk.b3 : IR := vk.g3 vk.b4
def vk.g2 (X3 : IR) : IR := (.loop X3)
def vk.b2 : IR := vk.g2 vk.b3
def vk.g1 (X2 : IR) : IR := (.block 0 X2)
def vk.b1 : IR := vk.g1 vk.b2
def vk.b8 : IR := (.yg [] [(iSm 0, 1, []), (.s (.zi 2 aT3), 0, []), (.s (.zi 2 aT3), 1, []), (iCa 123 [aS1], 0, []), (.w .none none (.mapup .str aS3 aS0 aS1), 0, [])])
def vk.g0 (X1 X8 : IR) : IR := (iSr [iSm 1, iSm 1, .s (.bin .mul .int aS1 aS0), .w .push none (.jf 1 8 [(I 0)] aS0 aS0), .s (.build [.zf, (.bool false)] [(0, 1, aS0)]), iWl 3 (.alloc [.zf, (.bool false)]), .w .none none (.store 2 aT3 aS0)] (.seq (iSr [.s (.zn 0 aT3), .s (.load aS0), iQo 7 (.len aS0), iQo 8 (.mv aC0)] X1) X8))
def vk.b0 : IR := vk.g0 vk.b1 vk.b8
def vk.res : List RV := []
def vk : Fn := { params := [(.of 0), (.of 1), (.of 2)], res := vk.res, body := vk.b0, init := in10 }
theorem vk.ok : fnA Tryz.prog Tryz.f146 [0, 1, 2, 6, 7, 8, 9, 17, 18, 19] = some vk := by kernel_rfl
abbrev F147.fr := fr9
def F147.b3 : IR := (iSr [iSm 0, iSm 1, iQm 4 1, iQm 5 0] .ret)
def F147.g2 (X3 : IR) : IR := (.seq (iSr [.s (.load aT2), .s (.bin .and .int aS0 aC4), iQo 8 (.bin .neq .int aS0 aC0)] (.cond aT8 (iSr [iSm 1, iSm 0, iQm 4 1, iQm 5 0] .ret) .skip)) X3)
def F147.b2 : IR := F147.g2 F147.b3
def F147.g1 (X2 : IR) : IR := (.seq (iSr [.s (.load aT2), .s (.bin .and .int aS0 aC2), iQo 7 (.bin .neq .int aS0 aC0)] (.cond aT7 (.reg [.s (.load aT3), .s (.bin .sub .int aS0 aC1), iSm 1, .s (.bin .sub .int aS1 aS0), iQm 1 0]) .skip)) X2)
def F147.b1 : IR := F147.g1 F147.b2
def F147.g0 (X1 : IR) : IR := (iSr [iQo 4 (.mv aC0), iQo 5 (.mv aC0)] (.seq (iSr [.s (.load aT2), .s (.bin .and .int aS0 aC1), iQo 6 (.bin .neq .int aS0 aC0)] (.cond aT6 (.reg [.s (.load aT3), .s (.bin .sub .int aS0 aC1), iSm 0, .s (.bin .sub .int aS1 aS0), iQm 0 0]) .skip)) X1))
def F147.b0 : IR := F147.g0 F147.b1
def F147.res : List RV := [.t (.of 4), .t (.of 5)]
def F147 : Fn := { params := [(.of 0), (.of 1), (.of 2), (.of 3)], res := F147.res, body := F147.b0, init := in9 }
theorem F147.ok : fnA Tryz.prog Tryz.f147 [0, 1, 2, 3, 6, 7, 10, 17, 24] = some F147 := by kernel_rfl
abbrev qo.fr := fr12
def qo.b8 : IR := (.seq (.yg [] [(.s (.load aT3), 0, []), (iSm 0, 0, []), (.s (.load aT3), 1, []), (.s (.load aT1), 1, []), (.s (.bin .sub .int aS0 aC1), 1, []), (iSm 0, 1, []), (.s (.bin .sub .int aS1 aS0), 1, []), (iSm 6, 0, []), (.s (.load aT1), 1, []), (.s (.bin .sub .int aS0 aC1), 1, []), (iSm 6, 1, []), (.s (.bin .sub .int aS1 aS0), 1, []), (.s (.zk 1 aS11 aS10), 0, []), (.w .none none (.store 1 aS0 aS5), 0, []), (.s (.zk 1 aS10 aS6), 0, []), (.w .none none (.store 1 aS0 aS2), 0, [])]) (.seq (.yg [] [(.s (.load aT4), 0, []), (iSm 6, 0, []), (.s (.load aT4), 1, []), (.s (.load aT1), 1, []), (.s (.bin .sub .int aS0 aC1), 1, []), (iSm 6, 1, []), (.s (.bin .sub .int aS1 aS0), 1, []), (.s (.zk 1 aS6 aS5), 0, []), (.w .none none (.store 1 aS0 (.c (.bool true))), 0, []), (.s (.zk 1 aS5 aS1), 0, []), (.w .none none (.store 1 aS0 (.c (.bool true))), 0, [])]) (iSr [.s (.load aT5), iSm 0, .s (.bin .add .int aS0 aC1), .w .push none (.call aS2 [aS0])] (.yg [] [(.s (.load aT4), 0, []), (iSm 6, 0, []), (.s (.load aT4), 1, []), (.s (.load aT1), 1, []), (.s (.bin .sub .int aS0 aC1), 1, []), (iSm 6, 1, []), (.s (.bin .sub .int aS1 aS0), 1, []), (.s (.zk 1 aS6 aS5), 0, []), (.w .none none (.store 1 aS0 (.c (.bool false))), 0, []), (.s (.zk 1 aS5 aS1), 0, []), (.w .none none (.store 1 aS0 (.c (.bool false))), 0, [])]))))
def qo.g7 (X8 : IR) : IR := (iSr [iSm 9, iQm 6 0] (.seq (iSr [.s (.load aT4), iSm 6, .s (.zk 1 aS1 aS0), .s (.load aS0), .s (.mv aS0), iPf 0 (.mv aT0), iPf 1 (.bin .mul .int aC2 aS0), iPf 2 (.load aT1), iPf 3 (.bin .sub .int aS0 aC1), iPf 4 (.bin .eql .int aS2 aS0), iPf 5 (.mv aT6), iPf 6 (.bin .mul .int aC2 aS0), iPf 7 (.load aT1), iPf 8 (.bin .sub .int aS0 aC1), iPf 9 (.bin .eql .int aS2 aS0), iPf 10 (.bin .neq .bool aS5 aS0), iQo 11 (.pick aS11 (.c (.bool true)) aS0)] (.cond aT11 (.exit 1) .skip)) X8))
def qo.b7 : IR := qo.g7 qo.b8
def qo.g6 (X7 : IR) : IR := (.block 1 X7)
def qo.b6 : IR := qo.g6 qo.b7
def qo.b9 : IR := (.reg [.s (.bin .add .int aT9 aC1), iQm 9 0])
def qo.g5 (X6 X9 : IR) : IR := (.seq X6 X9)
def qo.b5 : IR := qo.g5 qo.b6 qo.b9
def qo.g4 (X5 : IR) : IR := (iSr [iQo 10 (.bin .lss .int aT9 aT8)] (.seq (.cond mr .skip (.exit 0)) X5))
def qo.b4 : IR := qo.g4 qo.b5
def qo.g3 (X4 : IR) : IR := (.loop X4)
def qo.b3 : IR := qo.g3 qo.b4
def qo.g2 (X3 : IR) : IR := (.block 0 X3)
def qo.b2 : IR := qo.g2 qo.b3
def qo.g1 (X2 : IR) : IR := (iSr [iQo 8 (.load aT1), iQo 9 (.mv aC0)] X2)
def qo.b1 : IR := qo.g1 qo.b2
def qo.g0 (X1 : IR) : IR := (.seq (iSr [iSm 0, .s (.load aT1), .s (.bin .add .int aS0 aC1), .s (.bin .quo .int aS0 aC2), iQo 7 (.bin .eql .int aS3 aS0)] (.cond aT7 (iSr [.s (.load aT2), .s (.load aT1), .s (.fn 150 (.of 150) [aT3]), iCa 146 [aS2, aS1, aS0]] .ret) .skip)) X1)
def qo.b0 : IR := qo.g0 qo.b1
def qo.res : List RV := []
def qo : Fn := { params := [(.of 0), (.of 1), (.of 2), (.of 3), (.of 4), (.of 5)], res := qo.res, body := qo.b0, init := in12 }
theorem qo.ok : fnA Tryz.prog Tryz.f149 [0, 1, 2, 3, 4, 5, 7, 12, 17, 18, 19, 37] = some qo := by kernel_rfl
abbrev F150.fr := fr5
def F150.b0 : IR := (iSr [iQo 3 (.mv aC0), iQo 4 (.mv aC0)] (.seq (.yg [] [(.s (.load aT2), 0, []), (iSm 0, 0, []), (.s (.zk 1 aS1 aS0), 0, []), (.s (.load aS0), 0, []), (.s (.load aT2), 0, []), (iSm 1, 0, []), (.s (.zk 1 aS1 aS0), 0, []), (.s (.load aS0), 0, []), (iQm 3 4, 0, []), (iQm 4 0, 0, [])]) .ret))
def F150.res : List RV := [.t (.of 3), .t (.of 4)]
def F150 : Fn := { params := [(.of 0), (.of 1), (.of 2)], res := F150.res, body := F150.b0, init := in5 }
theorem F150.ok : fnA Tryz.prog Tryz.f150 [0, 1, 2, 5, 6] = some F150 := by kernel_rfl
abbrev F156.fr := fr5
def F156.b1 : IR := (iSr [iSm 0, iSm 1, .s (.len aS0), iCa 22 [aS2, aS0], iQm 2 0] .ret)
def F156.g0 (X1 : IR) : IR := (iSr [iQo 2 (.mv aC0)] (.seq (iSr [iSm 1, iCa 134 [aS0], iQm 3 0] (iSr [iSm 3, iQo 4 (.bin .neq .int aS0 aC0)] (.cond aT4 (iSr [iSm 3, iQm 2 0] .ret) .skip))) X1))
def F156.b0 : IR := F156.g0 F156.b1
def F156.res : List RV := [.t (.of 2)]
def F156 : Fn := { params := [(.of 0), (.of 1)], res := F156.res, body := F156.b0, init := in5 }
theorem F156.ok : fnA Tryz.prog Tryz.f156 [0, 1, 4, 5, 9] = some F156 := by kernel_rfl
abbrev mY.fr := fr12
def mY.b3 : IR := (.reg [iWl 6 (.alloc [.zf, (.bool false)]), .w .none none (.store 2 aT6 mr)])
def mY.b6 : IR := (.reg [.s (.load aT5), iSm 7, .w .push none (.zy 1 1 [.zf] [(0, 1, aS0)]), .w .push none (.app 1 24 aS2 aS0), .w .none none (.store 1 aT5 aS0)])
def mY.g5 (X6 : IR) : IR := (iSr [.s (.zi 2 aT6), .s (.load aT2), iCa 135 [aS1, aS0], iQm 7 0] (.seq (iSr [iSm 7, iWl 11 (.call (.c (.fn 136 (.of 136) [])) [aS0, (.c (.fn 137 (.of 137) []))])] (.cond aT11 (iSr [.w .none none (.store 1 aT3 (.c .zf)), .w .none none (.store 1 aT4 aC3)] .ret) .skip)) X6))
def mY.b5 : IR := mY.g5 mY.b6
def mY.g4 (X5 : IR) : IR := (.block 1 X5)
def mY.b4 : IR := mY.g4 mY.b5
def mY.g2 (X3 X4 : IR) : IR := (.rf aT8 [(.of 9), (.of 10)] X3 X4)
def mY.b2 : IR := mY.g2 mY.b3 mY.b4
def mY.g1 (X2 : IR) : IR := (.block 0 X2)
def mY.b1 : IR := mY.g1 mY.b2
def mY.b7 : IR := (iSr [.s (.load aT5), .w .push none (.call (.c (.fn 200 (.of 200) [])) [aS0, (.c (.fn 201 (.of 201) []))])] (iSr [.s (.load aT5), .w .push none (.call (.c (.fn 202 (.of 202) [])) [aS0, (.c (.fn 158 (.of 158) []))]), .w .none none (.store 1 aT3 aS0), .w .none none (.store 1 aT4 aC0)] .ret))
def mY.g0 (X1 X7 : IR) : IR := (iSr [iWl 2 (.box aT1), iWl 3 (.alloc [.zf]), iWl 4 (.alloc [(I 0)])] (iSr [iWl 5 (.alloc [.zf])] (.seq (iSr [iSm 0, iWl 8 (.call (.c (.fn 90 (.of 90) [])) [aS0])] X1) X7)))
def mY.b0 : IR := mY.g0 mY.b1 mY.b7
def mY.res : List RV := [.cell (.of 3) none, .cell (.of 4) none]
def mY : Fn := { params := [(.of 0), (.of 1)], res := mY.res, body := mY.b0, init := in12 }
theorem mY.ok : fnA Tryz.prog Tryz.f157 [0, 1, 3, 4, 5, 6, 8, 9, 11, 12, 13, 18] = some mY := by kernel_rfl
end
end Go.Ev
