import Derived.Test.YtfgpjkchdelphaaGreatDoorIrA
import Derived.Test.YtfgpjkchdelphaaGreatDoorEvC
import Derived.Test.YtfgpjkchdelphaaGreatDoorProg
import Derived.KernelRfl
set_option linter.unusedSimpArgs false
set_option linter.unusedVariables false
namespace Go.Ev
open Go Go.Proofs
set_option maxRecDepth 100000
noncomputable section

abbrev F93.fr := fr36
def F93.b12 : IR := (iSr [iSm 20, .s (.iaddr 1 aT18 aT20), .s (.load aS0), iQm 8 2, iQm 9 0] (.dreg [] [(iSm 7, 0, []), (iSm 7, 0, []), (iSm 9, 0, []), (.s (.iaddr 4 aS1 aS0), 0, []), (.s (.loadN 4 aS0), 0, []), (iSm 4, 0, []), (iSm 8, 0, []), (.s (.iaddr 1 aS1 aS0), 0, []), (.s (.load aS0), 0, []), (iCa 106 [aS8, aS4, aS0], 0, [])]))
def F93.g11 (X12 : IR) : IR := (.block 3 X12)
def F93.b11 : IR := F93.g11 F93.b12
def F93.b13 : IR := (.reg [.s (.bin .add .int aT20 aC1), iQm 20 0])
def F93.g10 (X11 X13 : IR) : IR := (.seq X11 X13)
def F93.b10 : IR := F93.g10 F93.b11 F93.b13
def F93.g9 (X10 : IR) : IR := (iSr [iQo 21 (.bin .lss .int aT20 aT19)] (.seq (.cond aT21 .skip (.exit 2)) X10))
def F93.b9 : IR := F93.g9 F93.b10
def F93.g8 (X9 : IR) : IR := (.loop X9)
def F93.b8 : IR := F93.g8 F93.b9
def F93.g7 (X8 : IR) : IR := (.block 2 X8)
def F93.b7 : IR := F93.g7 F93.b8
def F93.b19 : IR := (.reg [iSm 10, .s (.bin .sub .int aS0 aC1), iQm 10 0])
def F93.g18 (X19 : IR) : IR := (.block 5 X19)
def F93.b18 : IR := F93.g18 F93.b19
def F93.g17 (X18 : IR) : IR := (.seq (iSr [iSm 10, .s (.bin .geq .int aS0 aC0), .s (.mv aS0), iPt 0 (.mv aT7), iPt 1 (.mv aT10), iPt 2 (.iaddr 4 aS1 aS0), iPt 3 (.loadN 4 aS0), .w .push (some (aS4, true)) (.call (.c (.fn 110 (.of 110) [])) [aS0]), iPt 5 (.bin .eql .int aS0 aC0), iQo 22 (.pick aS6 aS0 (.c (.bool false)))] (.cond aT22 .skip (.exit 4))) X18)
def F93.b17 : IR := F93.g17 F93.b18
def F93.g16 (X17 : IR) : IR := (.loop X17)
def F93.b16 : IR := F93.g16 F93.b17
def F93.g15 (X16 : IR) : IR := (.block 4 X16)
def F93.b15 : IR := F93.g15 F93.b16
def F93.b27 : IR := (iSr [.s (.iaddr 1 aT24 aT26), .s (.load aS0), iQm 11 0] (.reg [iSm 11, iSm 11, iSm 10, .s (.iaddr 4 aS1 aS0), .s (.loadN 4 aS0), iSm 7, iCa 106 [aS5, aS1, aS0]]))
def F93.g26 (X27 : IR) : IR := (.block 7 X27)
def F93.b26 : IR := F93.g26 F93.b27
def F93.b28 : IR := (.reg [.s (.bin .add .int aT26 aC1), iQm 26 0])
def F93.g25 (X26 X28 : IR) : IR := (.seq X26 X28)
def F93.b25 : IR := F93.g25 F93.b26 F93.b28
def F93.g24 (X25 : IR) : IR := (iSr [iQo 27 (.bin .lss .int aT26 aT25)] (.seq (.cond aT27 .skip (.exit 6)) X25))
def F93.b24 : IR := F93.g24 F93.b25
def F93.g23 (X24 : IR) : IR := (.loop X24)
def F93.b23 : IR := F93.g23 F93.b24
def F93.g22 (X23 : IR) : IR := (.block 6 X23)
def F93.b22 : IR := F93.g22 F93.b23
def F93.b29 : IR := (.reg [iSm 4, iSm 7, .w .push none (.bslice 1 1 [.nils] [(0, 1, aS0)]), .w .push none (.app 1 24 aS2 aS0), iSm 5, iSm 10, .w .push none (.bslice 1 1 [(I 0)] [(0, 1, aS0)]), .w .push none (.app 1 8 aS2 aS0), iQm 4 4, iQm 5 0])
def F93.g21 (X22 X29 : IR) : IR := (iSr [iSm 7, iSm 7, iSm 10, .s (.iaddr 4 aS1 aS0), .s (.loadN 4 aS0), iCa 112 [aS0], iCa 111 [aS5, aS0]] (.seq (iSr [iQo 24 (.mv aT4), iQo 25 (.len aT24), iQo 26 (.mv aC0)] X22) X29))
def F93.b21 : IR := F93.g21 F93.b22 F93.b29
def F93.g20 (X21 : IR) : IR := (.seq (iSr [iSm 10, iQo 23 (.bin .lss .int aS0 aC0)] (.cond aT23 (.exit 1) .skip)) X21)
def F93.b20 : IR := F93.g20 F93.b21
def F93.g14 (X15 X20 : IR) : IR := (iSr [iSm 3, .s (.bin .sub .int aS0 aC1), iQm 10 0] (.seq X15 X20))
def F93.b14 : IR := F93.g14 F93.b15 F93.b20
def F93.g6 (X7 X14 : IR) : IR := (iSr [iSm 3, .s (.faddr 1 aT1), .s (.load aS0), iSm 6, .s (.iaddr 1 aS1 aS0), .s (.load aS0), iCa 104 [aS5, aS0], iQm 7 0] (.seq (.dreg [] [(iSm 7, 2, []), (iSm 3, 1, []), (.s (.faddr 1 aT1), 1, []), (.s (.load aS0), 1, []), (.s (.iaddr 1 aS0 aC0), 1, []), (.s (.load aS0), 1, []), (iCa 96 [aC1], 0, []), (iCa 104 [aS5, aS1], 0, []), (iCa 106 [aS7, aS1, aS0], 0, [])]) (.seq (iSr [iQo 18 (.mv aT5), iQo 19 (.len aT18), iQo 20 (.mv aC0)] X7) X14)))
def F93.b6 : IR := F93.g6 F93.b7 F93.b14
def F93.g5 (X6 : IR) : IR := (.block 1 X6)
def F93.b5 : IR := F93.g5 F93.b6
def F93.b30 : IR := (.reg [iSm 6, .s (.bin .add .int aS0 aC1), iQm 6 0])
def F93.g4 (X5 X30 : IR) : IR := (.seq X5 X30)
def F93.b4 : IR := F93.g4 F93.b5 F93.b30
def F93.g3 (X4 : IR) : IR := (.seq (iSr [iSm 6, .s (.faddr 1 aT1), .s (.load aS0), .s (.len aS0), iQo 17 (.bin .lss .int aS3 aS0)] (.cond aT17 .skip (.exit 0))) X4)
def F93.b3 : IR := F93.g3 F93.b4
def F93.g2 (X3 : IR) : IR := (.loop X3)
def F93.b2 : IR := F93.g2 F93.b3
def F93.g1 (X2 : IR) : IR := (.block 0 X2)
def F93.b1 : IR := F93.g1 F93.b2
def F93.b44 : IR := (iSr [iSm 34, .s (.iaddr 1 aT32 aT34), .s (.load aS0), iQm 15 2, iQm 16 0] (.reg [iSm 14, iSm 16, iSm 4, iSm 15, .s (.iaddr 1 aS1 aS0), .s (.load aS0), iSm 13, .s (.iaddr 4 aS1 aS0), .s (.loadN 4 aS0), iCa 107 [aS0], .s (.iaddr 4 aS9 aS8), .w .none none (.store 4 aS0 aS1)]))
def F93.g43 (X44 : IR) : IR := (.block 11 X44)
def F93.b43 : IR := F93.g43 F93.b44
def F93.b45 : IR := (.reg [.s (.bin .add .int aT34 aC1), iQm 34 0])
def F93.g42 (X43 X45 : IR) : IR := (.seq X43 X45)
def F93.b42 : IR := F93.g42 F93.b43 F93.b45
def F93.g41 (X42 : IR) : IR := (iSr [iQo 35 (.bin .lss .int aT34 aT33)] (.seq (.cond aT35 .skip (.exit 10)) X42))
def F93.b41 : IR := F93.g41 F93.b42
def F93.g40 (X41 : IR) : IR := (.loop X41)
def F93.b40 : IR := F93.g40 F93.b41
def F93.g39 (X40 : IR) : IR := (.block 10 X40)
def F93.b39 : IR := F93.g39 F93.b40
def F93.b46 : IR := (.dreg [] [(.s (.faddr 0 aT12), 3, []), (.s (.load aS0), 3, []), (iSm 13, 3, [(.bslice 1 1 [(I 0)] [(0, 1, aS0)])]), (.s (.faddr 1 aT12), 3, []), (.s (.load aS0), 3, []), (iSm 14, 2, [(.bslice 1 1 [.nils] [(0, 1, aS0)])]), (.w .push none (.bslice 1 1 [(I 0)] [(0, 1, aS3)]), 0, []), (.w .push none (.app 1 8 aS5 aS0), 0, []), (.s (.faddr 0 aT12), 2, []), (.w .push none (.bslice 1 1 [.nils] [(0, 1, aS3)]), 0, []), (.w .push none (.app 1 24 aS5 aS0), 0, []), (.w .none none (.store 1 aS2 aS3), 0, []), (.s (.faddr 1 aT12), 0, []), (.w .none none (.store 1 aS0 aS1), 0, [])])
def F93.g38 (X39 X46 : IR) : IR := (iSr [iSm 3, iCa 105 [aS0], iQm 14 0] (iSr [iSm 14, iSm 13, iCa 96 [aC1], .s (.iaddr 4 aS2 aS1), .w .none none (.store 4 aS0 aS1)] (.seq (iSr [iQo 32 (.mv aT5), iQo 33 (.len aT32), iQo 34 (.mv aC0)] X39) X46)))
def F93.b38 : IR := F93.g38 F93.b39 F93.b46
def F93.g37 (X38 : IR) : IR := (iSr [iSm 29, iQm 13 0] (.seq (iSr [iSm 5, iSm 13, iWl 31 (.call (.c (.fn 182 (.of 182) [])) [aS1, aS0])] (.cond aT31 (.exit 9) .skip)) X38))
def F93.b37 : IR := F93.g37 F93.b38
def F93.g36 (X37 : IR) : IR := (.block 9 X37)
def F93.b36 : IR := F93.g36 F93.b37
def F93.b47 : IR := (.reg [.s (.bin .add .int aT29 aC1), iQm 29 0])
def F93.g35 (X36 X47 : IR) : IR := (.seq X36 X47)
def F93.b35 : IR := F93.g35 F93.b36 F93.b47
def F93.g34 (X35 : IR) : IR := (iSr [iQo 30 (.bin .lss .int aT29 aT28)] (.seq (.cond aT30 .skip (.exit 8)) X35))
def F93.b34 : IR := F93.g34 F93.b35
def F93.g33 (X34 : IR) : IR := (.loop X34)
def F93.b33 : IR := F93.g33 F93.b34
def F93.g32 (X33 : IR) : IR := (.block 8 X33)
def F93.b32 : IR := F93.g32 F93.b33
def F93.b48 : IR := (iSr [.s (.loadN 2 aT12), .w .none none (.store 2 aT2 aS0)] .ret)
def F93.g31 (X32 X48 : IR) : IR := (iSr [iWl 12 (.alloc [.nils, .nils])] (.seq (iSr [iQo 28 (.mv aT3), iQo 29 (.mv aC0)] X32) X48))
def F93.b31 : IR := F93.g31 F93.b32 F93.b48
def F93.g0 (X1 X31 : IR) : IR := (iSr [iWl 1 (.box aT0), iWl 2 (.alloc [.nils, .nils])] (iSr [.s (.faddr 0 aT1), .s (.load aS0), iQm 3 0] (iSr [iQo 4 (.mv (.c .nils))] (iSr [iQo 5 (.mv (.c .nils))] (.seq (iSr [iQo 6 (.mv aC1)] X1) X31)))))
def F93.b0 : IR := F93.g0 F93.b1 F93.b31
def F93.res : List RV := [.cell (.of 2) (some 2)]
def F93 : Fn := { params := [(.of 0)], res := F93.res, body := F93.b0, init := in36 }
theorem F93.ok : fnA Tryz.prog Tryz.f93 [0, 1, 2, 3, 4, 5, 6, 7, 8, 9, 10, 12, 13, 14, 15, 16, 17, 24, 43, 44, 45, 46, 72, 76, 84, 85, 86, 87, 106, 107, 108, 112, 119, 120, 121, 122] = some F93 := by kernel_rfl
abbrev F94.fr := fr4
def F94.b0 : IR := (iSr [iWl 2 (.box aT0), iQo 3 (.mv aC0)] (.seq (.dreg [] [(.s (.loadN 2 aT2), 0, []), (iSm 1, 1, []), (.s (.len aS0), 1, []), (.s (.faddr 0 aT2), 1, []), (.s (.load aS0), 1, []), (.s (.bin .neq .int aS2 aS0), 1, []), (iSm 1, 2, []), (iCa 18 [aS6], 0, []), (iCa 88 [aS2, aC2], 0, []), (iCa 183 [aS2], 0, []), (.w .push none (.bslice 1 3 [(I 0)] [(0, 1, aS2), (1, 1, aS1), (2, 1, aS0)]), 0, []), (iCa 86 [aS0], 0, []), (iQm 3 0, 0, [])]) .ret))
def F94.res : List RV := [.t (.of 3)]
def F94 : Fn := { params := [(.of 0), (.of 1)], res := F94.res, body := F94.b0, init := in4 }
theorem F94.ok : fnA Tryz.prog Tryz.f94 [0, 1, 2, 4] = some F94 := by kernel_rfl
abbrev F95.fr := fr5
def F95.b0 : IR := (iSr [iWl 2 (.box aT0), iQo 3 (.mv aC0)] (iSr [.s (.loadN 2 aT2), iSm 1, iCa 139 [aS1, aS0], iWl 4 (.alloc [.nils]), .w .none none (.store 1 aT4 aS0)] (iSr [.s (.load aT4), .s (.fn 185 (.of 185) [aT4]), iCa 184 [aS1, aS0], iQm 3 0] .ret)))
def F95.res : List RV := [.t (.of 3)]
def F95 : Fn := { params := [(.of 0), (.of 1)], res := F95.res, body := F95.b0, init := in5 }
theorem F95.ok : fnA Tryz.prog Tryz.f95 [0, 1, 2, 4, 5] = some F95 := by kernel_rfl
abbrev F96.fr := fr2
def F96.b0 : IR := (iSr [iWl 1 (.alloc [(I 0), .nils, (I 0), .nils])] (iSr [iSm 0, iCa 187 [aS0], iCa 186 [aS0], .w .none none (.store 4 aT1 aS0)] .ret))
def F96.res : List RV := [.cell (.of 1) (some 4)]
def F96 : Fn := { params := [(.of 0)], res := F96.res, body := F96.b0, init := in2 }
theorem F96.ok : fnA Tryz.prog Tryz.f96 [0, 2] = some F96 := by kernel_rfl
abbrev F97.fr := fr4
def F97.b1 : IR := (.seq (.dreg [] [(.s (.faddr 0 aT1), 0, []), (.s (.loadN 2 aS0), 0, []), (.s (.faddr 2 aT1), 1, []), (.s (.loadN 2 aS0), 1, []), (iCa 188 [aS2], 0, []), (.s (.bin .add .str aS0 (.c (.str [47]))), 1, []), (iCa 188 [aS2], 0, []), (.s (.bin .add .str aS1 aS0), 0, []), (iQm 2 0, 0, [])]) .ret)
def F97.g0 (X1 : IR) : IR := (iSr [iWl 1 (.box aT0), iQo 2 (.mv (.c (.str [])))] (.seq (iSr [.s (.loadN 4 aT1), iWl 3 (.call (.c (.fn 122 (.of 122) [])) [aS0])] (.cond aT3 (iSr [.s (.faddr 0 aT1), .s (.loadN 2 aS0), iCa 188 [aS0], iQm 2 0] .ret) .skip)) X1))
def F97.b0 : IR := F97.g0 F97.b1
def F97.res : List RV := [.t (.of 2)]
def F97 : Fn := { params := [(.of 0)], res := F97.res, body := F97.b0, init := in4 }
theorem F97.ok : fnA Tryz.prog Tryz.f97 [0, 1, 2, 4] = some F97 := by kernel_rfl
abbrev F102.fr := fr5
def F102.b6 : IR := (iSr [iSm 0, iSm 2, .s (.iaddr 1 aS1 aS0), .s (.load aS0), .s (.bin .lss .int aS0 (.c (I (-999999999)))), .s (.mv aS0), iPf 0 (.mv aT0), iPf 1 (.mv aT2), iPf 2 (.iaddr 1 aS1 aS0), iPf 3 (.load aS0), iPf 4 (.bin .gtr .int aS0 aC999999999), iQo 4 (.pick aS5 (.c (.bool true)) aS0)] (.cond aT4 (iSr [iQo 1 (.mv aC3)] .ret) .skip))
def F102.g5 (X6 : IR) : IR := (.block 1 X6)
def F102.b5 : IR := F102.g5 F102.b6
def F102.b7 : IR := (.reg [iSm 2, .s (.bin .add .int aS0 aC1), iQm 2 0])
def F102.g4 (X5 X7 : IR) : IR := (.seq X5 X7)
def F102.b4 : IR := F102.g4 F102.b5 F102.b7
def F102.g3 (X4 : IR) : IR := (.seq (iSr [iSm 2, iSm 0, .s (.len aS0), iQo 3 (.bin .lss .int aS2 aS0)] (.cond aT3 .skip (.exit 0))) X4)
def F102.b3 : IR := F102.g3 F102.b4
def F102.g2 (X3 : IR) : IR := (.loop X3)
def F102.b2 : IR := F102.g2 F102.b3
def F102.g1 (X2 : IR) : IR := (.block 0 X2)
def F102.b1 : IR := F102.g1 F102.b2
def F102.b8 : IR := (iSr [iQo 1 (.mv aC0)] .ret)
def F102.g0 (X1 X8 : IR) : IR := (iSr [iQo 1 (.mv aC0)] (.seq (iSr [iQo 2 (.mv aC0)] X1) X8))
def F102.b0 : IR := F102.g0 F102.b1 F102.b8
def F102.res : List RV := [.t (.of 1)]
def F102 : Fn := { params := [(.of 0)], res := F102.res, body := F102.b0, init := in5 }
theorem F102.ok : fnA Tryz.prog Tryz.f102 [0, 2, 3, 7, 21] = some F102 := by kernel_rfl
abbrev F104.fr := fr9
def F104.b6 : IR := (iSr [.s (.iaddr 1 aT5 aT7), .s (.load aS0), iQm 4 0] (.reg [iSm 3, iSm 4, iCa 96 [aC1], .s (.iaddr 4 aS2 aS1), .w .none none (.store 4 aS0 aS1)]))
def F104.g5 (X6 : IR) : IR := (.block 1 X6)
def F104.b5 : IR := F104.g5 F104.b6
def F104.b7 : IR := (.reg [.s (.bin .add .int aT7 aC1), iQm 7 0])
def F104.g4 (X5 X7 : IR) : IR := (.seq X5 X7)
def F104.b4 : IR := F104.g4 F104.b5 F104.b7
def F104.g3 (X4 : IR) : IR := (iSr [iQo 8 (.bin .lss .int aT7 aT6)] (.seq (.cond aT8 .skip (.exit 0)) X4))
def F104.b3 : IR := F104.g3 F104.b4
def F104.g2 (X3 : IR) : IR := (.loop X3)
def F104.b2 : IR := F104.g2 F104.b3
def F104.g1 (X2 : IR) : IR := (.block 0 X2)
def F104.b1 : IR := F104.g1 F104.b2
def F104.b8 : IR := (iSr [iSm 3, iQm 2 0] .ret)
def F104.g0 (X1 X8 : IR) : IR := (iSr [iQo 2 (.mv (.c .nils))] (iSr [iSm 0, iCa 105 [aS0], iQm 3 0] (.seq (iSr [iQo 5 (.mv aT1), iQo 6 (.len aT5), iQo 7 (.mv aC0)] X1) X8)))
def F104.b0 : IR := F104.g0 F104.b1 F104.b8
def F104.res : List RV := [.t (.of 2)]
def F104 : Fn := { params := [(.of 0), (.of 1)], res := F104.res, body := F104.b0, init := in9 }
theorem F104.ok : fnA Tryz.prog Tryz.f104 [0, 1, 4, 5, 7, 10, 11, 12, 13] = some F104 := by kernel_rfl
abbrev F105.fr := fr7
def F105.b6 : IR := (iSr [iSm 5, iQm 3 0] (.reg [iSm 2, iSm 3, iCa 96 [aC0], .s (.iaddr 4 aS2 aS1), .w .none none (.store 4 aS0 aS1)]))
def F105.g5 (X6 : IR) : IR := (.block 1 X6)
def F105.b5 : IR := F105.g5 F105.b6
def F105.b7 : IR := (.reg [.s (.bin .add .int aT5 aC1), iQm 5 0])
def F105.g4 (X5 X7 : IR) : IR := (.seq X5 X7)
def F105.b4 : IR := F105.g4 F105.b5 F105.b7
def F105.g3 (X4 : IR) : IR := (iSr [iQo 6 (.bin .lss .int aT5 aT4)] (.seq (.cond aT6 .skip (.exit 0)) X4))
def F105.b3 : IR := F105.g3 F105.b4
def F105.g2 (X3 : IR) : IR := (.loop X3)
def F105.b2 : IR := F105.g2 F105.b3
def F105.g1 (X2 : IR) : IR := (.block 0 X2)
def F105.b1 : IR := F105.g1 F105.b2
def F105.b8 : IR := (iSr [iSm 2, iQm 1 0] .ret)
def F105.g0 (X1 X8 : IR) : IR := (iSr [iQo 1 (.mv (.c .nils))] (iSr [iSm 0, .w .push none (.mkslice 4 64 [(I 0), .nils, (I 0), .nils] aS0 aS0), iQm 2 0] (.seq (iSr [iSm 2, iQo 4 (.len aS0), iQo 5 (.mv aC0)] X1) X8)))
def F105.b0 : IR := F105.g0 F105.b1 F105.b8
def F105.res : List RV := [.t (.of 1)]
def F105 : Fn := { params := [(.of 0)], res := F105.res, body := F105.b0, init := in7 }
theorem F105.ok : fnA Tryz.prog Tryz.f105 [0, 2, 3, 4, 8, 9, 10] = some F105 := by kernel_rfl
abbrev F106.fr := fr11
def F106.b6 : IR := (iSr [iSm 8, .s (.iaddr 4 aT6 aT8), .s (.loadN 4 aS0), iWl 5 (.alloc [(I 0), .nils, (I 0), .nils]), iQm 4 2, .w .none none (.store 4 aT5 aS0)] (iSr [.s (.loadN 4 aT5), iCa 110 [aS0], iQo 10 (.bin .neq .int aS0 aC0)] (.cond aT10 (.dreg [] [(iSm 0, 2, []), (iSm 4, 2, []), (iSm 0, 1, []), (iSm 4, 1, []), (.s (.iaddr 4 aS1 aS0), 1, []), (.s (.loadN 4 aS0), 1, []), (.s (.loadN 4 aT3), 0, []), (.s (.loadN 4 aT5), 0, []), (iCa 119 [aS1, aS0], 0, []), (iCa 192 [aS3, aS0], 0, []), (.s (.iaddr 4 aS9 aS8), 0, []), (.w .none none (.store 4 aS0 aS1), 0, [])]) .skip)))
def F106.g5 (X6 : IR) : IR := (.block 1 X6)
def F106.b5 : IR := F106.g5 F106.b6
def F106.b7 : IR := (.reg [.s (.bin .add .int aT8 aC1), iQm 8 0])
def F106.g4 (X5 X7 : IR) : IR := (.seq X5 X7)
def F106.b4 : IR := F106.g4 F106.b5 F106.b7
def F106.g3 (X4 : IR) : IR := (iSr [iQo 9 (.bin .lss .int aT8 aT7)] (.seq (.cond aT9 .skip (.exit 0)) X4))
def F106.b3 : IR := F106.g3 F106.b4
def F106.g2 (X3 : IR) : IR := (.loop X3)
def F106.b2 : IR := F106.g2 F106.b3
def F106.g1 (X2 : IR) : IR := (.block 0 X2)
def F106.b1 : IR := F106.g1 F106.b2
def F106.g0 (X1 : IR) : IR := (iSr [iWl 3 (.box aT1)] (iSr [iQo 6 (.mv aT2), iQo 7 (.len aT6), iQo 8 (.mv aC0)] X1))
def F106.b0 : IR := F106.g0 F106.b1
def F106.res : List RV := []
def F106 : Fn := { params := [(.of 0), (.of 1), (.of 2)], res := F106.res, body := F106.b0, init := in11 }
theorem F106.ok : fnA Tryz.prog Tryz.f106 [0, 1, 2, 4, 6, 7, 8, 9, 10, 11, 17] = some F106 := by kernel_rfl
abbrev F107.fr := fr3
def F107.b0 : IR := (iSr [iWl 1 (.box aT0), iWl 2 (.alloc [(I 0), .nils, (I 0), .nils])] (.seq (.dreg [] [(.s (.faddr 0 aT1), 0, []), (.s (.loadN 2 aS0), 0, []), (.s (.faddr 2 aT1), 1, []), (.s (.loadN 2 aS0), 1, []), (iCa 193 [aS2], 0, []), (.s (.build [(I 0), .nils, (I 0), .nils] [(0, 2, aS0), (2, 2, aS1)]), 0, []), (.w .none none (.store 4 aT2 aS0), 0, [])]) .ret))
def F107.res : List RV := [.cell (.of 2) (some 4)]
def F107 : Fn := { params := [(.of 0)], res := F107.res, body := F107.b0, init := in3 }
theorem F107.ok : fnA Tryz.prog Tryz.f107 [0, 1, 2] = some F107 := by kernel_rfl
abbrev F108.fr := fr8
def F108.b6 : IR := (iSr [iSm 5, iQm 3 0] (iSr [iSm 1, iSm 0, iSm 3, .s (.iaddr 4 aS1 aS0), .s (.loadN 4 aS0), iWl 7 (.call aS4 [aS0])] (.cond aT7 (iSr [iSm 3, iQm 2 0] .ret) .skip)))
def F108.g5 (X6 : IR) : IR := (.block 1 X6)
def F108.b5 : IR := F108.g5 F108.b6
def F108.b7 : IR := (.reg [.s (.bin .add .int aT5 aC1), iQm 5 0])
def F108.g4 (X5 X7 : IR) : IR := (.seq X5 X7)
def F108.b4 : IR := F108.g4 F108.b5 F108.b7
def F108.g3 (X4 : IR) : IR := (iSr [iQo 6 (.bin .lss .int aT5 aT4)] (.seq (.cond aT6 .skip (.exit 0)) X4))
def F108.b3 : IR := F108.g3 F108.b4
def F108.g2 (X3 : IR) : IR := (.loop X3)
def F108.b2 : IR := F108.g2 F108.b3
def F108.g1 (X2 : IR) : IR := (.block 0 X2)
def F108.b1 : IR := F108.g1 F108.b2
def F108.b8 : IR := (iSr [iQo 2 (.mv (.c (I (-1))))] .ret)
def F108.g0 (X1 X8 : IR) : IR := (iSr [iQo 2 (.mv aC0)] (.seq (iSr [iSm 0, iQo 4 (.len aS0), iQo 5 (.mv aC0)] X1) X8))
def F108.b0 : IR := F108.g0 F108.b1 F108.b8
def F108.res : List RV := [.t (.of 2)]
def F108 : Fn := { params := [(.of 0), (.of 1)], res := F108.res, body := F108.b0, init := in8 }
theorem F108.ok : fnA Tryz.prog Tryz.f108 [0, 1, 4, 5, 7, 8, 9, 16] = some F108 := by kernel_rfl
abbrev F109.fr := fr3
def F109.b0 : IR := (iSr [iWl 1 (.box aT0), iQo 2 (.mv (.c (.bool false)))] (iSr [.s (.loadN 4 aT1), iCa 110 [aS0], .s (.bin .neq .int aS0 aC0), iQm 2 0] .ret))
def F109.res : List RV := [.t (.of 2)]
def F109 : Fn := { params := [(.of 0)], res := F109.res, body := F109.b0, init := in3 }
theorem F109.ok : fnA Tryz.prog Tryz.f109 [0, 1, 2] = some F109 := by kernel_rfl
abbrev F110.fr := fr3
def F110.b0 : IR := (iSr [iWl 1 (.box aT0), iQo 2 (.mv aC0)] (iSr [.s (.faddr 0 aT1), .s (.loadN 2 aS0), iCa 194 [aS0], iQm 2 0] .ret))
def F110.res : List RV := [.t (.of 2)]
def F110 : Fn := { params := [(.of 0)], res := F110.res, body := F110.b0, init := in3 }
theorem F110.ok : fnA Tryz.prog Tryz.f110 [0, 1, 2] = some F110 := by kernel_rfl
abbrev F111.fr := fr10
def F111.b6 : IR := (iSr [iSm 7, .s (.iaddr 4 aT5 aT7), .s (.loadN 4 aS0), iWl 4 (.alloc [(I 0), .nils, (I 0), .nils]), iQm 3 2, .w .none none (.store 4 aT4 aS0)] (iSr [.s (.loadN 4 aT4), iCa 110 [aS0], iQo 9 (.bin .neq .int aS0 aC0)] (.cond aT9 (.reg [iSm 0, iSm 3, .s (.loadN 4 aT4), .s (.loadN 4 aT2), iCa 119 [aS1, aS0], .s (.iaddr 4 aS4 aS3), .w .none none (.store 4 aS0 aS1)]) .skip)))
def F111.g5 (X6 : IR) : IR := (.block 1 X6)
def F111.b5 : IR := F111.g5 F111.b6
def F111.b7 : IR := (.reg [.s (.bin .add .int aT7 aC1), iQm 7 0])
def F111.g4 (X5 X7 : IR) : IR := (.seq X5 X7)
def F111.b4 : IR := F111.g4 F111.b5 F111.b7
def F111.g3 (X4 : IR) : IR := (iSr [iQo 8 (.bin .lss .int aT7 aT6)] (.seq (.cond aT8 .skip (.exit 0)) X4))
def F111.b3 : IR := F111.g3 F111.b4
def F111.g2 (X3 : IR) : IR := (.loop X3)
def F111.b2 : IR := F111.g2 F111.b3
def F111.g1 (X2 : IR) : IR := (.block 0 X2)
def F111.b1 : IR := F111.g1 F111.b2
def F111.g0 (X1 : IR) : IR := (iSr [iWl 2 (.box aT1)] (iSr [iQo 5 (.mv aT0), iQo 6 (.len aT5), iQo 7 (.mv aC0)] X1))
def F111.b0 : IR := F111.g0 F111.b1
def F111.res : List RV := []
def F111 : Fn := { params := [(.of 0), (.of 1)], res := F111.res, body := F111.b0, init := in10 }
theorem F111.ok : fnA Tryz.prog Tryz.f111 [0, 1, 3, 4, 5, 6, 7, 8, 9, 15] = some F111 := by kernel_rfl
abbrev F112.fr := fr3
def F112.b0 : IR := (iSr [iWl 1 (.box aT0), iWl 2 (.alloc [(I 0), .nils, (I 0), .nils])] (iSr [.s (.faddr 2 aT1), .s (.loadN 2 aS0), .s (.faddr 0 aT1), .s (.loadN 2 aS0), iCa 195 [aS2, aS0], .w .none none (.store 4 aT2 aS0)] .ret))
def F112.res : List RV := [.cell (.of 2) (some 4)]
def F112 : Fn := { params := [(.of 0)], res := F112.res, body := F112.b0, init := in3 }
theorem F112.ok : fnA Tryz.prog Tryz.f112 [0, 1, 2] = some F112 := by kernel_rfl
abbrev F114.fr := fr6
def F114.b1 : IR := (.seq (.dreg [] [(.s (.faddr 0 aT2), 0, []), (.s (.loadN 2 aS0), 0, []), (.s (.faddr 2 aT3), 0, []), (.s (.loadN 2 aS0), 0, []), (.s (.faddr 0 aT3), 1, []), (.s (.loadN 2 aS0), 1, []), (.s (.faddr 2 aT2), 1, []), (.s (.loadN 2 aS0), 1, []), (.s (.faddr 2 aT2), 3, []), (.s (.loadN 2 aS0), 3, []), (.s (.faddr 2 aT3), 3, []), (.s (.loadN 2 aS0), 3, []), (iCa 198 [aS10, aS8], 0, []), (iCa 198 [aS7, aS5], 0, []), (iCa 197 [aS1, aS0], 0, []), (iCa 198 [aS5, aS3], 0, []), (iCa 195 [aS1, aS0], 0, []), (.w .none none (.store 4 aT4 aS0), 0, [])]) .ret)
def F114.g0 (X1 : IR) : IR := (iSr [iWl 2 (.box aT0), iWl 3 (.box aT1), iWl 4 (.alloc [(I 0), .nils, (I 0), .nils])] (.seq (iSr [.s (.loadN 4 aT2), iCa 122 [aS0], .s (.mv aS0), iPt 0 (.loadN 4 aT3), .w .push (some (aS1, true)) (.call (.c (.fn 122 (.of 122) [])) [aS0]), iQo 5 (.pick aS2 aS0 (.c (.bool false)))] (.cond aT5 (iSr [.s (.faddr 0 aT2), .s (.loadN 2 aS0), .s (.faddr 0 aT3), .s (.loadN 2 aS0), iCa 197 [aS2, aS0], iCa 186 [aS0], .w .none none (.store 4 aT4 aS0)] .ret) .skip)) X1))
def F114.b0 : IR := F114.g0 F114.b1
def F114.res : List RV := [.cell (.of 4) (some 4)]
def F114 : Fn := { params := [(.of 0), (.of 1)], res := F114.res, body := F114.b0, init := in6 }
theorem F114.ok : fnA Tryz.prog Tryz.f114 [0, 1, 2, 3, 4, 10] = some F114 := by kernel_rfl
abbrev F115.fr := fr5
def F115.b0 : IR := (iSr [iWl 2 (.box aT0), iWl 3 (.box aT1), iWl 4 (.alloc [(I 0), .nils, (I 0), .nils])] (.seq (.dreg [] [(.s (.loadN 4 aT2), 1, []), (.s (.loadN 4 aT3), 0, []), (iCa 112 [aS0], 0, []), (iCa 119 [aS2, aS0], 0, []), (.w .none none (.store 4 aT4 aS0), 0, [])]) .ret))
def F115.res : List RV := [.cell (.of 4) (some 4)]
def F115 : Fn := { params := [(.of 0), (.of 1)], res := F115.res, body := F115.b0, init := in5 }
theorem F115.ok : fnA Tryz.prog Tryz.f115 [0, 1, 2, 3, 4] = some F115 := by kernel_rfl
abbrev F116.fr := fr3
def F116.b0 : IR := (iSr [iQo 2 (.mv (.c (.bool false)))] (iSr [iSm 0, iSm 1, iCa 199 [aS1, aS0], .s (.bin .geq .int aS0 aC0), iQm 2 0] .ret))
def F116.res : List RV := [.t (.of 2)]
def F116 : Fn := { params := [(.of 0), (.of 1)], res := F116.res, body := F116.b0, init := in3 }
theorem F116.ok : fnA Tryz.prog Tryz.f116 [0, 1, 4] = some F116 := by kernel_rfl
abbrev F117.fr := fr4
def F117.b0 : IR := (iSr [iWl 2 (.box aT0), iQo 3 (.mv (.c (.bool false)))] (.seq (.dreg [] [(.s (.faddr 0 aT2), 1, []), (.s (.loadN 4 aS0), 1, []), (.s (.loadN 4 aT1), 0, []), (.s (.faddr 4 aT2), 0, []), (.s (.loadN 4 aS0), 0, []), (iCa 119 [aS2, aS0], 0, []), (iCa 118 [aS4, aS0], 0, []), (.s (.not aS0), 0, []), (iQm 3 0, 0, [])]) .ret))
def F117.res : List RV := [.t (.of 3)]
def F117 : Fn := { params := [(.of 0), (.of 1)], res := F117.res, body := F117.b0, init := in4 }
theorem F117.ok : fnA Tryz.prog Tryz.f117 [0, 1, 2, 3] = some F117 := by kernel_rfl
abbrev F118.fr := fr5
def F118.b0 : IR := (iSr [iWl 2 (.box aT0), iWl 3 (.box aT1), iQo 4 (.mv (.c (.bool false)))] (iSr [.s (.loadN 4 aT2), .s (.loadN 4 aT3), iCa 200 [aS1, aS0], .s (.bin .eql .int aS0 aC0), iQm 4 0] .ret))
def F118.res : List RV := [.t (.of 4)]
def F118 : Fn := { params := [(.of 0), (.of 1)], res := F118.res, body := F118.b0, init := in5 }
theorem F118.ok : fnA Tryz.prog Tryz.f118 [0, 1, 2, 3, 4] = some F118 := by kernel_rfl
abbrev F119.fr := fr5
def F119.b0 : IR := (iSr [iWl 2 (.box aT0), iWl 3 (.box aT1), iWl 4 (.alloc [(I 0), .nils, (I 0), .nils])] (.seq (.dreg [] [(.s (.faddr 0 aT2), 0, []), (.s (.loadN 2 aS0), 0, []), (.s (.faddr 0 aT3), 0, []), (.s (.loadN 2 aS0), 0, []), (.s (.faddr 2 aT2), 1, []), (.s (.loadN 2 aS0), 1, []), (.s (.faddr 2 aT3), 1, []), (.s (.loadN 2 aS0), 1, []), (iCa 198 [aS6, aS4], 0, []), (iCa 198 [aS3, aS1], 0, []), (iCa 195 [aS1, aS0], 0, []), (.w .none none (.store 4 aT4 aS0), 0, [])]) .ret))
def F119.res : List RV := [.cell (.of 4) (some 4)]
def F119 : Fn := { params := [(.of 0), (.of 1)], res := F119.res, body := F119.b0, init := in5 }
theorem F119.ok : fnA Tryz.prog Tryz.f119 [0, 1, 2, 3, 4] = some F119 := by kernel_rfl
abbrev F120.fr := fr4
def F120.b0 : IR := (iSr [iWl 1 (.box aT0), iWl 2 (.alloc [(I 0), .nils])] (iSr [.s (.faddr 0 aT1), .s (.loadN 2 aS0), .s (.faddr 2 aT1), .s (.loadN 2 aS0), iCa 201 [aS2, aS0], .s (.mv aS0), .s (.ext 0 aS0), .s (.ext 1 aS1), iWl 3 (.alloc [(I 0), .nils]), .w .push none (.alloc [(I 0), .nils]), .w .none none (.store 2 aT3 aS2), .w .none none (.store 2 aS0 aS1)] (iSr [.s (.loadN 2 aT3), .w .none none (.store 2 aT2 aS0)] .ret)))
def F120.res : List RV := [.cell (.of 2) (some 2)]
def F120 : Fn := { params := [(.of 0)], res := F120.res, body := F120.b0, init := in4 }
theorem F120.ok : fnA Tryz.prog Tryz.f120 [0, 1, 2, 3] = some F120 := by kernel_rfl
abbrev F121.fr := fr4
def F121.b0 : IR := (iSr [iWl 1 (.box aT0), iQo 2 (.mv aC0), iQo 3 (.mv (.c (.bool false)))] (.seq (.dreg [] [(.s (.faddr 0 aT1), 0, []), (.s (.load aS0), 0, []), (.s (.faddr 1 aT1), 0, []), (.s (.load aS0), 0, []), (.s (.bin .eql (.nil .sl) aS0 (.c .nils)), 0, []), (iQm 2 3, 0, []), (iQm 3 0, 0, [])]) .ret))
def F121.res : List RV := [.t (.of 2), .t (.of 3)]
def F121 : Fn := { params := [(.of 0)], res := F121.res, body := F121.b0, init := in4 }
theorem F121.ok : fnA Tryz.prog Tryz.f121 [0, 1, 2, 3] = some F121 := by kernel_rfl
abbrev F122.fr := fr3
def F122.b0 : IR := (iSr [iWl 1 (.box aT0), iQo 2 (.mv (.c (.bool false)))] (iSr [.s (.faddr 2 aT1), .s (.faddr 1 aS0), .s (.load aS0), .s (.bin .eql (.nil .sl) aS0 (.c .nils)), .s (.mv aS0), iPt 0 (.faddr 2 aT1), iPt 1 (.faddr 0 aS0), iPt 2 (.load aS0), iPt 3 (.bin .eql .int aS0 aC1), .s (.pick aS4 aS0 (.c (.bool false))), iQm 2 0] .ret))
def F122.res : List RV := [.t (.of 2)]
def F122 : Fn := { params := [(.of 0)], res := F122.res, body := F122.b0, init := in3 }
theorem F122.ok : fnA Tryz.prog Tryz.f122 [0, 1, 2] = some F122 := by kernel_rfl
abbrev F135.fr := fr2
def F135.b0 : IR := (iSr [iQo 1 (.mv aC0)] (iSr [iSm 0, .s (.len aS0), .s (.bin .eql .int aS0 aC0), iCa 88 [aS0, aC12], iSm 0, .s (.len aS0), .s (.bin .gtr .int aS0 aC256), iCa 88 [aS0, aC5], iSm 0, iCa 183 [aS0], .w .push none (.bslice 1 3 [(I 0)] [(0, 1, aS6), (1, 1, aS2), (2, 1, aS0)]), iCa 86 [aS0], iQm 1 0] .ret))
def F135.res : List RV := [.t (.of 1)]
def F135 : Fn := { params := [(.of 0)], res := F135.res, body := F135.b0, init := in2 }
theorem F135.ok : fnA Tryz.prog Tryz.f135 [0, 2] = some F135 := by kernel_rfl
abbrev F136.fr := fr9
def F136.b6 : IR := (iSr [iSm 6, .s (.iaddr 1 aT4 aT6), .s (.load aS0), iQm 2 2, iQm 3 0] (iSr [iSm 3, iSm 2, .s (.bin .add .int aS0 aC1), iQo 8 (.bin .neq .int aS2 aS0)] (.cond aT8 (iSr [iQo 1 (.mv (.c (.bool false)))] .ret) .skip)))
def F136.g5 (X6 : IR) : IR := (.block 1 X6)
def F136.b5 : IR := F136.g5 F136.b6
def F136.b7 : IR := (.reg [.s (.bin .add .int aT6 aC1), iQm 6 0])
def F136.g4 (X5 X7 : IR) : IR := (.seq X5 X7)
def F136.b4 : IR := F136.g4 F136.b5 F136.b7
def F136.g3 (X4 : IR) : IR := (iSr [iQo 7 (.bin .lss .int aT6 aT5)] (.seq (.cond aT7 .skip (.exit 0)) X4))
def F136.b3 : IR := F136.g3 F136.b4
def F136.g2 (X3 : IR) : IR := (.loop X3)
def F136.b2 : IR := F136.g2 F136.b3
def F136.g1 (X2 : IR) : IR := (.block 0 X2)
def F136.b1 : IR := F136.g1 F136.b2
def F136.b8 : IR := (iSr [iQo 1 (.mv (.c (.bool true)))] .ret)
def F136.g0 (X1 X8 : IR) : IR := (iSr [iQo 1 (.mv (.c (.bool false)))] (.seq (iSr [iSm 0, iCa 171 [aS0], iWl 4 (.call (.c (.fn 170 (.of 170) [])) [aS0]), iQo 5 (.len aT4), iQo 6 (.mv aC0)] X1) X8))
def F136.b0 : IR := F136.g0 F136.b1 F136.b8
def F136.res : List RV := [.t (.of 1)]
def F136 : Fn := { params := [(.of 0)], res := F136.res, body := F136.b0, init := in9 }
theorem F136.ok : fnA Tryz.prog Tryz.f136 [0, 2, 3, 4, 7, 8, 9, 10, 17] = some F136 := by kernel_rfl
abbrev F137.fr := fr8
def F137.b6 : IR := (iSr [iSm 6, iQm 4 0] (.reg [iSm 3, iSm 4, iSm 1, iSm 4, .w .push none (.call aS1 [aS0]), .s (.iaddr 1 aS4 aS3), .w .none none (.store 1 aS0 aS1)]))
def F137.g5 (X6 : IR) : IR := (.block 1 X6)
def F137.b5 : IR := F137.g5 F137.b6
def F137.b7 : IR := (.reg [.s (.bin .add .int aT6 aC1), iQm 6 0])
def F137.g4 (X5 X7 : IR) : IR := (.seq X5 X7)
def F137.b4 : IR := F137.g4 F137.b5 F137.b7
def F137.g3 (X4 : IR) : IR := (iSr [iQo 7 (.bin .lss .int aT6 aT5)] (.seq (.cond aT7 .skip (.exit 0)) X4))
def F137.b3 : IR := F137.g3 F137.b4
def F137.g2 (X3 : IR) : IR := (.loop X3)
def F137.b2 : IR := F137.g2 F137.b3
def F137.g1 (X2 : IR) : IR := (.block 0 X2)
def F137.b1 : IR := F137.g1 F137.b2
def F137.b8 : IR := (iSr [iSm 3, iQm 2 0] .ret)
def F137.g0 (X1 X8 : IR) : IR := (iSr [iQo 2 (.mv (.c .nils))] (iSr [iSm 0, .w .push none (.mkslice 1 8 [(I 0)] aS0 aS0), iQm 3 0] (.seq (iSr [iSm 3, iQo 5 (.len aS0), iQo 6 (.mv aC0)] X1) X8)))
def F137.b0 : IR := F137.g0 F137.b1 F137.b8
def F137.res : List RV := [.t (.of 2)]
def F137 : Fn := { params := [(.of 0), (.of 1)], res := F137.res, body := F137.b0, init := in8 }
theorem F137.ok : fnA Tryz.prog Tryz.f137 [0, 1, 4, 5, 6, 10, 11, 12] = some F137 := by kernel_rfl
abbrev F138.fr := fr3
def F138.b0 : IR := (iSr [iQo 2 (.mv aC0)] (.seq (.dreg [] [(.s (.load aT1), 0, []), (.s (.len aS0), 0, []), (.s (.bin .add .int aS0 aC1), 0, []), (.s (.load aT1), 0, []), (iSm 0, 0, []), (.s (.iaddr 1 aS1 aS0), 0, []), (.s (.load aS0), 0, []), (.s (.bin .sub .int aS4 aS0), 0, []), (iQm 2 0, 0, [])]) .ret))
def F138.res : List RV := [.t (.of 2)]
def F138 : Fn := { params := [(.of 0), (.of 1)], res := F138.res, body := F138.b0, init := in3 }
theorem F138.ok : fnA Tryz.prog Tryz.f138 [0, 1, 3] = some F138 := by kernel_rfl
abbrev F139.fr := fr10
def F139.b6 : IR := (iSr [.s (.iaddr 1 aT6 aT8), .s (.load aS0), iQm 5 0] (.reg [iSm 4, iSm 5, iSm 1, iCa 219 [aS1, aS0], .w .push none (.bslice 1 1 [(I 0)] [(0, 1, aS0)]), .w .push none (.app 1 8 aS4 aS0), iQm 4 0]))
def F139.g5 (X6 : IR) : IR := (.block 1 X6)
def F139.b5 : IR := F139.g5 F139.b6
def F139.b7 : IR := (.reg [.s (.bin .add .int aT8 aC1), iQm 8 0])
def F139.g4 (X5 X7 : IR) : IR := (.seq X5 X7)
def F139.b4 : IR := F139.g4 F139.b5 F139.b7
def F139.g3 (X4 : IR) : IR := (iSr [iQo 9 (.bin .lss .int aT8 aT7)] (.seq (.cond aT9 .skip (.exit 0)) X4))
def F139.b3 : IR := F139.g3 F139.b4
def F139.g2 (X3 : IR) : IR := (.loop X3)
def F139.b2 : IR := F139.g2 F139.b3
def F139.g1 (X2 : IR) : IR := (.block 0 X2)
def F139.b1 : IR := F139.g1 F139.b2
def F139.b8 : IR := (iSr [iSm 4, iQm 3 0] .ret)
def F139.g0 (X1 X8 : IR) : IR := (iSr [iWl 2 (.box aT0), iQo 3 (.mv (.c .nils))] (iSr [iQo 4 (.mv (.c .nils))] (.seq (iSr [.s (.faddr 1 aT2), iQo 6 (.load aS0), iQo 7 (.len aT6), iQo 8 (.mv aC0)] X1) X8)))
def F139.b0 : IR := F139.g0 F139.b1 F139.b8
def F139.res : List RV := [.t (.of 3)]
def F139 : Fn := { params := [(.of 0), (.of 1)], res := F139.res, body := F139.b0, init := in10 }
theorem F139.ok : fnA Tryz.prog Tryz.f139 [0, 1, 2, 4, 5, 7, 9, 10, 11, 12] = some F139 := by kernel_rfl
abbrev F140.fr := fr4
def F140.b1 : IR := (.seq (.dreg [] [(.s (.faddr 0 aT1), 0, []), (.s (.load aS0), 0, []), (.s (.faddr 2 aT1), 2, []), (.s (.load aS0), 2, []), (.w .push none (.bslice 1 1 [(I 0)] [(0, 1, aS2)]), 0, []), (iCa 87 [aC1, aC16, aS0], 0, []), (iCa 183 [aS2], 0, []), (.w .push none (.bslice 1 2 [(I 0)] [(0, 1, aS1), (1, 1, aS0)]), 0, []), (iCa 86 [aS0], 0, []), (iQm 2 0, 0, [])]) .ret)
def F140.g0 (X1 : IR) : IR := (iSr [iWl 1 (.box aT0), iQo 2 (.mv aC0)] (.seq (iSr [.s (.faddr 0 aT1), .s (.load aS0), .s (.faddr 1 aT1), .s (.load aS0), .s (.bin .neq .int aS2 aS0), .s (.mv aS0), iPf 0 (.faddr 0 aT1), iPf 1 (.load aS0), iPf 2 (.bin .lss .int aS0 aC0), .s (.pick aS3 (.c (.bool true)) aS0), .s (.mv aS0), iPf 0 (.faddr 0 aT1), iPf 1 (.load aS0), iPf 2 (.bin .gtr .int aS0 aC1048576), .s (.pick aS3 (.c (.bool true)) aS0), .s (.mv aS0), iPf 0 (.faddr 2 aT1), iPf 1 (.load aS0), iPf 2 (.len aS0), iPf 3 (.faddr 0 aT1), iPf 4 (.load aS0), iPf 5 (.faddr 1 aT1), iPf 6 (.load aS0), iPf 7 (.bin .mul .int aS2 aS0), iPf 8 (.bin .neq .int aS5 aS0), iQo 3 (.pick aS9 (.c (.bool true)) aS0)] (.cond aT3 (iSr [iQo 2 (.mv aC2)] .ret) .skip)) X1))
def F140.b0 : IR := F140.g0 F140.b1
def F140.res : List RV := [.t (.of 2)]
def F140 : Fn := { params := [(.of 0)], res := F140.res, body := F140.b0, init := in4 }
theorem F140.ok : fnA Tryz.prog Tryz.f140 [0, 1, 2, 28] = some F140 := by kernel_rfl
abbrev F141.fr := fr1
def F141.b0 : IR := (iSr [iQo 0 (.mv (.c .nils))] (iSr [.s (.build [(.str []), .nilf] [(0, 1, (.c (.str [110, 111, 114, 109, 97, 108]))), (1, 1, (.c (.fn 220 (.of 220) [])))]), .s (.build [(.str []), .nilf] [(0, 1, (.c (.str [115, 101, 109, 105, 109, 97, 103, 105, 99]))), (1, 1, (.c (.fn 221 (.of 221) [])))]), .s (.build [(.str []), .nilf] [(0, 1, (.c (.str [109, 97, 103, 105, 99]))), (1, 1, (.c (.fn 222 (.of 222) [])))]), .s (.build [(.str []), .nilf] [(0, 1, (.c (.str [112, 97, 110, 100, 105, 97, 103, 111, 110, 97, 108]))), (1, 1, (.c (.fn 223 (.of 223) [])))]), .s (.build [(.str []), .nilf] [(0, 1, (.c (.str [97, 115, 115, 111, 99, 105, 97, 116, 105, 118, 101]))), (1, 1, (.c (.fn 224 (.of 224) [])))]), .s (.build [(.str []), .nilf] [(0, 1, (.c (.str [109, 111, 115, 116, 45, 112, 101, 114, 102, 101, 99, 116]))), (1, 1, (.c (.fn 225 (.of 225) [])))]), .s (.build [(.str []), .nilf] [(0, 1, (.c (.str [98, 111, 114, 100, 101, 114, 101, 100]))), (1, 1, (.c (.fn 226 (.of 226) [])))]), .s (.build [(.str []), .nilf] [(0, 1, (.c (.str [98, 105, 109, 97, 103, 105, 99]))), (1, 1, (.c (.fn 227 (.of 227) [])))]), .w .push none (.bslice 2 8 [(.str []), .nilf] [(0, 2, aS7), (2, 2, aS6), (4, 2, aS5), (6, 2, aS4), (8, 2, aS3), (10, 2, aS2), (12, 2, aS1), (14, 2, aS0)]), iQm 0 0] .ret))
def F141.res : List RV := [.t (.of 0)]
def F141 : Fn := { params := [], res := F141.res, body := F141.b0, init := in1 }
theorem F141.ok : fnA Tryz.prog Tryz.f141 [0] = some F141 := by kernel_rfl
abbrev F142.fr := fr3
def F142.b1 : IR := (iSr [.w .push none (.bslice 1 0 [(I 0)] []), iSm 0, .w .push none (.app 1 8 aS1 aS0), iQm 1 0] .ret)
def F142.g0 (X1 : IR) : IR := (iSr [iQo 1 (.mv (.c .nils))] (.seq (iSr [iSm 0, iQo 2 (.bin .eql (.nil .sl) aS0 (.c .nils))] (.cond aT2 (iSr [iQo 1 (.mv (.c .nils))] .ret) .skip)) X1))
def F142.b0 : IR := F142.g0 F142.b1
def F142.res : List RV := [.t (.of 1)]
def F142 : Fn := { params := [(.of 0)], res := F142.res, body := F142.b0, init := in3 }
theorem F142.ok : fnA Tryz.prog Tryz.f142 [0, 2, 4] = some F142 := by kernel_rfl
abbrev F144.fr := fr4
def F144.b0 : IR := (iSr [iWl 2 (.box aT0), iQo 3 (.mv (.c (.bool false)))] (.seq (.dreg [] [(iSm 1, 0, []), (.s (.faddr 0 aT2), 0, []), (.s (.load aS0), 0, []), (.s (.faddr 1 aT2), 1, []), (.s (.load aS0), 1, []), (iCa 152 [aS4, aS2], 0, []), (iCa 95 [aS0, aS1], 0, []), (.s (.bin .lss .int aS0 aC0), 0, []), (iQm 3 0, 0, [])]) .ret))
def F144.res : List RV := [.t (.of 3)]
def F144 : Fn := { params := [(.of 0), (.of 1)], res := F144.res, body := F144.b0, init := in4 }
theorem F144.ok : fnA Tryz.prog Tryz.f144 [0, 1, 2, 4] = some F144 := by kernel_rfl
abbrev F145.fr := fr19
def F145.b12 : IR := (iSr [.s (.iaddr 1 aT13 aT15), .s (.load aS0), iQm 8 0] (.dreg [] [(.s (.loadN 2 aT7), 2, []), (.s (.faddr 1 aT2), 0, []), (.s (.load aS0), 0, []), (iSm 8, 0, []), (.s (.iaddr 1 aS1 aS0), 0, []), (.s (.load aS0), 0, []), (iSm 1, 1, []), (iCa 187 [aS1], 0, []), (iCa 228 [aS0, aS1], 0, []), (iCa 197 [aS8, aS0], 0, []), (.w .none none (.store 2 aT7 aS0), 0, [])]))
def F145.g11 (X12 : IR) : IR := (.block 3 X12)
def F145.b11 : IR := F145.g11 F145.b12
def F145.b13 : IR := (.reg [.s (.bin .add .int aT15 aC1), iQm 15 0])
def F145.g10 (X11 X13 : IR) : IR := (.seq X11 X13)
def F145.b10 : IR := F145.g10 F145.b11 F145.b13
def F145.g9 (X10 : IR) : IR := (iSr [iQo 16 (.bin .lss .int aT15 aT14)] (.seq (.cond aT16 .skip (.exit 2)) X10))
def F145.b9 : IR := F145.g9 F145.b10
def F145.g8 (X9 : IR) : IR := (.loop X9)
def F145.b8 : IR := F145.g8 F145.b9
def F145.g7 (X8 : IR) : IR := (.block 2 X8)
def F145.b7 : IR := F145.g7 F145.b8
def F145.b15 : IR := (iSr [.s (.loadN 2 aT7), .s (.loadN 2 aT4), iCa 229 [aS1, aS0], iQo 18 (.bin .neq .int aS0 aC0)] (.cond aT18 (iSr [iQo 3 (.mv (.c (.bool false)))] .ret) .skip))
def F145.g14 (X15 : IR) : IR := (.seq (iSr [iSm 5, iQo 17 (.bin .eql .int aS0 aC0)] (.cond aT17 (.reg [.s (.loadN 2 aT7), .w .none none (.store 2 aT4 aS0)]) .skip)) X15)
def F145.b14 : IR := F145.g14 F145.b15
def F145.g6 (X7 X14 : IR) : IR := (iSr [iSm 11, .s (.iaddr 1 aT9 aT11), .s (.load aS0), iQm 5 2, iQm 6 0] (iSr [iCa 187 [aC0], iWl 7 (.alloc [(I 0), .nils]), .w .none none (.store 2 aT7 aS0)] (.seq (iSr [iQo 13 (.mv aT6), iQo 14 (.len aT13), iQo 15 (.mv aC0)] X7) X14)))
def F145.b6 : IR := F145.g6 F145.b7 F145.b14
def F145.g5 (X6 : IR) : IR := (.block 1 X6)
def F145.b5 : IR := F145.g5 F145.b6
def F145.b16 : IR := (.reg [.s (.bin .add .int aT11 aC1), iQm 11 0])
def F145.g4 (X5 X16 : IR) : IR := (.seq X5 X16)
def F145.b4 : IR := F145.g4 F145.b5 F145.b16
def F145.g3 (X4 : IR) : IR := (iSr [iQo 12 (.bin .lss .int aT11 aT10)] (.seq (.cond aT12 .skip (.exit 0)) X4))
def F145.b3 : IR := F145.g3 F145.b4
def F145.g2 (X3 : IR) : IR := (.loop X3)
def F145.b2 : IR := F145.g2 F145.b3
def F145.g1 (X2 : IR) : IR := (.block 0 X2)
def F145.b1 : IR := F145.g1 F145.b2
def F145.b17 : IR := (iSr [iQo 3 (.mv (.c (.bool true)))] .ret)
def F145.g0 (X1 X17 : IR) : IR := (iSr [iWl 2 (.box aT0), iQo 3 (.mv (.c (.bool false)))] (iSr [iWl 4 (.alloc [(I 0), .nils])] (.seq (iSr [.s (.faddr 0 aT2), .s (.load aS0), .w .push none (.call (.c (.fn 152 (.of 152) [])) [(.c (.str [109, 97, 103, 105, 99])), aS0]), iQo 9 (.part 1 none aS0), iQo 10 (.len aT9), iQo 11 (.mv aC0)] X1) X17)))
def F145.b0 : IR := F145.g0 F145.b1 F145.b17
def F145.res : List RV := [.t (.of 3)]
def F145 : Fn := { params := [(.of 0), (.of 1)], res := F145.res, body := F145.b0, init := in19 }
theorem F145.ok : fnA Tryz.prog Tryz.f145 [0, 1, 2, 4, 5, 6, 7, 8, 10, 14, 15, 16, 17, 22, 23, 24, 25, 40, 45] = some F145 := by kernel_rfl
abbrev F151.fr := fr3
def F151.b0 : IR := (iSr [iQo 2 (.mv (.c (.bool false)))] (iSr [iSm 0, iSm 1, iCa 234 [aS1, aS0], .s (.bin .geq .int aS0 aC0), iQm 2 0] .ret))
def F151.res : List RV := [.t (.of 2)]
def F151 : Fn := { params := [(.of 0), (.of 1)], res := F151.res, body := F151.b0, init := in3 }
theorem F151.ok : fnA Tryz.prog Tryz.f151 [0, 1, 4] = some F151 := by kernel_rfl
abbrev F152.fr := fr19
def F152.b9 : IR := (iSr [iQo 7 (.mv aT15)] (.reg [iQo 8 (.mv aT16)]))
def F152.b11 : IR := (iSr [iSm 7, .s (.faddr 1 aT6), .s (.load aS0), iQo 17 (.bin .eql .int aS2 aS0)] (.cond aT17 (.reg [.s (.load aT4), iSm 8, .w .push none (.bslice 1 1 [.nils] [(0, 1, aS0)]), .w .push none (.app 1 24 aS2 aS0), .w .none none (.store 1 aT4 aS0)]) (.reg [.s (.load aT5), iSm 8, .w .push none (.bslice 1 1 [.nils] [(0, 1, aS0)]), .w .push none (.app 1 24 aS2 aS0), .w .none none (.store 1 aT5 aS0)])))
def F152.g10 (X11 : IR) : IR := (.block 3 X11)
def F152.b10 : IR := F152.g10 F152.b11
def F152.g8 (X9 X10 : IR) : IR := (.rf aT14 [(.of 15), (.of 16)] X9 X10)
def F152.b8 : IR := F152.g8 F152.b9 F152.b10
def F152.g7 (X8 : IR) : IR := (.block 2 X8)
def F152.b7 : IR := F152.g7 F152.b8
def F152.g6 (X7 : IR) : IR := (iSr [.s (.iaddr 2 aT10 aT12), .s (.loadN 2 aS0), iWl 6 (.alloc [(I 0), (I 0)]), .w .none none (.store 2 aT6 aS0)] (iSr [iSm 1, .s (.faddr 0 aT6), .s (.load aS0), iWl 14 (.call (.c (.fn 236 (.of 236) [])) [aS2, aS0])] X7))
def F152.b6 : IR := F152.g6 F152.b7
def F152.g5 (X6 : IR) : IR := (.block 1 X6)
def F152.b5 : IR := F152.g5 F152.b6
def F152.b12 : IR := (.reg [.s (.bin .add .int aT12 aC1), iQm 12 0])
def F152.g4 (X5 X12 : IR) : IR := (.seq X5 X12)
def F152.b4 : IR := F152.g4 F152.b5 F152.b12
def F152.g3 (X4 : IR) : IR := (iSr [iQo 13 (.bin .lss .int aT12 aT11)] (.seq (.cond aT13 .skip (.exit 0)) X4))
def F152.b3 : IR := F152.g3 F152.b4
def F152.g2 (X3 : IR) : IR := (.loop X3)
def F152.b2 : IR := F152.g2 F152.b3
def F152.g1 (X2 : IR) : IR := (.block 0 X2)
def F152.b1 : IR := F152.g1 F152.b2
def F152.b13 : IR := (iSr [iSm 3, .s (.load aT4), .w .push none (.app 1 24 aS1 aS0), iQm 3 0] (iSr [iSm 0, iQo 18 (.bin .eql .str aS0 (.c (.str [112, 97, 110, 100, 105, 97, 103, 111, 110, 97, 108])))] (.cond aT18 (.reg [iSm 3, .s (.load aT5), .w .push none (.app 1 24 aS1 aS0), iQm 3 0]) .skip)))
def F152.b14 : IR := (iSr [iSm 1, iSm 1, .s (.bin .mul .int aS1 aS0), iSm 3, iCa 153 [aS1, aS0], .w .none none (.store 2 aT2 aS0)] .ret)
def F152.g0 (X1 X13 X14 : IR) : IR := (iSr [iWl 2 (.alloc [(I 0), .nils])] (iSr [iSm 1, iSm 1, iCa 154 [aS1, aS0], iSm 1, iSm 1, iCa 155 [aS1, aS0], .w .push none (.bslice 1 2 [.nils] [(0, 1, aS3), (1, 1, aS0)]), iCa 235 [aS0], iQm 3 0] (.seq (iSr [iSm 0, iQo 9 (.bin .neq .str aS0 (.c (.str [115, 101, 109, 105, 109, 97, 103, 105, 99])))] (.cond aT9 (iSr [iWl 4 (.alloc [.nils]), iWl 5 (.alloc [.nils])] (.seq (iSr [.s (.build [(I 0), (I 0)] [(0, 1, aC1), (1, 1, aC0)]), iSm 1, .s (.bin .sub .int aS0 aC1), .s (.build [(I 0), (I 0)] [(0, 1, (.c (I (-1)))), (1, 1, aS0)]), iWl 10 (.bslice 2 2 [(I 0), (I 0)] [(0, 2, aS3), (2, 2, aS0)]), iQo 11 (.len aT10), iQo 12 (.mv aC0)] X1) X13)) .skip)) X14)))
def F152.b0 : IR := F152.g0 F152.b1 F152.b13 F152.b14
def F152.res : List RV := [.cell (.of 2) (some 2)]
def F152 : Fn := { params := [(.of 0), (.of 1)], res := F152.res, body := F152.b0, init := in19 }
theorem F152.ok : fnA Tryz.prog Tryz.f152 [0, 1, 4, 5, 6, 7, 9, 10, 11, 21, 26, 27, 28, 29, 35, 36, 37, 41, 55] = some F152 := by kernel_rfl
abbrev F153.fr := fr12
def F153.b6 : IR := (iSr [.s (.iaddr 1 aT7 aT9), .s (.load aS0), iQm 5 0] (iSr [iSm 5, iCa 171 [aS0], iCa 170 [aS0], iQm 5 0] (iSr [iSm 5, iCa 237 [aS0], iQm 6 0] (iSr [iSm 3, iSm 6, .s (.look .str (.bool false) false aS1 aS0), iQo 11 (.not aS0)] (.cond aT11 (iSr [iSm 3, iSm 6, .w .none none (.mapup .str aS1 aS0 (.c (.bool true)))] (.reg [.s (.faddr 1 aT4), .s (.load aS0), iSm 5, .w .push none (.bslice 1 1 [.nils] [(0, 1, aS0)]), .w .push none (.app 1 24 aS2 aS0), .s (.faddr 1 aT4), .w .none none (.store 1 aS0 aS1)])) .skip)))))
def F153.g5 (X6 : IR) : IR := (.block 1 X6)
def F153.b5 : IR := F153.g5 F153.b6
def F153.b7 : IR := (.reg [.s (.bin .add .int aT9 aC1), iQm 9 0])
def F153.g4 (X5 X7 : IR) : IR := (.seq X5 X7)
def F153.b4 : IR := F153.g4 F153.b5 F153.b7
def F153.g3 (X4 : IR) : IR := (iSr [iQo 10 (.bin .lss .int aT9 aT8)] (.seq (.cond aT10 .skip (.exit 0)) X4))
def F153.b3 : IR := F153.g3 F153.b4
def F153.g2 (X3 : IR) : IR := (.loop X3)
def F153.b2 : IR := F153.g2 F153.b3
def F153.g1 (X2 : IR) : IR := (.block 0 X2)
def F153.b1 : IR := F153.g1 F153.b2
def F153.b8 : IR := (iSr [.s (.loadN 2 aT4), .w .none none (.store 2 aT2 aS0)] .ret)
def F153.g0 (X1 X8 : IR) : IR := (iSr [iWl 2 (.alloc [(I 0), .nils])] (iSr [.w .push none .mkmap, iQm 3 0] (iSr [iSm 0, .s (.build [(I 0), .nils] [(0, 1, aS0)]), iWl 4 (.alloc [(I 0), .nils]), .w .none none (.store 2 aT4 aS0)] (.seq (iSr [iQo 7 (.mv aT1), iQo 8 (.len aT7), iQo 9 (.mv aC0)] X1) X8))))
def F153.b0 : IR := F153.g0 F153.b1 F153.b8
def F153.res : List RV := [.cell (.of 2) (some 2)]
def F153 : Fn := { params := [(.of 0), (.of 1)], res := F153.res, body := F153.b0, init := in12 }
theorem F153.ok : fnA Tryz.prog Tryz.f153 [0, 1, 4, 5, 6, 8, 9, 13, 14, 15, 16, 27] = some F153 := by kernel_rfl
abbrev F154.fr := fr9
def F154.b6 : IR := (iSr [iSm 7, iWl 5 (.alloc [(I 0)]), .w .none none (.store 1 aT5 aS0)] (.reg [iSm 4, .s (.load aT2), .s (.fn 238 (.of 238) [aT2, aT5]), iCa 137 [aS1, aS0], .w .push none (.bslice 1 1 [.nils] [(0, 1, aS0)]), .w .push none (.app 1 24 aS4 aS0), iQm 4 0]))
def F154.g5 (X6 : IR) : IR := (.block 1 X6)
def F154.b5 : IR := F154.g5 F154.b6
def F154.b7 : IR := (.reg [.s (.bin .add .int aT7 aC1), iQm 7 0])
def F154.g4 (X5 X7 : IR) : IR := (.seq X5 X7)
def F154.b4 : IR := F154.g4 F154.b5 F154.b7
def F154.g3 (X4 : IR) : IR := (iSr [iQo 8 (.bin .lss .int aT7 aT6)] (.seq (.cond aT8 .skip (.exit 0)) X4))
def F154.b3 : IR := F154.g3 F154.b4
def F154.g2 (X3 : IR) : IR := (.loop X3)
def F154.b2 : IR := F154.g2 F154.b3
def F154.g1 (X2 : IR) : IR := (.block 0 X2)
def F154.b1 : IR := F154.g1 F154.b2
def F154.b8 : IR := (iSr [iSm 4, iQm 3 0] .ret)
def F154.g0 (X1 X8 : IR) : IR := (iSr [iWl 2 (.box aT1), iQo 3 (.mv (.c .nils))] (iSr [iQo 4 (.mv (.c .nils))] (.seq (iSr [iQo 6 (.mv aT0), iQo 7 (.mv aC0)] X1) X8)))
def F154.b0 : IR := F154.g0 F154.b1 F154.b8
def F154.res : List RV := [.t (.of 3)]
def F154 : Fn := { params := [(.of 0), (.of 1)], res := F154.res, body := F154.b0, init := in9 }
theorem F154.ok : fnA Tryz.prog Tryz.f154 [0, 1, 3, 4, 5, 6, 7, 8, 9] = some F154 := by kernel_rfl
abbrev F155.fr := fr9
def F155.b6 : IR := (iSr [iSm 7, iWl 5 (.alloc [(I 0)]), .w .none none (.store 1 aT5 aS0)] (.reg [iSm 4, iSm 0, .s (.fn 239 (.of 239) [aT2, aT5]), iCa 137 [aS1, aS0], .w .push none (.bslice 1 1 [.nils] [(0, 1, aS0)]), .w .push none (.app 1 24 aS4 aS0), iQm 4 0]))
def F155.g5 (X6 : IR) : IR := (.block 1 X6)
def F155.b5 : IR := F155.g5 F155.b6
def F155.b7 : IR := (.reg [.s (.bin .add .int aT7 aC1), iQm 7 0])
def F155.g4 (X5 X7 : IR) : IR := (.seq X5 X7)
def F155.b4 : IR := F155.g4 F155.b5 F155.b7
def F155.g3 (X4 : IR) : IR := (iSr [iQo 8 (.bin .lss .int aT7 aT6)] (.seq (.cond aT8 .skip (.exit 0)) X4))
def F155.b3 : IR := F155.g3 F155.b4
def F155.g2 (X3 : IR) : IR := (.loop X3)
def F155.b2 : IR := F155.g2 F155.b3
def F155.g1 (X2 : IR) : IR := (.block 0 X2)
def F155.b1 : IR := F155.g1 F155.b2
def F155.b8 : IR := (iSr [iSm 4, iQm 3 0] .ret)
def F155.g0 (X1 X8 : IR) : IR := (iSr [iWl 2 (.box aT1), iQo 3 (.mv (.c .nils))] (iSr [iQo 4 (.mv (.c .nils))] (.seq (iSr [iQo 6 (.load aT2), iQo 7 (.mv aC0)] X1) X8)))
def F155.b0 : IR := F155.g0 F155.b1 F155.b8
def F155.res : List RV := [.t (.of 3)]
def F155 : Fn := { params := [(.of 0), (.of 1)], res := F155.res, body := F155.b0, init := in9 }
theorem F155.ok : fnA Tryz.prog Tryz.f155 [0, 1, 3, 4, 5, 6, 7, 8, 9] = some F155 := by kernel_rfl
abbrev F168.fr := fr4
def F168.b0 : IR := (iSr [iWl 2 (.box aT0), iQo 3 (.mv aC0)] (.seq (.dreg [] [(.s (.loadN 2 aT2), 0, []), (iSm 1, 1, []), (.s (.len aS0), 1, []), (.s (.faddr 1 aT2), 1, []), (.s (.load aS0), 1, []), (.s (.len aS0), 1, []), (.s (.bin .neq .int aS3 aS0), 1, []), (iSm 1, 2, []), (iCa 20 [aS7], 0, []), (iCa 88 [aS2, aC2], 0, []), (iCa 136 [aS2], 0, []), (.s (.not aS0), 0, []), (iCa 88 [aS0, aC14], 0, []), (.w .push none (.bslice 1 3 [(I 0)] [(0, 1, aS4), (1, 1, aS3), (2, 1, aS0)]), 0, []), (iCa 86 [aS0], 0, []), (iQm 3 0, 0, [])]) .ret))
def F168.res : List RV := [.t (.of 3)]
def F168 : Fn := { params := [(.of 0), (.of 1)], res := F168.res, body := F168.b0, init := in4 }
theorem F168.ok : fnA Tryz.prog Tryz.f168 [0, 1, 2, 4] = some F168 := by kernel_rfl
abbrev F169.fr := fr11
def F169.b6 : IR := (iSr [iSm 9, .s (.iaddr 2 aT7 aT9), .s (.loadN 2 aS0), iWl 6 (.alloc [(I 0), (I 0)]), iQm 5 2, .w .none none (.store 2 aT6 aS0)] (.seq (.dreg [] [(iSm 4, 0, []), (.s (.aaddr 1 2 aT6 aC0), 0, []), (.s (.load aS0), 0, []), (.s (.iaddr 1 aS2 aS0), 0, []), (.s (.load aS0), 0, []), (iSm 1, 0, []), (iSm 5, 0, []), (.s (.iaddr 1 aS1 aS0), 0, []), (.s (.load aS0), 0, []), (.s (.bin .add .int aS4 aS0), 0, []), (.s (.iaddr 1 aS9 aS7), 0, []), (.w .none none (.store 1 aS0 aS1), 0, [])]) (.dreg [] [(iSm 4, 0, []), (.s (.aaddr 1 2 aT6 aC1), 0, []), (.s (.load aS0), 0, []), (.s (.iaddr 1 aS2 aS0), 0, []), (.s (.load aS0), 0, []), (iSm 1, 0, []), (iSm 5, 0, []), (.s (.iaddr 1 aS1 aS0), 0, []), (.s (.load aS0), 0, []), (.s (.bin .add .int aS4 aS0), 0, []), (.s (.iaddr 1 aS9 aS7), 0, []), (.w .none none (.store 1 aS0 aS1), 0, [])])))
def F169.g5 (X6 : IR) : IR := (.block 1 X6)
def F169.b5 : IR := F169.g5 F169.b6
def F169.b7 : IR := (.reg [.s (.bin .add .int aT9 aC1), iQm 9 0])
def F169.g4 (X5 X7 : IR) : IR := (.seq X5 X7)
def F169.b4 : IR := F169.g4 F169.b5 F169.b7
def F169.g3 (X4 : IR) : IR := (iSr [iQo 10 (.bin .lss .int aT9 aT8)] (.seq (.cond aT10 .skip (.exit 0)) X4))
def F169.b3 : IR := F169.g3 F169.b4
def F169.g2 (X3 : IR) : IR := (.loop X3)
def F169.b2 : IR := F169.g2 F169.b3
def F169.g1 (X2 : IR) : IR := (.block 0 X2)
def F169.b1 : IR := F169.g1 F169.b2
def F169.b8 : IR := (iSr [iSm 4, iQm 3 0] .ret)
def F169.g0 (X1 X8 : IR) : IR := (iSr [iWl 2 (.box aT0), iQo 3 (.mv (.c .nils))] (iSr [.s (.faddr 0 aT2), .s (.load aS0), .w .push none (.mkslice 1 8 [(I 0)] aS0 aS0), iQm 4 0] (.seq (iSr [.s (.faddr 1 aT2), iQo 7 (.load aS0), iQo 8 (.len aT7), iQo 9 (.mv aC0)] X1) X8)))
def F169.b0 : IR := F169.g0 F169.b1 F169.b8
def F169.res : List RV := [.t (.of 3)]
def F169 : Fn := { params := [(.of 0), (.of 1)], res := F169.res, body := F169.b0, init := in11 }
theorem F169.ok : fnA Tryz.prog Tryz.f169 [0, 1, 2, 4, 5, 6, 7, 12, 13, 14, 15] = some F169 := by kernel_rfl
abbrev F170.fr := fr3
def F170.b0 : IR := (iSr [iQo 1 (.mv (.c .nils))] (iSr [iSm 0, iCa 242 [aS0], iQm 2 0] (iSr [iSm 2, iCa 243 [aS0]] (iSr [iSm 2, iQm 1 0] .ret))))
def F170.res : List RV := [.t (.of 1)]
def F170 : Fn := { params := [(.of 0)], res := F170.res, body := F170.b0, init := in3 }
theorem F170.ok : fnA Tryz.prog Tryz.f170 [0, 2, 3] = some F170 := by kernel_rfl
abbrev F171.fr := fr3
def F171.b0 : IR := (iSr [iWl 1 (.box aT0), iQo 2 (.mv (.c .nilf))] (iSr [.s (.fn 244 (.of 244) [aT1]), iQm 2 0] .ret))
def F171.res : List RV := [.t (.of 2)]
def F171 : Fn := { params := [(.of 0)], res := F171.res, body := F171.b0, init := in3 }
theorem F171.ok : fnA Tryz.prog Tryz.f171 [0, 1, 2] = some F171 := by kernel_rfl
abbrev F173.fr := fr3
def F173.b0 : IR := (iSr [iQo 2 (.mv (.c (.bool false)))] (iSr [iSm 0, iSm 1, iCa 184 [aS1, aS0], .s (.bin .geq .int aS0 aC0), iQm 2 0] .ret))
def F173.res : List RV := [.t (.of 2)]
def F173 : Fn := { params := [(.of 0), (.of 1)], res := F173.res, body := F173.b0, init := in3 }
theorem F173.ok : fnA Tryz.prog Tryz.f173 [0, 1, 4] = some F173 := by kernel_rfl
abbrev F174.fr := fr4
def F174.b0 : IR := (iSr [iQo 3 (.mv (.c (.bool false)))] (iSr [iSm 0, .s (.load aT1), .s (.bin .lss .int aS1 aS0), .s (.mv aS0), iPf 0 (.mv aT0), iPf 1 (.load aT2), iPf 2 (.bin .gtr .int aS1 aS0), .s (.pick aS3 (.c (.bool true)) aS0), iQm 3 0] .ret))
def F174.res : List RV := [.t (.of 3)]
def F174 : Fn := { params := [(.of 0), (.of 1), (.of 2)], res := F174.res, body := F174.b0, init := in4 }
theorem F174.ok : fnA Tryz.prog Tryz.f174 [0, 1, 2, 4] = some F174 := by kernel_rfl
abbrev F175.fr := fr3
def F175.b0 : IR := (iSr [iQo 2 (.mv (.c (.bool false)))] (iSr [iSm 0, iSm 1, iCa 245 [aS1, aS0], .s (.bin .geq .int aS0 aC0), iQm 2 0] .ret))
def F175.res : List RV := [.t (.of 2)]
def F175 : Fn := { params := [(.of 0), (.of 1)], res := F175.res, body := F175.b0, init := in3 }
theorem F175.ok : fnA Tryz.prog Tryz.f175 [0, 1, 4] = some F175 := by kernel_rfl
abbrev F176.fr := fr3
def F176.b0 : IR := (iSr [iQo 2 (.mv (.c (.bool false)))] (iSr [iSm 0, .s (.load aT1), iCa 177 [aS1, aS0], iQm 2 0] .ret))
def F176.res : List RV := [.t (.of 2)]
def F176 : Fn := { params := [(.of 0), (.of 1)], res := F176.res, body := F176.b0, init := in3 }
theorem F176.ok : fnA Tryz.prog Tryz.f176 [0, 1, 3] = some F176 := by kernel_rfl
abbrev F177.fr := fr9
def F177.b7 : IR := (iSr [iSm 6, iQm 3 0] (.seq (.dreg [] [(iSm 0, 0, []), (iSm 3, 0, []), (.s (.iaddr 1 aS1 aS0), 0, []), (.s (.load aS0), 0, []), (iSm 1, 0, []), (iSm 3, 0, []), (.s (.iaddr 1 aS1 aS0), 0, []), (.s (.load aS0), 0, []), (iQo 8 (.bin .neq .int aS4 aS0), 0, [])]) (.cond aT8 (iSr [iQo 2 (.mv (.c (.bool false)))] .ret) .skip)))
def F177.g6 (X7 : IR) : IR := (.block 1 X7)
def F177.b6 : IR := F177.g6 F177.b7
def F177.b8 : IR := (.reg [.s (.bin .add .int aT6 aC1), iQm 6 0])
def F177.g5 (X6 X8 : IR) : IR := (.seq X6 X8)
def F177.b5 : IR := F177.g5 F177.b6 F177.b8
def F177.g4 (X5 : IR) : IR := (iSr [iQo 7 (.bin .lss .int aT6 aT5)] (.seq (.cond aT7 .skip (.exit 0)) X5))
def F177.b4 : IR := F177.g4 F177.b5
def F177.g3 (X4 : IR) : IR := (.loop X4)
def F177.b3 : IR := F177.g3 F177.b4
def F177.g2 (X3 : IR) : IR := (.block 0 X3)
def F177.b2 : IR := F177.g2 F177.b3
def F177.b9 : IR := (iSr [iQo 2 (.mv (.c (.bool true)))] .ret)
def F177.g1 (X2 X9 : IR) : IR := (.seq (iSr [iSm 0, iQo 5 (.len aS0), iQo 6 (.mv aC0)] X2) X9)
def F177.b1 : IR := F177.g1 F177.b2 F177.b9
def F177.g0 (X1 : IR) : IR := (iSr [iQo 2 (.mv (.c (.bool false)))] (.seq (iSr [iSm 0, .s (.len aS0), iSm 1, .s (.len aS0), iQo 4 (.bin .neq .int aS2 aS0)] (.cond aT4 (iSr [iQo 2 (.mv (.c (.bool false)))] .ret) .skip)) X1))
def F177.b0 : IR := F177.g0 F177.b1
def F177.res : List RV := [.t (.of 2)]
def F177 : Fn := { params := [(.of 0), (.of 1)], res := F177.res, body := F177.b0, init := in9 }
theorem F177.ok : fnA Tryz.prog Tryz.f177 [0, 1, 4, 5, 10, 12, 13, 14, 24] = some F177 := by kernel_rfl
abbrev F178.fr := fr9
def F178.b6 : IR := (iSr [iSm 6, iQm 4 0] (.seq (.dreg [] [(.s (.loadN 2 aT2), 0, []), (iSm 0, 0, []), (iSm 4, 0, []), (.s (.iaddr 2 aS1 aS0), 0, []), (.s (.loadN 2 aS0), 0, []), (iQo 8 (.bin .eql (.agg 2) aS4 aS0), 0, [])]) (.cond aT8 (iSr [iSm 4, iQm 3 0] .ret) .skip)))
def F178.g5 (X6 : IR) : IR := (.block 1 X6)
def F178.b5 : IR := F178.g5 F178.b6
def F178.b7 : IR := (.reg [.s (.bin .add .int aT6 aC1), iQm 6 0])
def F178.g4 (X5 X7 : IR) : IR := (.seq X5 X7)
def F178.b4 : IR := F178.g4 F178.b5 F178.b7
def F178.g3 (X4 : IR) : IR := (iSr [iQo 7 (.bin .lss .int aT6 aT5)] (.seq (.cond aT7 .skip (.exit 0)) X4))
def F178.b3 : IR := F178.g3 F178.b4
def F178.g2 (X3 : IR) : IR := (.loop X3)
def F178.b2 : IR := F178.g2 F178.b3
def F178.g1 (X2 : IR) : IR := (.block 0 X2)
def F178.b1 : IR := F178.g1 F178.b2
def F178.b8 : IR := (iSr [iQo 3 (.mv (.c (I (-1))))] .ret)
def F178.g0 (X1 X8 : IR) : IR := (iSr [iWl 2 (.box aT1), iQo 3 (.mv aC0)] (.seq (iSr [iSm 0, iQo 5 (.len aS0), iQo 6 (.mv aC0)] X1) X8))
def F178.b0 : IR := F178.g0 F178.b1 F178.b8
def F178.res : List RV := [.t (.of 3)]
def F178 : Fn := { params := [(.of 0), (.of 1)], res := F178.res, body := F178.b0, init := in9 }
theorem F178.ok : fnA Tryz.prog Tryz.f178 [0, 1, 3, 4, 5, 7, 8, 9, 16] = some F178 := by kernel_rfl
abbrev F179.fr := fr3
def F179.b0 : IR := (iSr [iQo 2 (.mv (.c (.bool false)))] (iSr [iSm 0, iSm 1, iCa 108 [aS1, aS0], .s (.bin .geq .int aS0 aC0), iQm 2 0] .ret))
def F179.res : List RV := [.t (.of 2)]
def F179 : Fn := { params := [(.of 0), (.of 1)], res := F179.res, body := F179.b0, init := in3 }
theorem F179.ok : fnA Tryz.prog Tryz.f179 [0, 1, 4] = some F179 := by kernel_rfl
abbrev F180.fr := fr3
def F180.b0 : IR := (iSr [iWl 1 (.box aT0), iQo 2 (.mv (.c (.bool false)))] (iSr [.s (.faddr 0 aT1), .s (.loadN 2 aS0), iCa 246 [aS0], .s (.mv aS0), iPf 0 (.faddr 2 aT1), iPf 1 (.loadN 2 aS0), .w .push (some (aS2, false)) (.call (.c (.fn 246 (.of 246) [])) [aS0]), .s (.pick aS3 (.c (.bool true)) aS0), iQm 2 0] .ret))
def F180.res : List RV := [.t (.of 2)]
def F180 : Fn := { params := [(.of 0)], res := F180.res, body := F180.b0, init := in3 }
theorem F180.ok : fnA Tryz.prog Tryz.f180 [0, 1, 2] = some F180 := by kernel_rfl
abbrev F181.fr := fr9
def F181.b6 : IR := (iSr [iSm 7, .s (.iaddr 4 aT5 aT7), .s (.loadN 4 aS0), iWl 4 (.alloc [(I 0), .nils, (I 0), .nils]), iQm 3 2, .w .none none (.store 4 aT4 aS0)] (.reg [iSm 2, iSm 3, .s (.loadN 4 aT4), iCa 97 [aS0], .s (.iaddr 1 aS3 aS2), .w .none none (.store 1 aS0 aS1)]))
def F181.g5 (X6 : IR) : IR := (.block 1 X6)
def F181.b5 : IR := F181.g5 F181.b6
def F181.b7 : IR := (.reg [.s (.bin .add .int aT7 aC1), iQm 7 0])
def F181.g4 (X5 X7 : IR) : IR := (.seq X5 X7)
def F181.b4 : IR := F181.g4 F181.b5 F181.b7
def F181.g3 (X4 : IR) : IR := (iSr [iQo 8 (.bin .lss .int aT7 aT6)] (.seq (.cond aT8 .skip (.exit 0)) X4))
def F181.b3 : IR := F181.g3 F181.b4
def F181.g2 (X3 : IR) : IR := (.loop X3)
def F181.b2 : IR := F181.g2 F181.b3
def F181.g1 (X2 : IR) : IR := (.block 0 X2)
def F181.b1 : IR := F181.g1 F181.b2
def F181.b8 : IR := (iSr [iSm 2, iQm 1 0] .ret)
def F181.g0 (X1 X8 : IR) : IR := (iSr [iQo 1 (.mv (.c .nils))] (iSr [iSm 0, .s (.len aS0), .w .push none (.mkslice 1 16 [(.str [])] aS0 aS0), iQm 2 0] (.seq (iSr [iQo 5 (.mv aT0), iQo 6 (.len aT5), iQo 7 (.mv aC0)] X1) X8)))
def F181.b0 : IR := F181.g0 F181.b1 F181.b8
def F181.res : List RV := [.t (.of 1)]
def F181 : Fn := { params := [(.of 0)], res := F181.res, body := F181.b0, init := in9 }
theorem F181.ok : fnA Tryz.prog Tryz.f181 [0, 2, 3, 4, 5, 9, 10, 11, 12] = some F181 := by kernel_rfl
abbrev F182.fr := fr3
def F182.b0 : IR := (iSr [iQo 2 (.mv (.c (.bool false)))] (iSr [iSm 0, iSm 1, iCa 247 [aS1, aS0], .s (.bin .geq .int aS0 aC0), iQm 2 0] .ret))
def F182.res : List RV := [.t (.of 2)]
def F182 : Fn := { params := [(.of 0), (.of 1)], res := F182.res, body := F182.b0, init := in3 }
theorem F182.ok : fnA Tryz.prog Tryz.f182 [0, 1, 4] = some F182 := by kernel_rfl
abbrev F183.fr := fr2
def F183.b0 : IR := (iSr [iQo 1 (.mv aC0)] (iSr [iSm 0, iCa 87 [(.c (I (-999999999))), aC999999999, aS0], iQm 1 0] .ret))
def F183.res : List RV := [.t (.of 1)]
def F183 : Fn := { params := [(.of 0)], res := F183.res, body := F183.b0, init := in2 }
theorem F183.ok : fnA Tryz.prog Tryz.f183 [0, 2] = some F183 := by kernel_rfl
abbrev F184.fr := fr8
def F184.b6 : IR := (iSr [iSm 5, iQm 3 0] (iSr [iSm 1, iSm 0, iSm 3, .s (.iaddr 1 aS1 aS0), .s (.load aS0), iWl 7 (.call aS4 [aS0])] (.cond aT7 (iSr [iSm 3, iQm 2 0] .ret) .skip)))
def F184.g5 (X6 : IR) : IR := (.block 1 X6)
def F184.b5 : IR := F184.g5 F184.b6
def F184.b7 : IR := (.reg [.s (.bin .add .int aT5 aC1), iQm 5 0])
def F184.g4 (X5 X7 : IR) : IR := (.seq X5 X7)
def F184.b4 : IR := F184.g4 F184.b5 F184.b7
def F184.g3 (X4 : IR) : IR := (iSr [iQo 6 (.bin .lss .int aT5 aT4)] (.seq (.cond aT6 .skip (.exit 0)) X4))
def F184.b3 : IR := F184.g3 F184.b4
def F184.g2 (X3 : IR) : IR := (.loop X3)
def F184.b2 : IR := F184.g2 F184.b3
def F184.g1 (X2 : IR) : IR := (.block 0 X2)
def F184.b1 : IR := F184.g1 F184.b2
def F184.b8 : IR := (iSr [iQo 2 (.mv (.c (I (-1))))] .ret)
def F184.g0 (X1 X8 : IR) : IR := (iSr [iQo 2 (.mv aC0)] (.seq (iSr [iSm 0, iQo 4 (.len aS0), iQo 5 (.mv aC0)] X1) X8))
def F184.b0 : IR := F184.g0 F184.b1 F184.b8
def F184.res : List RV := [.t (.of 2)]
def F184 : Fn := { params := [(.of 0), (.of 1)], res := F184.res, body := F184.b0, init := in8 }
theorem F184.ok : fnA Tryz.prog Tryz.f184 [0, 1, 4, 5, 7, 8, 9, 16] = some F184 := by kernel_rfl
abbrev F185.fr := fr3
def F185.b0 : IR := (iSr [iQo 2 (.mv (.c (.bool false)))] (iSr [iSm 0, .s (.load aT1), .s (.iaddr 1 aS0 aC0), .s (.load aS0), .s (.bin .neq .int aS3 aS0), iQm 2 0] .ret))
def F185.res : List RV := [.t (.of 2)]
def F185 : Fn := { params := [(.of 0), (.of 1)], res := F185.res, body := F185.b0, init := in3 }
theorem F185.ok : fnA Tryz.prog Tryz.f185 [0, 1, 3] = some F185 := by kernel_rfl
abbrev F186.fr := fr3
def F186.b0 : IR := (iSr [iWl 1 (.box aT0), iWl 2 (.alloc [(I 0), .nils, (I 0), .nils])] (.seq (.dreg [] [(.s (.loadN 2 aT1), 1, []), (iCa 187 [aC1], 0, []), (.s (.build [(I 0), .nils, (I 0), .nils] [(0, 2, aS1), (2, 2, aS0)]), 0, []), (.w .none none (.store 4 aT2 aS0), 0, [])]) .ret))
def F186.res : List RV := [.cell (.of 2) (some 4)]
def F186 : Fn := { params := [(.of 0)], res := F186.res, body := F186.b0, init := in3 }
theorem F186.ok : fnA Tryz.prog Tryz.f186 [0, 1, 2] = some F186 := by kernel_rfl
abbrev F187.fr := fr2
def F187.b0 : IR := (iSr [iWl 1 (.alloc [(I 0), .nils])] (iSr [iSm 0, .s (.build [(I 0), .nils] [(0, 1, aS0)]), .w .none none (.store 2 aT1 aS0)] .ret))
def F187.res : List RV := [.cell (.of 1) (some 2)]
def F187 : Fn := { params := [(.of 0)], res := F187.res, body := F187.b0, init := in2 }
theorem F187.ok : fnA Tryz.prog Tryz.f187 [0, 2] = some F187 := by kernel_rfl
abbrev F188.fr := fr18
def F188.b8 : IR := (iSr [iSm 6, iSm 9, .w .push none (.bslice 1 1 [(.str [])] [(0, 1, aS0)]), .w .push none (.app 1 16 aS2 aS0), iQm 6 0] (.reg [iSm 7, iQm 4 0]))
def F188.g7 (X8 : IR) : IR := (.seq (iSr [iSm 7, .s (.len aS0), iQo 15 (.bin .gtr .int aS0 aC0)] (.cond aT15 (.reg [iSm 9, .s (.slen aS0), .s (.bin .sub .int aC18 aS0), .w .push none (.call (.c (.fn 252 (.of 252) [])) [(.c (.str [48])), aS0]), iSm 9, .s (.bin .add .str aS1 aS0), iQm 9 0]) .skip)) X8)
def F188.b7 : IR := F188.g7 F188.b8
def F188.g6 (X7 : IR) : IR := (iSr [iSm 4, iSm 5, iCa 250 [aS1, aS0], .s (.mv aS0), .s (.ext 0 aS0), .s (.ext 1 aS1), iQm 7 1, iQm 8 0] (iSr [iQo 9 (.mv (.c (.str [48])))] (.seq (iSr [iSm 8, .s (.len aS0), iQo 14 (.bin .gtr .int aS0 aC0)] (.cond aT14 (.reg [iSm 8, .s (.iaddr 1 aS0 aC0), .s (.load aS0), iCa 251 [aS0, aC10], iQm 9 0]) .skip)) X7)))
def F188.b6 : IR := F188.g6 F188.b7
def F188.g5 (X6 : IR) : IR := (.block 1 X6)
def F188.b5 : IR := F188.g5 F188.b6
def F188.g4 (X5 : IR) : IR := (.seq (iSr [iSm 4, .s (.len aS0), iQo 13 (.bin .gtr .int aS0 aC0)] (.cond aT13 .skip (.exit 0))) X5)
def F188.b4 : IR := F188.g4 F188.b5
def F188.g3 (X4 : IR) : IR := (.loop X4)
def F188.b3 : IR := F188.g3 F188.b4
def F188.g2 (X3 : IR) : IR := (.block 0 X3)
def F188.b2 : IR := F188.g2 F188.b3
def F188.b16 : IR := (.reg [iSm 6, iSm 11, .s (.iaddr 1 aS1 aS0), .s (.load aS0), iCa 253 [aT10, aS0]])
def F188.g15 (X16 : IR) : IR := (.block 3 X16)
def F188.b15 : IR := F188.g15 F188.b16
def F188.b17 : IR := (.reg [iSm 11, .s (.bin .sub .int aS0 aC1), iQm 11 0])
def F188.g14 (X15 X17 : IR) : IR := (.seq X15 X17)
def F188.b14 : IR := F188.g14 F188.b15 F188.b17
def F188.g13 (X14 : IR) : IR := (.seq (iSr [iSm 11, iQo 17 (.bin .geq .int aS0 aC0)] (.cond aT17 .skip (.exit 2))) X14)
def F188.b13 : IR := F188.g13 F188.b14
def F188.g12 (X13 : IR) : IR := (.loop X13)
def F188.b12 : IR := F188.g12 F188.b13
def F188.g11 (X12 : IR) : IR := (.block 2 X12)
def F188.b11 : IR := F188.g11 F188.b12
def F188.b18 : IR := (iSr [iCa 254 [aT10], iQm 2 0] .ret)
def F188.g10 (X11 X18 : IR) : IR := (.seq (iSr [iSm 6, .s (.len aS0), .s (.bin .sub .int aS0 aC1), iQm 11 0] X11) X18)
def F188.b10 : IR := F188.g10 F188.b11 F188.b18
def F188.g9 (X10 : IR) : IR := (iSr [iWl 10 (.alloc [.nilp, .nils])] (.seq (iSr [iQo 16 (.mv aT3)] (.cond aT16 (.reg [.w .push none (.call (.c (.fn 253 (.of 253) [])) [aT10, (.c (.str [45]))])]) .skip)) X10))
def F188.b9 : IR := F188.g9 F188.b10
def F188.g1 (X2 X9 : IR) : IR := (iSr [.s (.loadN 2 aT1), iCa 249 [aS0], .s (.mv aS0), .s (.ext 0 aS0), .s (.ext 1 aS1), iQm 3 1, iQm 4 0] (iSr [.w .push none (.bslice 1 1 [(.int .u64 0)] [(0, 1, (.c (.int .u64 1000000000000000000)))]), iQm 5 0] (iSr [iQo 6 (.mv (.c .nils))] (.seq X2 X9))))
def F188.b1 : IR := F188.g1 F188.b2 F188.b9
def F188.g0 (X1 : IR) : IR := (iSr [iWl 1 (.box aT0), iQo 2 (.mv (.c (.str [])))] (.seq (iSr [.s (.faddr 1 aT1), .s (.load aS0), iQo 12 (.bin .eql (.nil .sl) aS0 (.c .nils))] (.cond aT12 (iSr [.s (.faddr 0 aT1), .s (.load aS0), iCa 248 [aS0], iQm 2 0] .ret) .skip)) X1))
def F188.b0 : IR := F188.g0 F188.b1
def F188.res : List RV := [.t (.of 2)]
def F188 : Fn := { params := [(.of 0)], res := F188.res, body := F188.b0, init := in18 }
theorem F188.ok : fnA Tryz.prog Tryz.f188 [0, 1, 2, 3, 4, 5, 6, 7, 8, 9, 10, 11, 14, 26, 35, 42, 54, 60] = some F188 := by kernel_rfl
abbrev F192.fr := fr5
def F192.b0 : IR := (iSr [iWl 2 (.box aT0), iWl 3 (.box aT1), iWl 4 (.alloc [(I 0), .nils, (I 0), .nils])] (.seq (.dreg [] [(.s (.loadN 4 aT2), 1, []), (.s (.loadN 4 aT3), 0, []), (iCa 107 [aS0], 0, []), (iCa 114 [aS2, aS0], 0, []), (.w .none none (.store 4 aT4 aS0), 0, [])]) .ret))
def F192.res : List RV := [.cell (.of 4) (some 4)]
def F192 : Fn := { params := [(.of 0), (.of 1)], res := F192.res, body := F192.b0, init := in5 }
theorem F192.ok : fnA Tryz.prog Tryz.f192 [0, 1, 2, 3, 4] = some F192 := by kernel_rfl
abbrev F193.fr := fr6
def F193.b1 : IR := (iSr [.s (.loadN 2 aT1), iCa 249 [aS0], .s (.mv aS0), .s (.ext 0 aS0), .s (.ext 1 aS1), iQm 3 1, iQm 4 0] (iSr [iSm 3, .s (.not aS0), iSm 4, iCa 257 [aS1, aS0], .w .none none (.store 2 aT2 aS0)] .ret))
def F193.g0 (X1 : IR) : IR := (iSr [iWl 1 (.box aT0), iWl 2 (.alloc [(I 0), .nils])] (.seq (iSr [.s (.faddr 1 aT1), .s (.load aS0), .s (.bin .eql (.nil .sl) aS0 (.c .nils)), .s (.mv aS0), iPt 0 (.faddr 0 aT1), iPt 1 (.load aS0), iPt 2 (.bin .neq .int aS0 (.c (I (-9223372036854775808)))), iQo 5 (.pick aS3 aS0 (.c (.bool false)))] (.cond aT5 (iSr [.s (.faddr 0 aT1), .s (.load aS0), .s (.neg aS0), .s (.build [(I 0), .nils] [(0, 1, aS0)]), .w .none none (.store 2 aT2 aS0)] .ret) .skip)) X1))
def F193.b0 : IR := F193.g0 F193.b1
def F193.res : List RV := [.cell (.of 2) (some 2)]
def F193 : Fn := { params := [(.of 0)], res := F193.res, body := F193.b0, init := in6 }
theorem F193.ok : fnA Tryz.prog Tryz.f193 [0, 1, 2, 3, 4, 12] = some F193 := by kernel_rfl
abbrev F194.fr := fr3
def F194.b0 : IR := (iSr [iWl 1 (.box aT0), iQo 2 (.mv aC0)] (iSr [.s (.faddr 0 aT1), .s (.load aS0), .s (.minmax false aC1 [aS0]), .s (.minmax true (.c (I (-1))) [aS0]), iQm 2 0] .ret))
def F194.res : List RV := [.t (.of 2)]
def F194 : Fn := { params := [(.of 0)], res := F194.res, body := F194.b0, init := in3 }
theorem F194.ok : fnA Tryz.prog Tryz.f194 [0, 1, 2] = some F194 := by kernel_rfl
abbrev F195.fr := fr8
def F195.b2 : IR := (iSr [.s (.loadN 2 aT2), .s (.loadN 2 aT3), iCa 258 [aS1, aS0], iWl 5 (.alloc [(I 0), .nils]), .w .none none (.store 2 aT5 aS0)] (.seq (.dreg [] [(.s (.loadN 2 aT2), 0, []), (.s (.loadN 2 aT5), 0, []), (.s (.loadN 2 aT3), 1, []), (.s (.loadN 2 aT5), 1, []), (iCa 259 [aS3, aS2], 0, []), (iCa 259 [aS2, aS1], 0, []), (.s (.build [(I 0), .nils, (I 0), .nils] [(0, 2, aS1), (2, 2, aS0)]), 0, []), (.w .none none (.store 4 aT4 aS0), 0, [])]) .ret))
def F195.g1 (X2 : IR) : IR := (.seq (iSr [.s (.faddr 1 aT3), .s (.load aS0), .s (.bin .eql (.nil .sl) aS0 (.c .nils)), .s (.mv aS0), iPt 0 (.faddr 0 aT3), iPt 1 (.load aS0), iPt 2 (.bin .eql .int aS0 aC1), iQo 7 (.pick aS3 aS0 (.c (.bool false)))] (.cond aT7 (iSr [.s (.loadN 2 aT2), .s (.loadN 2 aT3), .s (.build [(I 0), .nils, (I 0), .nils] [(0, 2, aS1), (2, 2, aS0)]), .w .none none (.store 4 aT4 aS0)] .ret) .skip)) X2)
def F195.b1 : IR := F195.g1 F195.b2
def F195.g0 (X1 : IR) : IR := (iSr [iWl 2 (.box aT0), iWl 3 (.box aT1), iWl 4 (.alloc [(I 0), .nils, (I 0), .nils])] (.seq (iSr [.s (.loadN 2 aT3), iCa 194 [aS0], iQo 6 (.bin .lss .int aS0 aC0)] (.cond aT6 (.dreg [] [(.s (.loadN 2 aT2), 0, []), (.s (.loadN 2 aT3), 1, []), (iCa 193 [aS1], 0, []), (iCa 193 [aS1], 0, []), (.w .none none (.store 2 aT2 aS1), 0, []), (.w .none none (.store 2 aT3 aS0), 0, [])]) .skip)) X1))
def F195.b0 : IR := F195.g0 F195.b1
def F195.res : List RV := [.cell (.of 4) (some 4)]
def F195 : Fn := { params := [(.of 0), (.of 1)], res := F195.res, body := F195.b0, init := in8 }
theorem F195.ok : fnA Tryz.prog Tryz.f195 [0, 1, 2, 3, 4, 5, 8, 20] = some F195 := by kernel_rfl
abbrev F197.fr := fr14
def F197.b3 : IR := (iSr [iSm 6, iSm 8, .s (.bin .eql .bool aS1 aS0), iQm 12 0] (.cond aT12 (iSr [iSm 6, iSm 7, iSm 9, iCa 260 [aS1, aS0], iCa 257 [aS3, aS0], .w .none none (.store 2 aT4 aS0)] .ret) (iSr [iSm 7, iSm 9, iCa 261 [aS1, aS0], .s (.bin .geq .int aS0 aC0), iQm 13 0] (.cond aT13 (iSr [iSm 6, iSm 7, iSm 9, iCa 262 [aS1, aS0], iCa 257 [aS3, aS0], .w .none none (.store 2 aT4 aS0)] .ret) .skip))))
def F197.g2 (X3 : IR) : IR := (.block 0 X3)
def F197.b2 : IR := F197.g2 F197.b3
def F197.b4 : IR := (iSr [iSm 8, iSm 9, iSm 7, iCa 262 [aS1, aS0], iCa 257 [aS3, aS0], .w .none none (.store 2 aT4 aS0)] .ret)
def F197.g1 (X2 X4 : IR) : IR := (iSr [.s (.loadN 2 aT2), iCa 249 [aS0], .s (.mv aS0), .s (.ext 0 aS0), .s (.ext 1 aS1), iQm 6 1, iQm 7 0] (iSr [.s (.loadN 2 aT3), iCa 249 [aS0], .s (.mv aS0), .s (.ext 0 aS0), .s (.ext 1 aS1), iQm 8 1, iQm 9 0] (.seq X2 X4)))
def F197.b1 : IR := F197.g1 F197.b2 F197.b4
def F197.g0 (X1 : IR) : IR := (iSr [iWl 2 (.box aT0), iWl 3 (.box aT1), iWl 4 (.alloc [(I 0), .nils])] (.seq (iSr [.s (.faddr 1 aT2), .s (.load aS0), .s (.bin .eql (.nil .sl) aS0 (.c .nils)), .s (.mv aS0), iPt 0 (.faddr 1 aT3), iPt 1 (.load aS0), iPt 2 (.bin .eql (.nil .sl) aS0 (.c .nils)), iQo 10 (.pick aS3 aS0 (.c (.bool false)))] (.cond aT10 (iSr [.s (.faddr 0 aT2), .s (.load aS0), .s (.faddr 0 aT3), .s (.load aS0), .s (.bin .add .int aS2 aS0), iQm 5 0] (iSr [iSm 5, .s (.faddr 0 aT2), .s (.load aS0), .s (.bin .gtr .int aS2 aS0), .s (.faddr 0 aT3), .s (.load aS0), .s (.bin .gtr .int aS0 aC0), iQo 11 (.bin .eql .bool aS3 aS0)] (.cond aT11 (iSr [iSm 5, .s (.build [(I 0), .nils] [(0, 1, aS0)]), .w .none none (.store 2 aT4 aS0)] .ret) .skip))) .skip)) X1))
def F197.b0 : IR := F197.g0 F197.b1
def F197.res : List RV := [.cell (.of 4) (some 2)]
def F197 : Fn := { params := [(.of 0), (.of 1)], res := F197.res, body := F197.b0, init := in14 }
theorem F197.ok : fnA Tryz.prog Tryz.f197 [0, 1, 2, 3, 4, 5, 6, 7, 8, 9, 17, 30, 43, 52] = some F197 := by kernel_rfl
abbrev F198.fr := fr14
def F198.b1 : IR := (iSr [iSm 6, .s (.conv .i64 aS0), .s (.build [(I 0), .nils] [(0, 1, aS0)]), .w .none none (.store 2 aT4 aS0)] .ret)
def F198.b2 : IR := (iSr [.s (.loadN 2 aT2), iCa 249 [aS0], .s (.mv aS0), .s (.ext 0 aS0), .s (.ext 1 aS1), iQm 7 1, iQm 8 0] (iSr [.s (.loadN 2 aT3), iCa 249 [aS0], .s (.mv aS0), .s (.ext 0 aS0), .s (.ext 1 aS1), iQm 9 1, iQm 10 0] (iSr [iSm 7, iSm 9, .s (.bin .neq .bool aS1 aS0), iSm 8, iSm 10, iCa 265 [aS1, aS0], iCa 257 [aS3, aS0], .w .none none (.store 2 aT4 aS0)] .ret)))
def F198.g0 (X1 X2 : IR) : IR := (iSr [iWl 2 (.box aT0), iWl 3 (.box aT1), iWl 4 (.alloc [(I 0), .nils])] (.seq (iSr [.s (.faddr 1 aT2), .s (.load aS0), .s (.bin .eql (.nil .sl) aS0 (.c .nils)), .s (.mv aS0), iPt 0 (.faddr 1 aT3), iPt 1 (.load aS0), iPt 2 (.bin .eql (.nil .sl) aS0 (.c .nils)), iQo 11 (.pick aS3 aS0 (.c (.bool false)))] (.cond aT11 (.seq (.dreg [] [(.s (.faddr 0 aT2), 0, []), (.s (.load aS0), 0, []), (.s (.faddr 0 aT3), 1, []), (.s (.load aS0), 1, []), (iCa 264 [aS2], 0, []), (iCa 264 [aS1], 0, []), (iCa 263 [aS1, aS0], 0, []), (.s (.mv aS0), 0, []), (.s (.ext 0 aS0), 0, []), (.s (.ext 1 aS1), 0, []), (iQm 5 1, 0, []), (iQm 6 0, 0, [])]) (iSr [iSm 5, .s (.bin .eql .int aS0 (.c (.int .u64 0))), .s (.mv aS0), iPt 0 (.mv aT6), iPt 1 (.bin .leq .int aS0 (.c (.int .u64 9223372036854775807))), iQo 12 (.pick aS2 aS0 (.c (.bool false)))] (.cond aT12 (.seq (iSr [.s (.faddr 0 aT2), .s (.load aS0), .s (.bin .lss .int aS0 aC0), .s (.faddr 0 aT3), .s (.load aS0), .s (.bin .lss .int aS0 aC0), iQo 13 (.bin .neq .bool aS3 aS0)] (.cond aT13 (iSr [iSm 6, .s (.conv .i64 aS0), .s (.neg aS0), .s (.build [(I 0), .nils] [(0, 1, aS0)]), .w .none none (.store 2 aT4 aS0)] .ret) .skip)) X1) .skip))) .skip)) X2))
def F198.b0 : IR := F198.g0 F198.b1 F198.b2
def F198.res : List RV := [.cell (.of 4) (some 2)]
def F198 : Fn := { params := [(.of 0), (.of 1)], res := F198.res, body := F198.b0, init := in14 }
theorem F198.ok : fnA Tryz.prog Tryz.f198 [0, 1, 2, 3, 4, 5, 6, 7, 8, 9, 10, 18, 34, 41] = some F198 := by kernel_rfl
abbrev F199.fr := fr8
def F199.b6 : IR := (iSr [iSm 5, iQm 3 0] (iSr [iSm 1, iSm 0, iSm 3, .s (.iaddr 8 aS1 aS0), .s (.loadN 8 aS0), iWl 7 (.call aS4 [aS0])] (.cond aT7 (iSr [iSm 3, iQm 2 0] .ret) .skip)))
def F199.g5 (X6 : IR) : IR := (.block 1 X6)
def F199.b5 : IR := F199.g5 F199.b6
def F199.b7 : IR := (.reg [.s (.bin .add .int aT5 aC1), iQm 5 0])
def F199.g4 (X5 X7 : IR) : IR := (.seq X5 X7)
def F199.b4 : IR := F199.g4 F199.b5 F199.b7
def F199.g3 (X4 : IR) : IR := (iSr [iQo 6 (.bin .lss .int aT5 aT4)] (.seq (.cond aT6 .skip (.exit 0)) X4))
def F199.b3 : IR := F199.g3 F199.b4
def F199.g2 (X3 : IR) : IR := (.loop X3)
def F199.b2 : IR := F199.g2 F199.b3
def F199.g1 (X2 : IR) : IR := (.block 0 X2)
def F199.b1 : IR := F199.g1 F199.b2
def F199.b8 : IR := (iSr [iQo 2 (.mv (.c (I (-1))))] .ret)
def F199.g0 (X1 X8 : IR) : IR := (iSr [iQo 2 (.mv aC0)] (.seq (iSr [iSm 0, iQo 4 (.len aS0), iQo 5 (.mv aC0)] X1) X8))
def F199.b0 : IR := F199.g0 F199.b1 F199.b8
def F199.res : List RV := [.t (.of 2)]
def F199 : Fn := { params := [(.of 0), (.of 1)], res := F199.res, body := F199.b0, init := in8 }
theorem F199.ok : fnA Tryz.prog Tryz.f199 [0, 1, 4, 5, 7, 8, 9, 16] = some F199 := by kernel_rfl
end
end Go.Ev
