import Derived.Test.YtepfaegpjddehaaGreatDoorIrA
import Derived.Test.YtepfaegpjddehaaGreatDoorEvC
import Derived.Test.YtepfaegpjddehaaGreatDoorProg
import Derived.KernelRfl
set_option linter.unusedSimpArgs false
set_option linter.unusedVariables false
namespace Go.Ev
open Go Go.Proofs
set_option maxRecDepth 100000
noncomputable section

abbrev F74.fr := fr6
def F74.b6 : IR := (.seq (.dreg [] [(iSm 0, 0, []), (iSm 3, 0, []), (.s (.iaddr 1 aS1 aS0), 0, []), (.s (.load aS0), 0, []), (iSm 1, 0, []), (iSm 3, 0, []), (.s (.iaddr 1 aS1 aS0), 0, []), (.s (.load aS0), 0, []), (iQo 5 (.bin .neq .int aS4 aS0), 0, [])]) (.cond aT5 (.seq (.dreg [] [(iSm 0, 0, []), (iSm 3, 0, []), (.s (.iaddr 1 aS1 aS0), 0, []), (.s (.load aS0), 0, []), (iSm 1, 0, []), (iSm 3, 0, []), (.s (.iaddr 1 aS1 aS0), 0, []), (.s (.load aS0), 0, []), (.s (.bin .lss .int aS4 aS0), 0, []), (iQm 2 0, 0, [])]) .ret) .skip))
def F74.g5 (X6 : IR) : IR := (.block 1 X6)
def F74.b5 : IR := F74.g5 F74.b6
def F74.b7 : IR := (.reg [iSm 3, .s (.bin .add .int aS0 aC1), iQm 3 0])
def F74.g4 (X5 X7 : IR) : IR := (.seq X5 X7)
def F74.b4 : IR := F74.g4 F74.b5 F74.b7
def F74.g3 (X4 : IR) : IR := (.seq (iSr [iSm 3, iSm 0, .s (.len aS0), .s (.bin .lss .int aS2 aS0), .s (.mv aS0), iPt 0 (.mv aT3), iPt 1 (.mv aT1), iPt 2 (.len aS0), iPt 3 (.bin .lss .int aS2 aS0), iQo 4 (.pick aS4 aS0 (.c (.bool false)))] (.cond aT4 .skip (.exit 0))) X4)
def F74.b3 : IR := F74.g3 F74.b4
def F74.g2 (X3 : IR) : IR := (.loop X3)
def F74.b2 : IR := F74.g2 F74.b3
def F74.g1 (X2 : IR) : IR := (.block 0 X2)
def F74.b1 : IR := F74.g1 F74.b2
def F74.b8 : IR := (iSr [iSm 0, .s (.len aS0), iSm 1, .s (.len aS0), .s (.bin .lss .int aS2 aS0), iQm 2 0] .ret)
def F74.g0 (X1 X8 : IR) : IR := (iSr [iQo 2 (.mv (.c (.bool false)))] (.seq (iSr [iQo 3 (.mv aC0)] X1) X8))
def F74.b0 : IR := F74.g0 F74.b1 F74.b8
def F74.res : List RV := [.t (.of 2)]
def F74 : Fn := { params := [(.of 0), (.of 1)], res := F74.res, body := F74.b0, init := in6 }
theorem F74.ok : fnA Tryz.prog Tryz.f74 [0, 1, 4, 5, 15, 26] = some F74 := by kernel_rfl
abbrev F75.fr := fr1
def F75.b0 : IR := (iSr [iWl 0 (.alloc [(I 0), .nils])] (iSr [.w .push none (.bslice 1 3 [(I 0)] [(0, 1, aC0), (1, 1, aC1), (2, 1, aC2)]), .w .push none (.bslice 1 3 [(I 0)] [(0, 1, aC3), (1, 1, aC4), (2, 1, aC5)]), .w .push none (.bslice 1 3 [(I 0)] [(0, 1, aC6), (1, 1, aC7), (2, 1, aC8)]), .w .push none (.bslice 1 3 [(I 0)] [(0, 1, aC0), (1, 1, aC3), (2, 1, aC6)]), .w .push none (.bslice 1 3 [(I 0)] [(0, 1, aC1), (1, 1, aC4), (2, 1, aC7)]), .w .push none (.bslice 1 3 [(I 0)] [(0, 1, aC2), (1, 1, aC5), (2, 1, aC8)]), .w .push none (.bslice 1 3 [(I 0)] [(0, 1, aC0), (1, 1, aC4), (2, 1, aC8)]), .w .push none (.bslice 1 3 [(I 0)] [(0, 1, aC2), (1, 1, aC4), (2, 1, aC6)]), .w .push none (.bslice 1 8 [.nils] [(0, 1, aS7), (1, 1, aS6), (2, 1, aS5), (3, 1, aS4), (4, 1, aS3), (5, 1, aS2), (6, 1, aS1), (7, 1, aS0)]), .s (.build [(I 0), .nils] [(0, 1, aC9), (1, 1, aS0)]), .w .none none (.store 2 aT0 aS0)] .ret))
def F75.res : List RV := [.cell (.of 0) (some 2)]
def F75 : Fn := { params := [], res := F75.res, body := F75.b0, init := in1 }
theorem F75.ok : fnA Tryz.prog Tryz.f75 [0] = some F75 := by kernel_rfl
abbrev F76.fr := fr3
def F76.b0 : IR := (iSr [iQo 2 (.mv aC0)] (iSr [iSm 0, .s (.bin .lss .int aS0 aC0), .s (.mv aS0), iPf 0 (.mv aT0), iPf 1 (.bin .gtr .int aS0 aC64), .s (.pick aS2 (.c (.bool true)) aS0), .s (.mv aS0), iPf 0 (.mv aT1), iPf 1 (.bin .lss .int aS0 aC0), .s (.pick aS2 (.c (.bool true)) aS0), .s (.mv aS0), iPf 0 (.mv aT1), iPf 1 (.mv aT0), iPf 2 (.bin .gtr .int aS1 aS0), .s (.pick aS3 (.c (.bool true)) aS0), iCa 82 [aS0, aC3], iQm 2 0] .ret))
def F76.res : List RV := [.t (.of 2)]
def F76 : Fn := { params := [(.of 0), (.of 1)], res := F76.res, body := F76.b0, init := in3 }
theorem F76.ok : fnA Tryz.prog Tryz.f76 [0, 1, 4] = some F76 := by kernel_rfl
abbrev F77.fr := fr17
def F77.b8 : IR := (iSr [.s (.load aT3), iSm 11, .w .push none (.bslice 1 1 [(I 0)] [(0, 1, aS0)]), .w .push none (.app 1 8 aS2 aS0), .w .none none (.store 1 aT3 aS0)] (iSr [.s (.load aT6), iSm 11, .s (.bin .add .int aS0 aC1), iSm 1, iSm 11, .s (.bin .sub .int aS1 aS0), .w .push none (.call aS5 [aS3, aS0]), iQm 12 0] (iSr [.s (.load aT3), .s (.load aT3), .s (.len aS0), .s (.bin .sub .int aS0 aC1), .s (.slice 1 aS3 none (some aS0) none), .w .none none (.store 1 aT3 aS0)] (iSr [iSm 12, iQo 16 (.not aS0)] (.cond aT16 (iSr [iQo 7 (.mv (.c (.bool false)))] .ret) .skip)))))
def F77.g7 (X8 : IR) : IR := (.block 1 X8)
def F77.b7 : IR := F77.g7 F77.b8
def F77.b9 : IR := (.reg [iSm 11, .s (.bin .add .int aS0 aC1), iQm 11 0])
def F77.g6 (X7 X9 : IR) : IR := (.seq X7 X9)
def F77.b6 : IR := F77.g6 F77.b7 F77.b9
def F77.g5 (X6 : IR) : IR := (.seq (iSr [iSm 11, .s (.load aT4), iQo 15 (.bin .leq .int aS1 aS0)] (.cond aT15 .skip (.exit 0))) X6)
def F77.b5 : IR := F77.g5 F77.b6
def F77.g4 (X5 : IR) : IR := (.loop X5)
def F77.b4 : IR := F77.g4 F77.b5
def F77.g3 (X4 : IR) : IR := (.block 0 X4)
def F77.b3 : IR := F77.g3 F77.b4
def F77.b10 : IR := (iSr [iQo 7 (.mv (.c (.bool true)))] .ret)
def F77.g2 (X3 X10 : IR) : IR := (.seq (iSr [iSm 0, iQm 11 0] X3) X10)
def F77.b2 : IR := F77.g2 F77.b3 F77.b10
def F77.g1 (X2 : IR) : IR := (.seq (iSr [iSm 8, iQo 14 (.bin .eql .int aS0 aC0)] (.cond aT14 (.seq (.dreg [] [(.s (.load aT5), 2, []), (.s (.load aT3), 0, []), (iCa 79 [aS0], 0, []), (.w .push none (.bslice 1 1 [.nils] [(0, 1, aS0)]), 0, []), (.w .push none (.app 1 24 aS3 aS0), 0, []), (.w .none none (.store 1 aT5 aS0), 0, [])]) (iSr [.s (.load aT5), .s (.len aS0), .s (.bin .leq .int aS0 aC1024), iQm 7 0] .ret)) .skip)) X2)
def F77.b1 : IR := F77.g1 F77.b2
def F77.g0 (X1 : IR) : IR := (iSr [iQo 7 (.mv (.c (.bool false)))] (iSr [.s (.load aT2), .s (.load aT3), .s (.len aS0), .s (.bin .sub .int aS2 aS0), iQm 8 0] (iSr [iSm 0, .s (.load aT4), iSm 8, iCa 78 [aS2, aS1, aS0], .s (.mv aS0), .s (.ext 0 aS0), .s (.ext 1 aS1), iQm 9 1, iQm 10 0] (.seq (iSr [iSm 8, .s (.load aT4), iSm 0, .s (.bin .sub .int aS1 aS0), .s (.bin .add .int aS0 aC1), .s (.bin .gtr .int aS4 aS0), .s (.mv aS0), iPf 0 (.mv aT1), iPf 1 (.mv aT9), iPf 2 (.bin .lss .int aS1 aS0), .s (.pick aS3 (.c (.bool true)) aS0), .s (.mv aS0), iPf 0 (.mv aT1), iPf 1 (.mv aT10), iPf 2 (.bin .gtr .int aS1 aS0), iQo 13 (.pick aS3 (.c (.bool true)) aS0)] (.cond aT13 (iSr [iQo 7 (.mv (.c (.bool true)))] .ret) .skip)) X1))))
def F77.b0 : IR := F77.g0 F77.b1
def F77.res : List RV := [.t (.of 7)]
def F77 : Fn := { params := [(.of 0), (.of 1), (.of 2), (.of 3), (.of 4), (.of 5), (.of 6)], res := F77.res, body := F77.b0, init := in17 }
theorem F77.ok : fnA Tryz.prog Tryz.f77 [0, 1, 2, 3, 4, 5, 6, 9, 10, 11, 12, 13, 14, 41, 43, 55, 75] = some F77 := by kernel_rfl
abbrev F78.fr := fr5
def F78.b0 : IR := (iSr [iQo 3 (.mv aC0), iQo 4 (.mv aC0)] (iSr [iSm 2, iSm 0, .s (.bin .mul .int aS1 aS0), iSm 2, iSm 2, .s (.bin .sub .int aS0 aC1), .s (.bin .mul .int aS2 aS0), .s (.bin .quo .int aS0 aC2), .s (.bin .add .int aS5 aS0), iSm 2, iSm 1, .s (.bin .mul .int aS1 aS0), iSm 2, iSm 2, .s (.bin .sub .int aS0 aC1), .s (.bin .mul .int aS2 aS0), .s (.bin .quo .int aS0 aC2), .s (.bin .sub .int aS5 aS0), iQm 3 9, iQm 4 0] .ret))
def F78.res : List RV := [.t (.of 3), .t (.of 4)]
def F78 : Fn := { params := [(.of 0), (.of 1), (.of 2)], res := F78.res, body := F78.b0, init := in5 }
theorem F78.ok : fnA Tryz.prog Tryz.f78 [0, 1, 2, 6, 7] = some F78 := by kernel_rfl
abbrev F79.fr := fr3
def F79.b1 : IR := (iSr [.w .push none (.bslice 1 0 [(I 0)] []), iSm 0, .w .push none (.app 1 8 aS1 aS0), iQm 1 0] .ret)
def F79.g0 (X1 : IR) : IR := (iSr [iQo 1 (.mv (.c .nils))] (.seq (iSr [iSm 0, iQo 2 (.bin .eql (.nil .sl) aS0 (.c .nils))] (.cond aT2 (iSr [iQo 1 (.mv (.c .nils))] .ret) .skip)) X1))
def F79.b0 : IR := F79.g0 F79.b1
def F79.res : List RV := [.t (.of 1)]
def F79 : Fn := { params := [(.of 0)], res := F79.res, body := F79.b0, init := in3 }
theorem F79.ok : fnA Tryz.prog Tryz.f79 [0, 2, 4] = some F79 := by kernel_rfl
abbrev F80.fr := fr8
def F80.b6 : IR := (iSr [.s (.iaddr 1 aT3 aT5), .s (.load aS0), iQm 2 0] (iSr [iSm 2, iQo 7 (.bin .neq .int aS0 aC0)] (.cond aT7 (iSr [iSm 2, iQm 1 0] .ret) .skip)))
def F80.g5 (X6 : IR) : IR := (.block 1 X6)
def F80.b5 : IR := F80.g5 F80.b6
def F80.b7 : IR := (.reg [.s (.bin .add .int aT5 aC1), iQm 5 0])
def F80.g4 (X5 X7 : IR) : IR := (.seq X5 X7)
def F80.b4 : IR := F80.g4 F80.b5 F80.b7
def F80.g3 (X4 : IR) : IR := (iSr [iQo 6 (.bin .lss .int aT5 aT4)] (.seq (.cond aT6 .skip (.exit 0)) X4))
def F80.b3 : IR := F80.g3 F80.b4
def F80.g2 (X3 : IR) : IR := (.loop X3)
def F80.b2 : IR := F80.g2 F80.b3
def F80.g1 (X2 : IR) : IR := (.block 0 X2)
def F80.b1 : IR := F80.g1 F80.b2
def F80.b8 : IR := (iSr [iQo 1 (.mv aC0)] .ret)
def F80.g0 (X1 X8 : IR) : IR := (iSr [iQo 1 (.mv aC0)] (.seq (iSr [iQo 3 (.mv aT0), iQo 4 (.len aT3), iQo 5 (.mv aC0)] X1) X8))
def F80.b0 : IR := F80.g0 F80.b1 F80.b8
def F80.res : List RV := [.t (.of 1)]
def F80 : Fn := { params := [(.of 0)], res := F80.res, body := F80.b0, init := in8 }
theorem F80.ok : fnA Tryz.prog Tryz.f80 [0, 2, 4, 5, 6, 7, 8, 12] = some F80 := by kernel_rfl
abbrev F81.fr := fr11
def F81.b7 : IR := (iSr [iSm 8, iQm 4 0] (iSr [.s (.loadN 2 aT1), iSm 4, iCa 124 [aS1, aS0], iQm 5 0] (iSr [iSm 5, iQo 10 (.bin .neq .int aS0 aC0)] (.cond aT10 (iSr [iSm 5, iQm 2 0] .ret) .skip))))
def F81.g6 (X7 : IR) : IR := (.block 1 X7)
def F81.b6 : IR := F81.g6 F81.b7
def F81.b8 : IR := (.reg [.s (.bin .add .int aT8 aC1), iQm 8 0])
def F81.g5 (X6 X8 : IR) : IR := (.seq X6 X8)
def F81.b5 : IR := F81.g5 F81.b6 F81.b8
def F81.g4 (X5 : IR) : IR := (iSr [iQo 9 (.bin .lss .int aT8 aT7)] (.seq (.cond aT9 .skip (.exit 0)) X5))
def F81.b4 : IR := F81.g4 F81.b5
def F81.g3 (X4 : IR) : IR := (.loop X4)
def F81.b3 : IR := F81.g3 F81.b4
def F81.g2 (X3 : IR) : IR := (.block 0 X3)
def F81.b2 : IR := F81.g2 F81.b3
def F81.b9 : IR := (iSr [iQo 2 (.mv aC0)] .ret)
def F81.g1 (X2 X9 : IR) : IR := (.seq (iSr [.s (.faddr 1 aT1), .s (.load aS0), iQo 7 (.len aS0), iQo 8 (.mv aC0)] X2) X9)
def F81.b1 : IR := F81.g1 F81.b2 F81.b9
def F81.g0 (X1 : IR) : IR := (iSr [iWl 1 (.box aT0), iQo 2 (.mv aC0)] (.seq (.seq (.dreg [] [(.s (.faddr 0 aT1), 0, []), (.s (.load aS0), 0, []), (.s (.faddr 1 aT1), 2, []), (.s (.load aS0), 2, []), (.s (.len aS0), 2, []), (.s (.bin .gtr .int aS0 aC128), 2, []), (.w .push none (.bslice 1 1 [(I 0)] [(0, 1, aS4)]), 0, []), (iCa 122 [aC1, aC256, aS0], 0, []), (iCa 123 [aS2, aC5], 0, []), (.w .push none (.bslice 1 2 [(I 0)] [(0, 1, aS1), (1, 1, aS0)]), 0, []), (iCa 121 [aS0], 0, []), (iQm 3 0, 0, [])]) (iSr [iSm 3, iQo 6 (.bin .neq .int aS0 aC0)] (.cond aT6 (iSr [iSm 3, iQm 2 0] .ret) .skip))) X1))
def F81.b0 : IR := F81.g0 F81.b1
def F81.res : List RV := [.t (.of 2)]
def F81 : Fn := { params := [(.of 0)], res := F81.res, body := F81.b0, init := in11 }
theorem F81.ok : fnA Tryz.prog Tryz.f81 [0, 1, 2, 3, 4, 5, 18, 22, 23, 24, 30] = some F81 := by kernel_rfl
abbrev F82.fr := fr4
def F82.b1 : IR := (iSr [iQo 2 (.mv aC0)] .ret)
def F82.g0 (X1 : IR) : IR := (iSr [iQo 2 (.mv aC0)] (.seq (iSr [iQo 3 (.mv aT0)] (.cond aT3 (iSr [iSm 1, iQm 2 0] .ret) .skip)) X1))
def F82.b0 : IR := F82.g0 F82.b1
def F82.res : List RV := [.t (.of 2)]
def F82 : Fn := { params := [(.of 0), (.of 1)], res := F82.res, body := F82.b0, init := in4 }
theorem F82.ok : fnA Tryz.prog Tryz.f82 [0, 1, 4, 5] = some F82 := by kernel_rfl
abbrev F83.fr := fr14
def F83.b6 : IR := (iSr [iSm 12, .s (.iaddr 1 aT10 aT12), .s (.load aS0), iQm 7 2, iQm 8 0] (iSr [iSm 6, iSm 8, iSm 7, .s (.bin .add .int aS0 aC1), .s (.bin .mul .int aS2 aS0), .s (.bin .add .int aS4 aS0), iQm 6 0] (.reg [iSm 5, iSm 8, iSm 4, .s (.len aS0), iSm 7, .s (.bin .sub .int aS1 aS0), .s (.bin .mul .int aS4 aS0), .s (.bin .add .int aS6 aS0), iQm 5 0])))
def F83.g5 (X6 : IR) : IR := (.block 1 X6)
def F83.b5 : IR := F83.g5 F83.b6
def F83.b7 : IR := (.reg [.s (.bin .add .int aT12 aC1), iQm 12 0])
def F83.g4 (X5 X7 : IR) : IR := (.seq X5 X7)
def F83.b4 : IR := F83.g4 F83.b5 F83.b7
def F83.g3 (X4 : IR) : IR := (iSr [iQo 13 (.bin .lss .int aT12 aT11)] (.seq (.cond aT13 .skip (.exit 0)) X4))
def F83.b3 : IR := F83.g3 F83.b4
def F83.g2 (X3 : IR) : IR := (.loop X3)
def F83.b2 : IR := F83.g2 F83.b3
def F83.g1 (X2 : IR) : IR := (.block 0 X2)
def F83.b1 : IR := F83.g1 F83.b2
def F83.b8 : IR := (iSr [.s (.faddr 1 aT1), .s (.load aS0), .s (.len aS0), iQm 9 0] (.seq (.dreg [] [(iSm 5, 0, []), (iSm 9, 0, []), (.s (.bin .add .int aS1 aS0), 0, []), (.s (.bin .sub .int aS0 aC1), 0, []), (iSm 9, 0, []), (.s (.bin .quo .int aS1 aS0), 0, []), (iSm 6, 0, []), (iSm 9, 0, []), (.s (.bin .quo .int aS1 aS0), 0, []), (iQm 2 3, 0, []), (iQm 3 0, 0, [])]) .ret))
def F83.g0 (X1 X8 : IR) : IR := (iSr [iWl 1 (.box aT0), iQo 2 (.mv aC0), iQo 3 (.mv aC0)] (iSr [.s (.loadN 2 aT1), iCa 95 [aS0], iCa 126 [aS0], iCa 125 [aS0], iQm 4 0] (iSr [iQo 5 (.mv aC0), iQo 6 (.mv aC0)] (.seq (iSr [iQo 10 (.mv aT4), iQo 11 (.len aT10), iQo 12 (.mv aC0)] X1) X8))))
def F83.b0 : IR := F83.g0 F83.b1 F83.b8
def F83.res : List RV := [.t (.of 2), .t (.of 3)]
def F83 : Fn := { params := [(.of 0)], res := F83.res, body := F83.b0, init := in14 }
theorem F83.ok : fnA Tryz.prog Tryz.f83 [0, 1, 2, 3, 4, 5, 6, 7, 8, 9, 14, 15, 16, 17] = some F83 := by kernel_rfl
abbrev F84.fr := fr6
def F84.b6 : IR := (iSr [iSm 0, iSm 3, .s (.iaddr 1 aS1 aS0), .s (.load aS0), iSm 1, iWl 5 (.call (.c (.fn 35 (.of 35) [])) [aS1, aS0])] (.cond aT5 (iSr [iQo 2 (.mv (.c (.bool true)))] .ret) .skip))
def F84.g5 (X6 : IR) : IR := (.block 1 X6)
def F84.b5 : IR := F84.g5 F84.b6
def F84.b7 : IR := (.reg [iSm 3, .s (.bin .add .int aS0 aC1), iQm 3 0])
def F84.g4 (X5 X7 : IR) : IR := (.seq X5 X7)
def F84.b4 : IR := F84.g4 F84.b5 F84.b7
def F84.g3 (X4 : IR) : IR := (.seq (iSr [iSm 3, iSm 0, .s (.len aS0), iQo 4 (.bin .lss .int aS2 aS0)] (.cond aT4 .skip (.exit 0))) X4)
def F84.b3 : IR := F84.g3 F84.b4
def F84.g2 (X3 : IR) : IR := (.loop X3)
def F84.b2 : IR := F84.g2 F84.b3
def F84.g1 (X2 : IR) : IR := (.block 0 X2)
def F84.b1 : IR := F84.g1 F84.b2
def F84.b8 : IR := (iSr [iQo 2 (.mv (.c (.bool false)))] .ret)
def F84.g0 (X1 X8 : IR) : IR := (iSr [iQo 2 (.mv (.c (.bool false)))] (.seq (iSr [iQo 3 (.mv aC0)] X1) X8))
def F84.b0 : IR := F84.g0 F84.b1 F84.b8
def F84.res : List RV := [.t (.of 2)]
def F84 : Fn := { params := [(.of 0), (.of 1)], res := F84.res, body := F84.b0, init := in6 }
theorem F84.ok : fnA Tryz.prog Tryz.f84 [0, 1, 4, 5, 9, 17] = some F84 := by kernel_rfl
abbrev F87.fr := fr4
def F87.b0 : IR := (iSr [iWl 2 (.box aT0), iQo 3 (.mv aC0)] (.seq (.dreg [] [(.s (.loadN 2 aT2), 0, []), (.s (.faddr 0 aT2), 1, []), (.s (.load aS0), 1, []), (.s (.bin .gtr .int aS0 aC16), 1, []), (iSm 1, 2, []), (.s (.bin .lss .int aS0 aC0), 2, []), (iCa 81 [aS5], 0, []), (iCa 82 [aS3, aC20], 0, []), (.s (.mv aS2), 0, []), (iPf 0 (.mv aT1), 0, []), (iPf 1 (.bin .gtr .int aS0 aC9), 0, []), (.s (.pick aS2 (.c (.bool true)) aS0), 0, []), (iCa 82 [aS0, aC3], 0, []), (.w .push none (.bslice 1 3 [(I 0)] [(0, 1, aS6), (1, 1, aS5), (2, 1, aS0)]), 0, []), (iCa 80 [aS0], 0, []), (iQm 3 0, 0, [])]) .ret))
def F87.res : List RV := [.t (.of 3)]
def F87 : Fn := { params := [(.of 0), (.of 1)], res := F87.res, body := F87.b0, init := in4 }
theorem F87.ok : fnA Tryz.prog Tryz.f87 [0, 1, 2, 4] = some F87 := by kernel_rfl
abbrev F88.fr := fr8
def F88.b6 : IR := (iSr [iSm 3, iSm 1, .s (.bin .add .int aS0 aC1), .s (.bin .mul .int aS2 aS0), iQm 3 0] (iSr [iSm 3, iQo 7 (.bin .gtr .int aS0 aC100000)] (.cond aT7 (iSr [iQo 2 (.mv (.c (.bool true)))] .ret) .skip)))
def F88.g5 (X6 : IR) : IR := (.block 1 X6)
def F88.b5 : IR := F88.g5 F88.b6
def F88.b7 : IR := (.reg [.s (.bin .add .int aT5 aC1), iQm 5 0])
def F88.g4 (X5 X7 : IR) : IR := (.seq X5 X7)
def F88.b4 : IR := F88.g4 F88.b5 F88.b7
def F88.g3 (X4 : IR) : IR := (iSr [iQo 6 (.bin .lss .int aT5 aT4)] (.seq (.cond aT6 .skip (.exit 0)) X4))
def F88.b3 : IR := F88.g3 F88.b4
def F88.g2 (X3 : IR) : IR := (.loop X3)
def F88.b2 : IR := F88.g2 F88.b3
def F88.g1 (X2 : IR) : IR := (.block 0 X2)
def F88.b1 : IR := F88.g1 F88.b2
def F88.b8 : IR := (iSr [iQo 2 (.mv (.c (.bool false)))] .ret)
def F88.g0 (X1 X8 : IR) : IR := (iSr [iQo 2 (.mv (.c (.bool false)))] (iSr [iQo 3 (.mv aC1)] (.seq (iSr [iQo 4 (.mv aT0), iQo 5 (.mv aC0)] X1) X8)))
def F88.b0 : IR := F88.g0 F88.b1 F88.b8
def F88.res : List RV := [.t (.of 2)]
def F88 : Fn := { params := [(.of 0), (.of 1)], res := F88.res, body := F88.b0, init := in8 }
theorem F88.ok : fnA Tryz.prog Tryz.f88 [0, 1, 4, 5, 6, 7, 8, 14] = some F88 := by kernel_rfl
abbrev F89.fr := fr34
def F89.b12 : IR := (iSr [.s (.iaddr 1 aT22 aT24), .s (.load aS0), iQm 9 0] (.reg [iSm 6, iSm 9, iSm 6, iSm 9, .s (.iaddr 1 aS1 aS0), .s (.load aS0), iSm 7, .w .push none (.bslice 1 1 [(I 0)] [(0, 1, aS0)]), .w .push none (.app 1 8 aS2 aS0), .s (.iaddr 1 aS8 aS7), .w .none none (.store 1 aS0 aS1)]))
def F89.g11 (X12 : IR) : IR := (.block 3 X12)
def F89.b11 : IR := F89.g11 F89.b12
def F89.b13 : IR := (.reg [.s (.bin .add .int aT24 aC1), iQm 24 0])
def F89.g10 (X11 X13 : IR) : IR := (.seq X11 X13)
def F89.b10 : IR := F89.g10 F89.b11 F89.b13
def F89.g9 (X10 : IR) : IR := (iSr [iQo 25 (.bin .lss .int aT24 aT23)] (.seq (.cond aT25 .skip (.exit 2)) X10))
def F89.b9 : IR := F89.g9 F89.b10
def F89.g8 (X9 : IR) : IR := (.loop X9)
def F89.b8 : IR := F89.g8 F89.b9
def F89.g7 (X8 : IR) : IR := (.block 2 X8)
def F89.b7 : IR := F89.g7 F89.b8
def F89.g6 (X7 : IR) : IR := (iSr [iSm 20, .s (.iaddr 1 aT18 aT20), .s (.load aS0), iQm 7 2, iQm 8 0] (iSr [iQo 22 (.mv aT8), iQo 23 (.len aT22), iQo 24 (.mv aC0)] X7))
def F89.b6 : IR := F89.g6 F89.b7
def F89.g5 (X6 : IR) : IR := (.block 1 X6)
def F89.b5 : IR := F89.g5 F89.b6
def F89.b14 : IR := (.reg [.s (.bin .add .int aT20 aC1), iQm 20 0])
def F89.g4 (X5 X14 : IR) : IR := (.seq X5 X14)
def F89.b4 : IR := F89.g4 F89.b5 F89.b14
def F89.g3 (X4 : IR) : IR := (iSr [iQo 21 (.bin .lss .int aT20 aT19)] (.seq (.cond aT21 .skip (.exit 0)) X4))
def F89.b3 : IR := F89.g3 F89.b4
def F89.g2 (X3 : IR) : IR := (.loop X3)
def F89.b2 : IR := F89.g2 F89.b3
def F89.g1 (X2 : IR) : IR := (.block 0 X2)
def F89.b1 : IR := F89.g1 F89.b2
def F89.b38 : IR := (iSr [.s (.iaddr 1 aT30 aT32), .s (.load aS0), iQm 17 0] (.reg [iSm 17, .s (.aaddr 1 128 aT16 aS0), .s (.load aS0), iSm 15, .s (.conv .u8 aS0), .s (.bin .add .int aS2 aS0), .s (.aaddr 1 128 aT16 aS5), .w .none none (.store 1 aS0 aS1)]))
def F89.g37 (X38 : IR) : IR := (.block 11 X38)
def F89.b37 : IR := F89.g37 F89.b38
def F89.b39 : IR := (.reg [.s (.bin .add .int aT32 aC1), iQm 32 0])
def F89.g36 (X37 X39 : IR) : IR := (.seq X37 X39)
def F89.b36 : IR := F89.g36 F89.b37 F89.b39
def F89.g35 (X36 : IR) : IR := (iSr [iQo 33 (.bin .lss .int aT32 aT31)] (.seq (.cond aT33 .skip (.exit 10)) X36))
def F89.b35 : IR := F89.g35 F89.b36
def F89.g34 (X35 : IR) : IR := (.loop X35)
def F89.b34 : IR := F89.g34 F89.b35
def F89.g33 (X34 : IR) : IR := (.block 10 X34)
def F89.b33 : IR := F89.g33 F89.b34
def F89.b40 : IR := (.dreg [] [(iSm 12, 0, []), (.s (.loadN 128 aT16), 0, []), (.s (.look (.agg 128) (I 0) false aS1 aS0), 1, []), (iSm 14, 0, []), (.s (.bin .add .int aS1 aS0), 1, []), (.w .push none (.mapent (.agg 128) (I 0) aS4 aS3), 0, []), (.s (.ext 1 aS0), 0, []), (.w .none none (.entst aS6 aS0 aS2), 0, [])])
def F89.g32 (X33 X40 : IR) : IR := (iSr [.s (.loadN 128 aT13), iWl 16 (.alloc zU), .w .none none (.store 128 aT16 aS0)] (.seq (iSr [iSm 6, iSm 11, .s (.iaddr 1 aS1 aS0), iQo 30 (.load aS0), iQo 31 (.len aT30), iQo 32 (.mv aC0)] X33) X40))
def F89.b32 : IR := F89.g32 F89.b33 F89.b40
def F89.g31 (X32 : IR) : IR := (.block 9 X32)
def F89.b31 : IR := F89.g31 F89.b32
def F89.b41 : IR := (.reg [iSm 15, .s (.bin .add .int aS0 aC1), iQm 15 0])
def F89.g30 (X31 X41 : IR) : IR := (.seq X31 X41)
def F89.b30 : IR := F89.g30 F89.b31 F89.b41
def F89.g29 (X30 : IR) : IR := (.seq (iSr [iSm 15, iSm 3, iQo 29 (.bin .leq .int aS1 aS0)] (.cond aT29 .skip (.exit 8))) X30)
def F89.b29 : IR := F89.g29 F89.b30
def F89.g28 (X29 : IR) : IR := (.loop X29)
def F89.b28 : IR := F89.g28 F89.b29
def F89.g27 (X28 : IR) : IR := (.block 8 X28)
def F89.b27 : IR := F89.g27 F89.b28
def F89.g26 (X27 : IR) : IR := (iSr [.s (.entry aT27), .s (.ext 0 aS0), .s (.ext 1 aS1), iWl 13 (.alloc zU), .w .none none (.store 128 aT13 aS1), iQm 14 0] (iSr [iQo 15 (.mv aC0)] X27))
def F89.b26 : IR := F89.g26 F89.b27
def F89.g25 (X26 : IR) : IR := (.block 7 X26)
def F89.b25 : IR := F89.g25 F89.b26
def F89.g24 (X25 : IR) : IR := (iSr [.w .push none (.next aT27), iQo 28 (.ext 0 aS0)] (.seq (.cond aT28 .skip (.exit 6)) X25))
def F89.b24 : IR := F89.g24 F89.b25
def F89.g23 (X24 : IR) : IR := (.loop X24)
def F89.b23 : IR := F89.g23 F89.b24
def F89.g22 (X23 : IR) : IR := (.block 6 X23)
def F89.b22 : IR := F89.g22 F89.b23
def F89.b42 : IR := (.reg [iSm 12, iQm 10 0])
def F89.g21 (X22 X42 : IR) : IR := (iSr [.w .push none .mkmap, iQm 12 0] (.seq (iSr [iSm 10, iWl 27 (.range aS0)] X22) X42))
def F89.b21 : IR := F89.g21 F89.b22 F89.b42
def F89.g20 (X21 : IR) : IR := (.block 5 X21)
def F89.b20 : IR := F89.g20 F89.b21
def F89.b43 : IR := (.reg [iSm 11, .s (.bin .add .int aS0 aC1), iQm 11 0])
def F89.g19 (X20 X43 : IR) : IR := (.seq X20 X43)
def F89.b19 : IR := F89.g19 F89.b20 F89.b43
def F89.g18 (X19 : IR) : IR := (.seq (iSr [iSm 11, iSm 2, iQo 26 (.bin .lss .int aS1 aS0)] (.cond aT26 .skip (.exit 4))) X19)
def F89.b18 : IR := F89.g18 F89.b19
def F89.g17 (X18 : IR) : IR := (.loop X18)
def F89.b17 : IR := F89.g17 F89.b18
def F89.g16 (X17 : IR) : IR := (.block 4 X17)
def F89.b16 : IR := F89.g16 F89.b17
def F89.b44 : IR := (iSr [iSm 10, iQm 5 0] .ret)
def F89.g15 (X16 X44 : IR) : IR := (iSr [.w .push none .mkmap, .s (.build zU []), .w .none none (.mapup (.agg 128) aS1 aS0 aC1), .s (.mv aS1), iQm 10 0] (.seq (iSr [iSm 1, iQm 11 0] X16) X44))
def F89.b15 : IR := F89.g15 F89.b16 F89.b44
def F89.g0 (X1 X15 : IR) : IR := (iSr [iWl 4 (.box aT0), iQo 5 (.mv (.c .nilm))] (iSr [.s (.faddr 0 aT4), .s (.load aS0), .w .push none (.mkslice 1 24 [.nils] aS0 aS0), iQm 6 0] (.seq (iSr [.s (.faddr 1 aT4), iQo 18 (.load aS0), iQo 19 (.len aT18), iQo 20 (.mv aC0)] X1) X15)))
def F89.b0 : IR := F89.g0 F89.b1 F89.b15
def F89.res : List RV := [.t (.of 5)]
def F89 : Fn := { params := [(.of 0), (.of 1), (.of 2), (.of 3)], res := F89.res, body := F89.b0, init := in34 }
theorem F89.ok : fnA Tryz.prog Tryz.f89 [0, 1, 2, 3, 4, 8, 9, 10, 11, 13, 14, 15, 16, 17, 18, 19, 20, 22, 27, 28, 29, 30, 34, 35, 36, 37, 58, 63, 65, 71, 78, 79, 80, 81] = some F89 := by kernel_rfl
abbrev F91.fr := fr3
def F91.b0 : IR := (iSr [iSm 0, .s (.len aS0), iQm 2 0] (.reg [iSm 0, iSm 2, iSm 2, .s (.conv .u64 aS0), iCa 129 [aS0], iSm 1, iCa 128 [aS5, aC0, aS4, aS1, aS0]]))
def F91.res : List RV := []
def F91 : Fn := { params := [(.of 0), (.of 1)], res := F91.res, body := F91.b0, init := in3 }
theorem F91.ok : fnA Tryz.prog Tryz.f91 [0, 1, 4] = some F91 := by kernel_rfl
abbrev F92.fr := fr14
def F92.b7 : IR := (iSr [iSm 1, iSm 3, .s (.iaddr 1 aS1 aS0), .s (.load aS0), iQm 5 0] (iSr [iSm 4, iSm 5, iCa 130 [aS1, aS0], iQm 6 0] (iSr [iSm 6, iQo 12 (.bin .neq .int aS0 aC0)] (.cond aT12 (iSr [iSm 6, iQm 2 0] .ret) .skip))))
def F92.g6 (X7 : IR) : IR := (iSr [iSm 9, .s (.iaddr 1 aT7 aT9), .s (.load aS0), iQm 3 2, iQm 4 0] (.seq (iSr [iSm 3, iSm 1, .s (.len aS0), iQo 11 (.bin .geq .int aS2 aS0)] (.cond aT11 (iSr [iQo 2 (.mv aC1)] .ret) .skip)) X7))
def F92.b6 : IR := F92.g6 F92.b7
def F92.g5 (X6 : IR) : IR := (.block 1 X6)
def F92.b5 : IR := F92.g5 F92.b6
def F92.b8 : IR := (.reg [.s (.bin .add .int aT9 aC1), iQm 9 0])
def F92.g4 (X5 X8 : IR) : IR := (.seq X5 X8)
def F92.b4 : IR := F92.g4 F92.b5 F92.b8
def F92.g3 (X4 : IR) : IR := (iSr [iQo 10 (.bin .lss .int aT9 aT8)] (.seq (.cond aT10 .skip (.exit 0)) X4))
def F92.b3 : IR := F92.g3 F92.b4
def F92.g2 (X3 : IR) : IR := (.loop X3)
def F92.b2 : IR := F92.g2 F92.b3
def F92.g1 (X2 : IR) : IR := (.block 0 X2)
def F92.b1 : IR := F92.g1 F92.b2
def F92.b10 : IR := (iSr [iQo 2 (.mv aC0)] .ret)
def F92.g9 (X10 : IR) : IR := (.seq (iSr [iSm 0, .s (.len aS0), iSm 1, .s (.len aS0), iQo 13 (.bin .lss .int aS2 aS0)] (.cond aT13 (iSr [iQo 2 (.mv (.c (I (-1))))] .ret) .skip)) X10)
def F92.b9 : IR := F92.g9 F92.b10
def F92.g0 (X1 X9 : IR) : IR := (iSr [iQo 2 (.mv aC0)] (.seq (iSr [iQo 7 (.mv aT0), iQo 8 (.len aT7), iQo 9 (.mv aC0)] X1) X9))
def F92.b0 : IR := F92.g0 F92.b1 F92.b9
def F92.res : List RV := [.t (.of 2)]
def F92 : Fn := { params := [(.of 0), (.of 1)], res := F92.res, body := F92.b0, init := in14 }
theorem F92.ok : fnA Tryz.prog Tryz.f92 [0, 1, 4, 5, 6, 7, 8, 9, 10, 11, 12, 19, 28, 35] = some F92 := by kernel_rfl
abbrev F94.fr := fr2
def F94.b0 : IR := (iSr [iQo 1 (.mv (.c (.bool false)))] (iSr [iSm 0, .w .push none (.call (.c (.fn 131 (.of 131) [])) [aS0, (.c (.fn 132 (.of 132) []))]), iQm 1 0] .ret))
def F94.res : List RV := [.t (.of 1)]
def F94 : Fn := { params := [(.of 0)], res := F94.res, body := F94.b0, init := in2 }
theorem F94.ok : fnA Tryz.prog Tryz.f94 [0, 2] = some F94 := by kernel_rfl
abbrev F95.fr := fr14
def F95.b12 : IR := (iSr [.s (.iaddr 1 aT10 aT12), .s (.load aS0), iQm 5 0] (.reg [iSm 3, iSm 5, .s (.iaddr 1 aS1 aS0), .s (.load aS0), .s (.bin .add .int aS0 aC1), .s (.iaddr 1 aS4 aS3), .w .none none (.store 1 aS0 aS1)]))
def F95.g11 (X12 : IR) : IR := (.block 3 X12)
def F95.b11 : IR := F95.g11 F95.b12
def F95.b13 : IR := (.reg [.s (.bin .add .int aT12 aC1), iQm 12 0])
def F95.g10 (X11 X13 : IR) : IR := (.seq X11 X13)
def F95.b10 : IR := F95.g10 F95.b11 F95.b13
def F95.g9 (X10 : IR) : IR := (iSr [iQo 13 (.bin .lss .int aT12 aT11)] (.seq (.cond aT13 .skip (.exit 2)) X10))
def F95.b9 : IR := F95.g9 F95.b10
def F95.g8 (X9 : IR) : IR := (.loop X9)
def F95.b8 : IR := F95.g8 F95.b9
def F95.g7 (X8 : IR) : IR := (.block 2 X8)
def F95.b7 : IR := F95.g7 F95.b8
def F95.g6 (X7 : IR) : IR := (iSr [.s (.iaddr 1 aT6 aT8), .s (.load aS0), iQm 4 0] (iSr [iQo 10 (.mv aT4), iQo 11 (.len aT10), iQo 12 (.mv aC0)] X7))
def F95.b6 : IR := F95.g6 F95.b7
def F95.g5 (X6 : IR) : IR := (.block 1 X6)
def F95.b5 : IR := F95.g5 F95.b6
def F95.b14 : IR := (.reg [.s (.bin .add .int aT8 aC1), iQm 8 0])
def F95.g4 (X5 X14 : IR) : IR := (.seq X5 X14)
def F95.b4 : IR := F95.g4 F95.b5 F95.b14
def F95.g3 (X4 : IR) : IR := (iSr [iQo 9 (.bin .lss .int aT8 aT7)] (.seq (.cond aT9 .skip (.exit 0)) X4))
def F95.b3 : IR := F95.g3 F95.b4
def F95.g2 (X3 : IR) : IR := (.loop X3)
def F95.b2 : IR := F95.g2 F95.b3
def F95.g1 (X2 : IR) : IR := (.block 0 X2)
def F95.b1 : IR := F95.g1 F95.b2
def F95.b15 : IR := (iSr [iSm 3, iQm 2 0] .ret)
def F95.g0 (X1 X15 : IR) : IR := (iSr [iWl 1 (.box aT0), iQo 2 (.mv (.c .nils))] (iSr [.s (.faddr 0 aT1), .s (.load aS0), .w .push none (.mkslice 1 8 [(I 0)] aS0 aS0), iQm 3 0] (.seq (iSr [.s (.faddr 1 aT1), iQo 6 (.load aS0), iQo 7 (.len aT6), iQo 8 (.mv aC0)] X1) X15)))
def F95.b0 : IR := F95.g0 F95.b1 F95.b15
def F95.res : List RV := [.t (.of 2)]
def F95 : Fn := { params := [(.of 0)], res := F95.res, body := F95.b0, init := in14 }
theorem F95.ok : fnA Tryz.prog Tryz.f95 [0, 1, 2, 3, 5, 7, 12, 13, 14, 15, 18, 19, 20, 21] = some F95 := by kernel_rfl
abbrev F96.fr := fr4
def F96.b6 : IR := (.dreg [] [(iSm 0, 0, []), (iSm 1, 0, []), (iSm 0, 1, []), (iSm 2, 1, []), (iSm 0, 0, []), (iSm 2, 0, []), (.s (.iaddr 1 aS1 aS0), 0, []), (.s (.load aS0), 0, []), (iSm 0, 0, []), (iSm 1, 0, []), (.s (.iaddr 1 aS1 aS0), 0, []), (.s (.load aS0), 0, []), (.s (.iaddr 1 aS11 aS10), 0, []), (.w .none none (.store 1 aS0 aS5), 0, []), (.s (.iaddr 1 aS10 aS9), 0, []), (.w .none none (.store 1 aS0 aS2), 0, [])])
def F96.g5 (X6 : IR) : IR := (.block 1 X6)
def F96.b5 : IR := F96.g5 F96.b6
def F96.b7 : IR := (.reg [iSm 1, .s (.bin .add .int aS0 aC1), iSm 2, .s (.bin .sub .int aS0 aC1), iQm 1 2, iQm 2 0])
def F96.g4 (X5 X7 : IR) : IR := (.seq X5 X7)
def F96.b4 : IR := F96.g4 F96.b5 F96.b7
def F96.g3 (X4 : IR) : IR := (.seq (iSr [iSm 1, iSm 2, iQo 3 (.bin .lss .int aS1 aS0)] (.cond aT3 .skip (.exit 0))) X4)
def F96.b3 : IR := F96.g3 F96.b4
def F96.g2 (X3 : IR) : IR := (.loop X3)
def F96.b2 : IR := F96.g2 F96.b3
def F96.g1 (X2 : IR) : IR := (.block 0 X2)
def F96.b1 : IR := F96.g1 F96.b2
def F96.g0 (X1 : IR) : IR := (iSr [iSm 0, .s (.len aS0), .s (.bin .sub .int aS0 aC1), iQo 1 (.mv aC0), iQm 2 0] X1)
def F96.b0 : IR := F96.g0 F96.b1
def F96.res : List RV := []
def F96 : Fn := { params := [(.of 0)], res := F96.res, body := F96.b0, init := in4 }
theorem F96.ok : fnA Tryz.prog Tryz.f96 [0, 2, 3, 9] = some F96 := by kernel_rfl
abbrev F97.fr := fr8
def F97.b7 : IR := (iSr [iSm 1, iSm 0, iSm 4, .s (.iaddr 1 aS1 aS0), .s (.load aS0), iSm 3, .w .push none (.call aS5 [aS1, aS0]), iQo 7 (.bin .lss .int aS0 aC0)] (.cond aT7 (.reg [iSm 0, iSm 4, .s (.iaddr 1 aS1 aS0), .s (.load aS0), iQm 3 0]) .skip))
def F97.g6 (X7 : IR) : IR := (.block 1 X7)
def F97.b6 : IR := F97.g6 F97.b7
def F97.b8 : IR := (.reg [iSm 4, .s (.bin .add .int aS0 aC1), iQm 4 0])
def F97.g5 (X6 X8 : IR) : IR := (.seq X6 X8)
def F97.b5 : IR := F97.g5 F97.b6 F97.b8
def F97.g4 (X5 : IR) : IR := (.seq (iSr [iSm 4, iSm 0, .s (.len aS0), iQo 6 (.bin .lss .int aS2 aS0)] (.cond aT6 .skip (.exit 0))) X5)
def F97.b4 : IR := F97.g4 F97.b5
def F97.g3 (X4 : IR) : IR := (.loop X4)
def F97.b3 : IR := F97.g3 F97.b4
def F97.g2 (X3 : IR) : IR := (.block 0 X3)
def F97.b2 : IR := F97.g2 F97.b3
def F97.b9 : IR := (iSr [iSm 3, iQm 2 0] .ret)
def F97.g1 (X2 X9 : IR) : IR := (iSr [iSm 0, .s (.iaddr 1 aS0 aC0), .s (.load aS0), iQm 3 0] (.seq (iSr [iQo 4 (.mv aC1)] X2) X9))
def F97.b1 : IR := F97.g1 F97.b2 F97.b9
def F97.g0 (X1 : IR) : IR := (iSr [iQo 2 (.mv (.c .nils))] (.seq (iSr [iSm 0, .s (.len aS0), iQo 5 (.bin .lss .int aS0 aC1)] (.cond aT5 (.bad 2) .skip)) X1))
def F97.b0 : IR := F97.g0 F97.b1
def F97.res : List RV := [.t (.of 2)]
def F97 : Fn := { params := [(.of 0), (.of 1)], res := F97.res, body := F97.b0, init := in8 }
theorem F97.ok : fnA Tryz.prog Tryz.f97 [0, 1, 4, 5, 6, 9, 17, 27] = some F97 := by kernel_rfl
abbrev F98.fr := fr3
def F98.b0 : IR := (iSr [iWl 1 (.box aT0), iQo 2 (.mv aC0)] (.seq (.dreg [] [(.s (.loadN 2 aT1), 0, []), (.s (.faddr 1 aT1), 1, []), (.s (.load aS0), 1, []), (.s (.len aS0), 1, []), (.s (.bin .gtr .int aS0 aC8), 1, []), (iCa 133 [aS4], 0, []), (iCa 82 [aS1, aC20], 0, []), (.w .push none (.bslice 1 2 [(I 0)] [(0, 1, aS1), (1, 1, aS0)]), 0, []), (iCa 80 [aS0], 0, []), (iQm 2 0, 0, [])]) .ret))
def F98.res : List RV := [.t (.of 2)]
def F98 : Fn := { params := [(.of 0)], res := F98.res, body := F98.b0, init := in3 }
theorem F98.ok : fnA Tryz.prog Tryz.f98 [0, 1, 2] = some F98 := by kernel_rfl
abbrev F99.fr := fr8
def F99.b0 : IR := (iSr [iWl 2 (.box aT0), iWl 3 (.box aT1)] (iSr [.s (.faddr 1 aT2), .s (.load aS0), .s (.len aS0), .w .push none (.mkslice 1 8 [(I 0)] aS0 aS0), iWl 4 (.alloc [.nils]), .w .none none (.store 1 aT4 aS0)] (iSr [.s (.faddr 0 aT2), .s (.load aS0), .w .push none (.mkslice 1 8 [(I 0)] aS0 aS0), iWl 5 (.alloc [.nils]), .w .none none (.store 1 aT5 aS0)] (iSr [iWl 6 (.alloc [(.int .u64 0)])] (iSr [iWl 7 (.alloc [.nilf])] (iSr [.s (.fn 134 (.of 134) [aT4, aT5, aT2, aT3, aT6, aT7]), .w .none none (.store 1 aT7 aS0)] (.reg [.s (.load aT7), .w .push none (.call aS0 [aC0])])))))))
def F99.res : List RV := []
def F99 : Fn := { params := [(.of 0), (.of 1)], res := F99.res, body := F99.b0, init := in8 }
theorem F99.ok : fnA Tryz.prog Tryz.f99 [0, 1, 2, 3, 4, 5, 6, 7] = some F99 := by kernel_rfl
abbrev F100.fr := fr3
def F100.b0 : IR := (iSr [iQo 2 (.mv (.c (.bool false)))] (iSr [.s (.load aT1), .s (.bin .add .int aS0 aC1), .w .none none (.store 1 aT1 aS0)] (iSr [iQo 2 (.mv (.c (.bool true)))] .ret)))
def F100.res : List RV := [.t (.of 2)]
def F100 : Fn := { params := [(.of 0), (.of 1)], res := F100.res, body := F100.b0, init := in3 }
theorem F100.ok : fnA Tryz.prog Tryz.f100 [0, 1, 3] = some F100 := by kernel_rfl
abbrev F101.fr := fr4
def F101.b0 : IR := (iSr [iQo 3 (.mv (.c (.bool false)))] (iSr [iSm 0, iCa 79 [aS0], .w .none none (.store 1 aT1 (.c (.bool true))), .w .none none (.store 1 aT2 aS0)] (iSr [iQo 3 (.mv (.c (.bool false)))] .ret)))
def F101.res : List RV := [.t (.of 3)]
def F101 : Fn := { params := [(.of 0), (.of 1), (.of 2)], res := F101.res, body := F101.b0, init := in4 }
theorem F101.ok : fnA Tryz.prog Tryz.f101 [0, 1, 2, 4] = some F101 := by kernel_rfl
abbrev F104.fr := fr3
def F104.b1 : IR := (iSr [iQo 1 (.mv aC0)] .ret)
def F104.g0 (X1 : IR) : IR := (iSr [iQo 1 (.mv aC0)] (.seq (iSr [iSm 0, .s (.bin .lss .int aS0 aC0), .s (.mv aS0), iPf 0 (.mv aT0), iPf 1 (.bin .gtr .int aS0 aC256), iQo 2 (.pick aS2 (.c (.bool true)) aS0)] (.cond aT2 (iSr [iQo 1 (.mv aC3)] .ret) .skip)) X1))
def F104.b0 : IR := F104.g0 F104.b1
def F104.res : List RV := [.t (.of 1)]
def F104 : Fn := { params := [(.of 0)], res := F104.res, body := F104.b0, init := in3 }
theorem F104.ok : fnA Tryz.prog Tryz.f104 [0, 2, 8] = some F104 := by kernel_rfl
abbrev F106.fr := fr3
def F106.b0 : IR := (iSr [iWl 1 (.box aT0), iQo 2 (.mv aC0)] (.seq (.dreg [] [(.s (.loadN 2 aT1), 0, []), (.s (.faddr 0 aT1), 1, []), (.s (.load aS0), 1, []), (.s (.bin .gtr .int aS0 aC9), 1, []), (iCa 81 [aS3], 0, []), (iCa 82 [aS1, aC20], 0, []), (.w .push none (.bslice 1 2 [(I 0)] [(0, 1, aS1), (1, 1, aS0)]), 0, []), (iCa 80 [aS0], 0, []), (iQm 2 0, 0, [])]) .ret))
def F106.res : List RV := [.t (.of 2)]
def F106 : Fn := { params := [(.of 0)], res := F106.res, body := F106.b0, init := in3 }
theorem F106.ok : fnA Tryz.prog Tryz.f106 [0, 1, 2] = some F106 := by kernel_rfl
abbrev F107.fr := fr5
def F107.b0 : IR := (iSr [iWl 2 (.box aT0), iWl 3 (.box aT1), iQo 4 (.mv (.c .nilf))] (iSr [.s (.fn 136 (.of 136) [aT2, aT3]), iQm 4 0] .ret))
def F107.res : List RV := [.t (.of 4)]
def F107 : Fn := { params := [(.of 0), (.of 1)], res := F107.res, body := F107.b0, init := in5 }
theorem F107.ok : fnA Tryz.prog Tryz.f107 [0, 1, 2, 3, 4] = some F107 := by kernel_rfl
abbrev F109.fr := fr31
def F109.b8 : IR := (iSr [iSm 19, .s (.iaddr 1 aT17 aT19), .s (.load aS0), iQm 6 2, iQm 7 0] (iSr [iSm 7, .s (.len aS0), iSm 4, .s (.bin .neq .int aS1 aS0), iCa 82 [aS0, aC2], iSm 7, iCa 94 [aS0], iCa 82 [aS0, aC3], iSm 6, .s (.bin .gtr .int aS0 aC0), .s (.mv aS0), iPt 0 (.mv aT1), iPt 1 (.mv aT6), iPt 2 (.bin .sub .int aS0 aC1), iPt 3 (.iaddr 1 aS2 aS0), iPt 4 (.load aS0), iPt 5 (.mv aT7), .w .push (some (aS6, true)) (.call (.c (.fn 92 (.of 92) [])) [aS1, aS0]), iPt 7 (.bin .geq .int aS0 aC0), .s (.pick aS8 aS0 (.c (.bool false))), iCa 82 [aS0, aC11], .w .push none (.bslice 1 3 [(I 0)] [(0, 1, aS16), (1, 1, aS13), (2, 1, aS0)]), iCa 80 [aS0], iQm 8 0] (iSr [iSm 8, iQo 21 (.bin .neq .int aS0 aC0)] (.cond aT21 (iSr [iSm 8, iQo 2 (.mv (.c .nils)), iQm 3 0] .ret) .skip))))
def F109.g7 (X8 : IR) : IR := (.block 1 X8)
def F109.b7 : IR := F109.g7 F109.b8
def F109.b9 : IR := (.reg [.s (.bin .add .int aT19 aC1), iQm 19 0])
def F109.g6 (X7 X9 : IR) : IR := (.seq X7 X9)
def F109.b6 : IR := F109.g6 F109.b7 F109.b9
def F109.g5 (X6 : IR) : IR := (iSr [iQo 20 (.bin .lss .int aT19 aT18)] (.seq (.cond aT20 .skip (.exit 0)) X6))
def F109.b5 : IR := F109.g5 F109.b6
def F109.g4 (X5 : IR) : IR := (.loop X5)
def F109.b4 : IR := F109.g4 F109.b5
def F109.g3 (X4 : IR) : IR := (.block 0 X4)
def F109.b3 : IR := F109.g3 F109.b4
def F109.b23 : IR := (.reg [iSm 11, iSm 13, .w .push none (.bslice 1 1 [(I 0)] [(0, 1, aS0)]), .w .push none (.app 1 8 aS2 aS0), iQm 11 0])
def F109.g22 (X23 : IR) : IR := (iSr [.s (.iaddr 1 aT26 aT28), .s (.load aS0), iQm 12 0] (iSr [iSm 1, .s (.loadN 2 aT10), iSm 12, iCa 142 [aS1, aS0], .w .push none (.call (.c (.fn 141 (.of 141) [])) [aS3, aS0, (.c (.fn 92 (.of 92) []))]), .s (.mv aS0), .s (.ext 0 aS0), .s (.ext 1 aS1), iQm 13 1, iQm 14 0] (.seq (iSr [iSm 14, iQo 30 (.not aS0)] (.cond aT30 (iSr [iQo 2 (.mv (.c .nils)), iQo 3 (.mv aC7)] .ret) .skip)) X23)))
def F109.b22 : IR := F109.g22 F109.b23
def F109.g21 (X22 : IR) : IR := (.block 5 X22)
def F109.b21 : IR := F109.g21 F109.b22
def F109.b24 : IR := (.reg [.s (.bin .add .int aT28 aC1), iQm 28 0])
def F109.g20 (X21 X24 : IR) : IR := (.seq X21 X24)
def F109.b20 : IR := F109.g20 F109.b21 F109.b24
def F109.g19 (X20 : IR) : IR := (iSr [iQo 29 (.bin .lss .int aT28 aT27)] (.seq (.cond aT29 .skip (.exit 4)) X20))
def F109.b19 : IR := F109.g19 F109.b20
def F109.g18 (X19 : IR) : IR := (.loop X19)
def F109.b18 : IR := F109.g18 F109.b19
def F109.g17 (X18 : IR) : IR := (.block 4 X18)
def F109.b17 : IR := F109.g17 F109.b18
def F109.b25 : IR := (.reg [iSm 9, iSm 11, .w .push none (.bslice 1 1 [.nils] [(0, 1, aS0)]), .w .push none (.app 1 24 aS2 aS0), iQm 9 0])
def F109.g16 (X17 X25 : IR) : IR := (iSr [.s (.iaddr 2 aT22 aT24), .s (.loadN 2 aS0), iWl 10 (.alloc [.nils, (.bool false)]), .w .none none (.store 2 aT10 aS0)] (iSr [iQo 11 (.mv (.c .nils))] (.seq (iSr [iQo 26 (.mv aT1), iQo 27 (.len aT26), iQo 28 (.mv aC0)] X17) X25)))
def F109.b16 : IR := F109.g16 F109.b17 F109.b25
def F109.g15 (X16 : IR) : IR := (.block 3 X16)
def F109.b15 : IR := F109.g15 F109.b16
def F109.b26 : IR := (.reg [.s (.bin .add .int aT24 aC1), iQm 24 0])
def F109.g14 (X15 X26 : IR) : IR := (.seq X15 X26)
def F109.b14 : IR := F109.g14 F109.b15 F109.b26
def F109.g13 (X14 : IR) : IR := (iSr [iQo 25 (.bin .lss .int aT24 aT23)] (.seq (.cond aT25 .skip (.exit 2)) X14))
def F109.b13 : IR := F109.g13 F109.b14
def F109.g12 (X13 : IR) : IR := (.loop X13)
def F109.b12 : IR := F109.g12 F109.b13
def F109.g11 (X12 : IR) : IR := (.block 2 X12)
def F109.b11 : IR := F109.g11 F109.b12
def F109.b27 : IR := (iSr [iSm 9, iQm 2 0, iQo 3 (.mv aC0)] .ret)
def F109.g10 (X11 X27 : IR) : IR := (iSr [iQo 9 (.mv (.c .nils))] (.seq (iSr [iQo 22 (.mv aT0), iQo 23 (.len aT22), iQo 24 (.mv aC0)] X11) X27))
def F109.b10 : IR := F109.g10 F109.b11 F109.b27
def F109.g2 (X3 X10 : IR) : IR := (.seq (iSr [iQo 17 (.mv aT1), iQo 18 (.len aT17), iQo 19 (.mv aC0)] X3) X10)
def F109.b2 : IR := F109.g2 F109.b3 F109.b10
def F109.g1 (X2 : IR) : IR := (.seq (iSr [iSm 0, iSm 4, iCa 140 [aS1, aS0], iSm 1, .s (.len aS0), .s (.bin .gtr .int aS0 aC1024), iCa 82 [aS0, aC5], .w .push none (.bslice 1 2 [(I 0)] [(0, 1, aS4), (1, 1, aS0)]), iCa 80 [aS0], iQm 5 0] (iSr [iSm 5, iQo 16 (.bin .neq .int aS0 aC0)] (.cond aT16 (iSr [iSm 5, iQo 2 (.mv (.c .nils)), iQm 3 0] .ret) .skip))) X2)
def F109.b1 : IR := F109.g1 F109.b2
def F109.g0 (X1 : IR) : IR := (iSr [iQo 2 (.mv (.c .nils)), iQo 3 (.mv aC0)] (iSr [iQo 4 (.mv aC0)] (.seq (iSr [iSm 0, .s (.len aS0), iQo 15 (.bin .gtr .int aS0 aC0)] (.cond aT15 (.reg [iSm 0, .s (.iaddr 2 aS0 aC0), .s (.faddr 0 aS0), .s (.load aS0), .s (.len aS0), iQm 4 0]) .skip)) X1)))
def F109.b0 : IR := F109.g0 F109.b1
def F109.res : List RV := [.t (.of 2), .t (.of 3)]
def F109 : Fn := { params := [(.of 0), (.of 1)], res := F109.res, body := F109.b0, init := in31 }
theorem F109.ok : fnA Tryz.prog Tryz.f109 [0, 1, 4, 5, 6, 7, 8, 9, 10, 11, 13, 14, 16, 17, 18, 21, 37, 39, 40, 41, 42, 70, 73, 74, 75, 76, 79, 80, 81, 82, 94] = some F109 := by kernel_rfl
abbrev F110.fr := fr18
def F110.b9 : IR := (iSr [iSm 0, iSm 3, .s (.iaddr 2 aS1 aS0), .s (.loadN 2 aS0), iSm 1, iCa 47 [aS1, aS0], iQm 4 0] (iSr [iSm 4, iQo 12 (.bin .neq .int aS0 aC0)] (.cond aT12 (iSr [iSm 4, iQm 2 0] .ret) .skip)))
def F110.g8 (X9 : IR) : IR := (.block 1 X9)
def F110.b8 : IR := F110.g8 F110.b9
def F110.b10 : IR := (.reg [iSm 3, .s (.bin .add .int aS0 aC1), iQm 3 0])
def F110.g7 (X8 X10 : IR) : IR := (.seq X8 X10)
def F110.b7 : IR := F110.g7 F110.b8 F110.b10
def F110.g6 (X7 : IR) : IR := (.seq (iSr [iSm 3, iSm 0, .s (.len aS0), iQo 11 (.bin .lss .int aS2 aS0)] (.cond aT11 .skip (.exit 0))) X7)
def F110.b6 : IR := F110.g6 F110.b7
def F110.g5 (X6 : IR) : IR := (.loop X6)
def F110.b5 : IR := F110.g5 F110.b6
def F110.g4 (X5 : IR) : IR := (.block 0 X5)
def F110.b4 : IR := F110.g4 F110.b5
def F110.b17 : IR := (.seq (.dreg [] [(iSm 0, 0, []), (iSm 5, 0, []), (.s (.bin .sub .int aS0 aC1), 0, []), (.s (.iaddr 2 aS2 aS0), 0, []), (.s (.loadN 2 aS0), 0, []), (iSm 0, 0, []), (iSm 5, 0, []), (.s (.iaddr 2 aS1 aS0), 0, []), (.s (.loadN 2 aS0), 0, []), (iCa 143 [aS4, aS0], 0, []), (iQo 14 (.not aS0), 0, [])]) (.cond aT14 (iSr [iQo 2 (.mv aC11)] .ret) .skip))
def F110.g16 (X17 : IR) : IR := (.block 3 X17)
def F110.b16 : IR := F110.g16 F110.b17
def F110.b18 : IR := (.reg [iSm 5, .s (.bin .add .int aS0 aC1), iQm 5 0])
def F110.g15 (X16 X18 : IR) : IR := (.seq X16 X18)
def F110.b15 : IR := F110.g15 F110.b16 F110.b18
def F110.g14 (X15 : IR) : IR := (.seq (iSr [iSm 5, iSm 0, .s (.len aS0), iQo 13 (.bin .lss .int aS2 aS0)] (.cond aT13 .skip (.exit 2))) X15)
def F110.b14 : IR := F110.g14 F110.b15
def F110.g13 (X14 : IR) : IR := (.loop X14)
def F110.b13 : IR := F110.g13 F110.b14
def F110.g12 (X13 : IR) : IR := (.block 2 X13)
def F110.b12 : IR := F110.g12 F110.b13
def F110.b31 : IR := (.seq (.dreg [] [(iSm 0, 1, []), (iSm 0, 0, []), (iSm 6, 0, []), (.s (.iaddr 2 aS1 aS0), 0, []), (.s (.loadN 2 aS0), 0, []), (iSm 0, 0, []), (iSm 7, 0, []), (.s (.iaddr 2 aS1 aS0), 0, []), (.s (.loadN 2 aS0), 0, []), (iCa 145 [aS4, aS0], 0, []), (iCa 144 [aS9, aS0], 0, []), (iQo 17 (.bin .lss .int aS0 aC0), 0, [])]) (.cond aT17 (iSr [iQo 2 (.mv aC28)] .ret) .skip))
def F110.g30 (X31 : IR) : IR := (.block 7 X31)
def F110.b30 : IR := F110.g30 F110.b31
def F110.b32 : IR := (.reg [iSm 7, .s (.bin .add .int aS0 aC1), iQm 7 0])
def F110.g29 (X30 X32 : IR) : IR := (.seq X30 X32)
def F110.b29 : IR := F110.g29 F110.b30 F110.b32
def F110.g28 (X29 : IR) : IR := (.seq (iSr [iSm 7, iSm 0, .s (.len aS0), iQo 16 (.bin .lss .int aS2 aS0)] (.cond aT16 .skip (.exit 6))) X29)
def F110.b28 : IR := F110.g28 F110.b29
def F110.g27 (X28 : IR) : IR := (.loop X28)
def F110.b27 : IR := F110.g27 F110.b28
def F110.g26 (X27 : IR) : IR := (.block 6 X27)
def F110.b26 : IR := F110.g26 F110.b27
def F110.g25 (X26 : IR) : IR := (iSr [iQo 7 (.mv aC0)] X26)
def F110.b25 : IR := F110.g25 F110.b26
def F110.g24 (X25 : IR) : IR := (.block 5 X25)
def F110.b24 : IR := F110.g24 F110.b25
def F110.b33 : IR := (.reg [iSm 6, .s (.bin .add .int aS0 aC1), iQm 6 0])
def F110.g23 (X24 X33 : IR) : IR := (.seq X24 X33)
def F110.b23 : IR := F110.g23 F110.b24 F110.b33
def F110.g22 (X23 : IR) : IR := (.seq (iSr [iSm 6, iSm 0, .s (.len aS0), iQo 15 (.bin .lss .int aS2 aS0)] (.cond aT15 .skip (.exit 4))) X23)
def F110.b22 : IR := F110.g22 F110.b23
def F110.g21 (X22 : IR) : IR := (.loop X22)
def F110.b21 : IR := F110.g21 F110.b22
def F110.g20 (X21 : IR) : IR := (.block 4 X21)
def F110.b20 : IR := F110.g20 F110.b21
def F110.b34 : IR := (iSr [iQo 2 (.mv aC0)] .ret)
def F110.g19 (X20 X34 : IR) : IR := (.seq (iSr [iQo 6 (.mv aC0)] X20) X34)
def F110.b19 : IR := F110.g19 F110.b20 F110.b34
def F110.g11 (X12 X19 : IR) : IR := (.seq (iSr [iQo 5 (.mv aC1)] X12) X19)
def F110.b11 : IR := F110.g11 F110.b12 F110.b19
def F110.g3 (X4 X11 : IR) : IR := (.seq (iSr [iQo 3 (.mv aC0)] X4) X11)
def F110.b3 : IR := F110.g3 F110.b4 F110.b11
def F110.g2 (X3 : IR) : IR := (.seq (iSr [iSm 0, .s (.len aS0), iQo 10 (.bin .gtr .int aS0 aC1536)] (.cond aT10 (iSr [iQo 2 (.mv aC5)] .ret) .skip)) X3)
def F110.b2 : IR := F110.g2 F110.b3
def F110.g1 (X2 : IR) : IR := (.seq (iSr [iSm 0, .s (.len aS0), iQo 9 (.bin .eql .int aS0 aC0)] (.cond aT9 (iSr [iQo 2 (.mv aC12)] .ret) .skip)) X2)
def F110.b1 : IR := F110.g1 F110.b2
def F110.g0 (X1 : IR) : IR := (iSr [iQo 2 (.mv aC0)] (.seq (iSr [iSm 1, iCa 104 [aS0], iQo 8 (.bin .neq .int aS0 aC0)] (.cond aT8 (iSr [iQo 2 (.mv aC3)] .ret) .skip)) X1))
def F110.b0 : IR := F110.g0 F110.b1
def F110.res : List RV := [.t (.of 2)]
def F110 : Fn := { params := [(.of 0), (.of 1)], res := F110.res, body := F110.b0, init := in18 }
theorem F110.ok : fnA Tryz.prog Tryz.f110 [0, 1, 4, 5, 6, 7, 8, 9, 12, 15, 18, 22, 32, 37, 50, 54, 60, 74] = some F110 := by kernel_rfl
abbrev F111.fr := fr15
def F111.b8 : IR := (.seq (.dreg [] [(iSm 4, 0, []), (.s (.bin .gtr .int aS0 aC0), 0, []), (.s (.mv aS0), 0, []), (iPt 0 (.mv aT1), 0, []), (iPt 1 (.mv aT4), 0, []), (iPt 2 (.bin .sub .int aS0 aC1), 0, []), (iPt 3 (.iaddr 1 aS2 aS0), 0, []), (iPt 4 (.load aS0), 0, []), (iPt 5 (.mv aT1), 0, []), (iPt 6 (.mv aT4), 0, []), (iPt 7 (.iaddr 1 aS1 aS0), 0, []), (iPt 8 (.load aS0), 0, []), (.w .push (some (aS9, true)) (.call (.c (.fn 74 (.of 74) [])) [aS4, aS0]), 0, []), (iPt 10 (.not aS0), 0, []), (iQo 11 (.pick aS11 aS0 (.c (.bool false))), 0, [])]) (.cond aT11 (iSr [iQo 2 (.mv aC11)] .ret) .skip))
def F111.g7 (X8 : IR) : IR := (.seq (iSr [iSm 3, iSm 1, iSm 4, .s (.iaddr 1 aS1 aS0), .s (.load aS0), iCa 37 [aS4, aS0], iQm 5 0] (iSr [iSm 5, iQo 10 (.bin .neq .int aS0 aC0)] (.cond aT10 (iSr [iSm 5, iQm 2 0] .ret) .skip))) X8)
def F111.b7 : IR := F111.g7 F111.b8
def F111.g6 (X7 : IR) : IR := (.block 1 X7)
def F111.b6 : IR := F111.g6 F111.b7
def F111.b9 : IR := (.reg [iSm 4, .s (.bin .add .int aS0 aC1), iQm 4 0])
def F111.g5 (X6 X9 : IR) : IR := (.seq X6 X9)
def F111.b5 : IR := F111.g5 F111.b6 F111.b9
def F111.g4 (X5 : IR) : IR := (.seq (iSr [iSm 4, iSm 1, .s (.len aS0), iQo 9 (.bin .lss .int aS2 aS0)] (.cond aT9 .skip (.exit 0))) X5)
def F111.b4 : IR := F111.g4 F111.b5
def F111.g3 (X4 : IR) : IR := (.loop X4)
def F111.b3 : IR := F111.g3 F111.b4
def F111.g2 (X3 : IR) : IR := (.block 0 X3)
def F111.b2 : IR := F111.g2 F111.b3
def F111.b22 : IR := (.seq (.dreg [] [(iSm 1, 1, []), (iSm 0, 0, []), (iSm 7, 0, []), (.s (.iaddr 2 aS1 aS0), 0, []), (.s (.loadN 2 aS0), 0, []), (iSm 1, 0, []), (iSm 6, 0, []), (.s (.iaddr 1 aS1 aS0), 0, []), (.s (.load aS0), 0, []), (iCa 49 [aS4, aS0], 0, []), (iCa 112 [aS9, aS0], 0, []), (iQo 14 (.bin .lss .int aS0 aC0), 0, [])]) (.cond aT14 (iSr [iQo 2 (.mv aC7)] .ret) .skip))
def F111.g21 (X22 : IR) : IR := (.block 5 X22)
def F111.b21 : IR := F111.g21 F111.b22
def F111.b23 : IR := (.reg [iSm 7, .s (.bin .add .int aS0 aC1), iQm 7 0])
def F111.g20 (X21 X23 : IR) : IR := (.seq X21 X23)
def F111.b20 : IR := F111.g20 F111.b21 F111.b23
def F111.g19 (X20 : IR) : IR := (.seq (iSr [iSm 7, iSm 0, .s (.len aS0), iQo 13 (.bin .lss .int aS2 aS0)] (.cond aT13 .skip (.exit 4))) X20)
def F111.b19 : IR := F111.g19 F111.b20
def F111.g18 (X19 : IR) : IR := (.loop X19)
def F111.b18 : IR := F111.g18 F111.b19
def F111.g17 (X18 : IR) : IR := (.block 4 X18)
def F111.b17 : IR := F111.g17 F111.b18
def F111.g16 (X17 : IR) : IR := (iSr [iQo 7 (.mv aC0)] X17)
def F111.b16 : IR := F111.g16 F111.b17
def F111.g15 (X16 : IR) : IR := (.block 3 X16)
def F111.b15 : IR := F111.g15 F111.b16
def F111.b24 : IR := (.reg [iSm 6, .s (.bin .add .int aS0 aC1), iQm 6 0])
def F111.g14 (X15 X24 : IR) : IR := (.seq X15 X24)
def F111.b14 : IR := F111.g14 F111.b15 F111.b24
def F111.g13 (X14 : IR) : IR := (.seq (iSr [iSm 6, iSm 1, .s (.len aS0), iQo 12 (.bin .lss .int aS2 aS0)] (.cond aT12 .skip (.exit 2))) X14)
def F111.b13 : IR := F111.g13 F111.b14
def F111.g12 (X13 : IR) : IR := (.loop X13)
def F111.b12 : IR := F111.g12 F111.b13
def F111.g11 (X12 : IR) : IR := (.block 2 X12)
def F111.b11 : IR := F111.g11 F111.b12
def F111.b25 : IR := (iSr [iQo 2 (.mv aC0)] .ret)
def F111.g10 (X11 X25 : IR) : IR := (.seq (iSr [iQo 6 (.mv aC0)] X11) X25)
def F111.b10 : IR := F111.g10 F111.b11 F111.b25
def F111.g1 (X2 X10 : IR) : IR := (iSr [iSm 0, .s (.iaddr 2 aS0 aC0), .s (.faddr 0 aS0), .s (.load aS0), .s (.len aS0), iQm 3 0] (.seq (iSr [iQo 4 (.mv aC0)] X2) X10))
def F111.b1 : IR := F111.g1 F111.b2 F111.b10
def F111.g0 (X1 : IR) : IR := (iSr [iQo 2 (.mv aC0)] (.seq (iSr [iSm 1, .s (.len aS0), iQo 8 (.bin .gtr .int aS0 aC1024)] (.cond aT8 (iSr [iQo 2 (.mv aC5)] .ret) .skip)) X1))
def F111.b0 : IR := F111.g0 F111.b1
def F111.res : List RV := [.t (.of 2)]
def F111 : Fn := { params := [(.of 0), (.of 1)], res := F111.res, body := F111.b0, init := in15 }
theorem F111.ok : fnA Tryz.prog Tryz.f111 [0, 1, 4, 5, 6, 7, 8, 9, 12, 21, 31, 47, 51, 57, 71] = some F111 := by kernel_rfl
abbrev F112.fr := fr6
def F112.b6 : IR := (iSr [iSm 0, iSm 3, .s (.iaddr 1 aS1 aS0), .s (.load aS0), iSm 1, iWl 5 (.call (.c (.fn 35 (.of 35) [])) [aS1, aS0])] (.cond aT5 (iSr [iSm 3, iQm 2 0] .ret) .skip))
def F112.g5 (X6 : IR) : IR := (.block 1 X6)
def F112.b5 : IR := F112.g5 F112.b6
def F112.b7 : IR := (.reg [iSm 3, .s (.bin .add .int aS0 aC1), iQm 3 0])
def F112.g4 (X5 X7 : IR) : IR := (.seq X5 X7)
def F112.b4 : IR := F112.g4 F112.b5 F112.b7
def F112.g3 (X4 : IR) : IR := (.seq (iSr [iSm 3, iSm 0, .s (.len aS0), iQo 4 (.bin .lss .int aS2 aS0)] (.cond aT4 .skip (.exit 0))) X4)
def F112.b3 : IR := F112.g3 F112.b4
def F112.g2 (X3 : IR) : IR := (.loop X3)
def F112.b2 : IR := F112.g2 F112.b3
def F112.g1 (X2 : IR) : IR := (.block 0 X2)
def F112.b1 : IR := F112.g1 F112.b2
def F112.b8 : IR := (iSr [iQo 2 (.mv (.c (I (-1))))] .ret)
def F112.g0 (X1 X8 : IR) : IR := (iSr [iQo 2 (.mv aC0)] (.seq (iSr [iQo 3 (.mv aC0)] X1) X8))
def F112.b0 : IR := F112.g0 F112.b1 F112.b8
def F112.res : List RV := [.t (.of 2)]
def F112 : Fn := { params := [(.of 0), (.of 1)], res := F112.res, body := F112.b0, init := in6 }
theorem F112.ok : fnA Tryz.prog Tryz.f112 [0, 1, 4, 5, 9, 17] = some F112 := by kernel_rfl
abbrev F113.fr := fr12
def F113.b9 : IR := .skip
def F113.b11 : IR := (.reg [.s (.load aT7), .s (.bin .add .int aS0 aC1), .w .none none (.store 1 aT7 aS0)])
def F113.g10 (X11 : IR) : IR := (.block 3 X11)
def F113.b10 : IR := F113.g10 F113.b11
def F113.g8 (X9 X10 : IR) : IR := (.rf aT9 [(.of 10)] X9 X10)
def F113.b8 : IR := F113.g8 F113.b9 F113.b10
def F113.g7 (X8 : IR) : IR := (.block 2 X8)
def F113.b7 : IR := F113.g7 F113.b8
def F113.b12 : IR := (iSr [.s (.load aT7), iQo 11 (.bin .gtr .int aS0 aC0)] (.cond aT11 (.reg [iSm 3, iSm 6, .s (.load aT7), .s (.build [(I 0), (I 0)] [(0, 1, aS1), (1, 1, aS0)]), .w .push none (.bslice 2 1 [(I 0), (I 0)] [(0, 2, aS0)]), .w .push none (.app 2 16 aS4 aS0), iQm 3 0]) .skip))
def F113.g6 (X7 X12 : IR) : IR := (iSr [iWl 7 (.alloc [(I 0)]), .w .none none (.store 1 aT7 aC0)] (.seq (iSr [.s (.loadN 2 aT1), iSm 6, iWl 9 (.call (.c (.fn 107 (.of 107) [])) [aS1, aS0])] X7) X12))
def F113.b6 : IR := F113.g6 F113.b7 F113.b12
def F113.g5 (X6 : IR) : IR := (.block 1 X6)
def F113.b5 : IR := F113.g5 F113.b6
def F113.b13 : IR := (.reg [iSm 6, .s (.bin .add .int aS0 aC1), iQm 6 0])
def F113.g4 (X5 X13 : IR) : IR := (.seq X5 X13)
def F113.b4 : IR := F113.g4 F113.b5 F113.b13
def F113.g3 (X4 : IR) : IR := (.seq (iSr [iSm 6, iSm 5, iQo 8 (.bin .leq .int aS1 aS0)] (.cond aT8 .skip (.exit 0))) X4)
def F113.b3 : IR := F113.g3 F113.b4
def F113.g2 (X3 : IR) : IR := (.loop X3)
def F113.b2 : IR := F113.g2 F113.b3
def F113.g1 (X2 : IR) : IR := (.block 0 X2)
def F113.b1 : IR := F113.g1 F113.b2
def F113.b14 : IR := (iSr [iSm 3, iQm 2 0] .ret)
def F113.g0 (X1 X14 : IR) : IR := (iSr [iWl 1 (.box aT0), iQo 2 (.mv (.c .nils))] (iSr [iQo 3 (.mv (.c .nils))] (iSr [.s (.loadN 2 aT1), iCa 83 [aS0], .s (.mv aS0), .s (.ext 0 aS0), .s (.ext 1 aS1), iQm 4 1, iQm 5 0] (.seq (iSr [iSm 4, iQm 6 0] X1) X14))))
def F113.b0 : IR := F113.g0 F113.b1 F113.b14
def F113.res : List RV := [.t (.of 2)]
def F113 : Fn := { params := [(.of 0)], res := F113.res, body := F113.b0, init := in12 }
theorem F113.ok : fnA Tryz.prog Tryz.f113 [0, 1, 2, 3, 4, 5, 6, 7, 16, 21, 22, 26] = some F113 := by kernel_rfl
abbrev F114.fr := fr6
def F114.b1 : IR := (iSr [.s (.loadN 2 aT2), iCa 63 [aS0], .s (.ext 0 aS0), .s (.ext 1 aS1), iQm 3 1, iQm 4 0] .ret)
def F114.g0 (X1 : IR) : IR := (iSr [iWl 2 (.box aT0), iQo 3 (.mv (.c .nils)), iQo 4 (.mv aC0)] (.seq (iSr [iSm 1, iQo 5 (.bin .neq .int aS0 aC0)] (.cond aT5 (iSr [iSm 1, iQo 3 (.mv (.c .nils)), iQm 4 0] .ret) .skip)) X1))
def F114.b0 : IR := F114.g0 F114.b1
def F114.res : List RV := [.t (.of 3), .t (.of 4)]
def F114 : Fn := { params := [(.of 0), (.of 1)], res := F114.res, body := F114.b0, init := in6 }
theorem F114.ok : fnA Tryz.prog Tryz.f114 [0, 1, 2, 4, 5, 7] = some F114 := by kernel_rfl
abbrev F115.fr := fr13
def F115.b7 : IR := (iSr [iSm 11, .s (.iaddr 2 aT9 aT11), .s (.loadN 2 aS0), iWl 7 (.alloc [(I 0), (I 0)]), iQm 6 2, .w .none none (.store 2 aT7 aS0)] (.reg [iSm 5, .s (.aaddr 1 2 aT7 aC0), .s (.load aS0), .s (.aaddr 1 2 aT7 aC1), .s (.load aS0), .s (.faddr 0 aT1), .s (.load aS0), iSm 6, .s (.bin .add .int aS1 aS0), .w .push none (.bslice 1 3 [(I 0)] [(0, 1, aS6), (1, 1, aS4), (2, 1, aS0)]), .w .push none (.bslice 1 1 [.nils] [(0, 1, aS0)]), .w .push none (.app 1 24 aS10 aS0), iQm 5 0]))
def F115.g6 (X7 : IR) : IR := (.block 1 X7)
def F115.b6 : IR := F115.g6 F115.b7
def F115.b8 : IR := (.reg [.s (.bin .add .int aT11 aC1), iQm 11 0])
def F115.g5 (X6 X8 : IR) : IR := (.seq X6 X8)
def F115.b5 : IR := F115.g5 F115.b6 F115.b8
def F115.g4 (X5 : IR) : IR := (iSr [iQo 12 (.bin .lss .int aT11 aT10)] (.seq (.cond aT12 .skip (.exit 0)) X5))
def F115.b4 : IR := F115.g4 F115.b5
def F115.g3 (X4 : IR) : IR := (.loop X4)
def F115.b3 : IR := F115.g3 F115.b4
def F115.g2 (X3 : IR) : IR := (.block 0 X3)
def F115.b2 : IR := F115.g2 F115.b3
def F115.b9 : IR := (iSr [.s (.faddr 0 aT1), .s (.load aS0), .s (.faddr 1 aT1), .s (.load aS0), .s (.len aS0), .s (.bin .add .int aS3 aS0), iSm 5, iCa 146 [aS1, aS0], .w .none none (.store 2 aT2 aS0), iQo 3 (.mv aC0)] .ret)
def F115.g1 (X2 X9 : IR) : IR := (iSr [iQo 5 (.mv (.c .nils))] (.seq (iSr [.s (.faddr 1 aT1), iQo 9 (.load aS0), iQo 10 (.len aT9), iQo 11 (.mv aC0)] X2) X9))
def F115.b1 : IR := F115.g1 F115.b2 F115.b9
def F115.g0 (X1 : IR) : IR := (iSr [iWl 1 (.box aT0), iWl 2 (.alloc [(I 0), .nils]), iQo 3 (.mv aC0)] (.seq (.seq (.dreg [] [(.s (.loadN 2 aT1), 0, []), (.s (.faddr 1 aT1), 1, []), (.s (.load aS0), 1, []), (.s (.len aS0), 1, []), (.s (.bin .eql .int aS0 aC0), 1, []), (iCa 133 [aS4], 0, []), (iCa 123 [aS1, aC12], 0, []), (.w .push none (.bslice 1 2 [(I 0)] [(0, 1, aS1), (1, 1, aS0)]), 0, []), (iCa 121 [aS0], 0, []), (iQm 4 0, 0, [])]) (iSr [iSm 4, iQo 8 (.bin .neq .int aS0 aC0)] (.cond aT8 (iSr [.s (.build [(I 0), .nils] []), iSm 4, .w .none none (.store 2 aT2 aS1), iQm 3 0] .ret) .skip))) X1))
def F115.b0 : IR := F115.g0 F115.b1
def F115.res : List RV := [.cell (.of 2) (some 2), .t (.of 3)]
def F115 : Fn := { params := [(.of 0)], res := F115.res, body := F115.b0, init := in13 }
theorem F115.ok : fnA Tryz.prog Tryz.f115 [0, 1, 2, 3, 4, 5, 6, 7, 18, 22, 23, 24, 25] = some F115 := by kernel_rfl
abbrev F121.fr := fr8
def F121.b6 : IR := (iSr [.s (.iaddr 1 aT3 aT5), .s (.load aS0), iQm 2 0] (iSr [iSm 2, iQo 7 (.bin .neq .int aS0 aC0)] (.cond aT7 (iSr [iSm 2, iQm 1 0] .ret) .skip)))
def F121.g5 (X6 : IR) : IR := (.block 1 X6)
def F121.b5 : IR := F121.g5 F121.b6
def F121.b7 : IR := (.reg [.s (.bin .add .int aT5 aC1), iQm 5 0])
def F121.g4 (X5 X7 : IR) : IR := (.seq X5 X7)
def F121.b4 : IR := F121.g4 F121.b5 F121.b7
def F121.g3 (X4 : IR) : IR := (iSr [iQo 6 (.bin .lss .int aT5 aT4)] (.seq (.cond aT6 .skip (.exit 0)) X4))
def F121.b3 : IR := F121.g3 F121.b4
def F121.g2 (X3 : IR) : IR := (.loop X3)
def F121.b2 : IR := F121.g2 F121.b3
def F121.g1 (X2 : IR) : IR := (.block 0 X2)
def F121.b1 : IR := F121.g1 F121.b2
def F121.b8 : IR := (iSr [iQo 1 (.mv aC0)] .ret)
def F121.g0 (X1 X8 : IR) : IR := (iSr [iQo 1 (.mv aC0)] (.seq (iSr [iQo 3 (.mv aT0), iQo 4 (.len aT3), iQo 5 (.mv aC0)] X1) X8))
def F121.b0 : IR := F121.g0 F121.b1 F121.b8
def F121.res : List RV := [.t (.of 1)]
def F121 : Fn := { params := [(.of 0)], res := F121.res, body := F121.b0, init := in8 }
theorem F121.ok : fnA Tryz.prog Tryz.f121 [0, 2, 4, 5, 6, 7, 8, 12] = some F121 := by kernel_rfl
abbrev F122.fr := fr6
def F122.b0 : IR := (iSr [iWl 3 (.box aT0), iWl 4 (.box aT1), iQo 5 (.mv aC0)] (iSr [iSm 2, .s (.fn 147 (.of 147) [aT3, aT4]), iCa 131 [aS1, aS0], iCa 123 [aS0, aC3], iQm 5 0] .ret))
def F122.res : List RV := [.t (.of 5)]
def F122 : Fn := { params := [(.of 0), (.of 1), (.of 2)], res := F122.res, body := F122.b0, init := in6 }
theorem F122.ok : fnA Tryz.prog Tryz.f122 [0, 1, 2, 3, 4, 6] = some F122 := by kernel_rfl
abbrev F123.fr := fr4
def F123.b1 : IR := (iSr [iQo 2 (.mv aC0)] .ret)
def F123.g0 (X1 : IR) : IR := (iSr [iQo 2 (.mv aC0)] (.seq (iSr [iQo 3 (.mv aT0)] (.cond aT3 (iSr [iSm 1, iQm 2 0] .ret) .skip)) X1))
def F123.b0 : IR := F123.g0 F123.b1
def F123.res : List RV := [.t (.of 2)]
def F123 : Fn := { params := [(.of 0), (.of 1)], res := F123.res, body := F123.b0, init := in4 }
theorem F123.ok : fnA Tryz.prog Tryz.f123 [0, 1, 4, 5] = some F123 := by kernel_rfl
abbrev F124.fr := fr14
def F124.b7 : IR := (iSr [iSm 11, .s (.iaddr 1 aT9 aT11), .s (.load aS0), iQm 5 2, iQm 6 0] (iSr [iSm 6, .s (.bin .lss .int aS0 aC0), .s (.mv aS0), iPf 0 (.mv aT6), iPf 1 (.faddr 0 aT2), iPf 2 (.load aS0), iPf 3 (.bin .geq .int aS2 aS0), .s (.pick aS4 (.c (.bool true)) aS0), iCa 123 [aS0, aC10], iSm 5, .s (.bin .gtr .int aS0 aC0), .s (.mv aS0), iPt 0 (.load aT4), iPt 1 (.mv aT5), iPt 2 (.bin .sub .int aS0 aC1), iPt 3 (.iaddr 1 aS2 aS0), iPt 4 (.load aS0), iPt 5 (.mv aT6), iPt 6 (.bin .geq .int aS1 aS0), .s (.pick aS7 aS0 (.c (.bool false))), iCa 123 [aS0, aC11], .w .push none (.bslice 1 2 [(I 0)] [(0, 1, aS12), (1, 1, aS0)]), iCa 121 [aS0], iQm 7 0] (iSr [iSm 7, iQo 13 (.bin .neq .int aS0 aC0)] (.cond aT13 (iSr [iSm 7, iQm 3 0] .ret) .skip))))
def F124.g6 (X7 : IR) : IR := (.block 1 X7)
def F124.b6 : IR := F124.g6 F124.b7
def F124.b8 : IR := (.reg [.s (.bin .add .int aT11 aC1), iQm 11 0])
def F124.g5 (X6 X8 : IR) : IR := (.seq X6 X8)
def F124.b5 : IR := F124.g5 F124.b6 F124.b8
def F124.g4 (X5 : IR) : IR := (iSr [iQo 12 (.bin .lss .int aT11 aT10)] (.seq (.cond aT12 .skip (.exit 0)) X5))
def F124.b4 : IR := F124.g4 F124.b5
def F124.g3 (X4 : IR) : IR := (.loop X4)
def F124.b3 : IR := F124.g3 F124.b4
def F124.g2 (X3 : IR) : IR := (.block 0 X3)
def F124.b2 : IR := F124.g2 F124.b3
def F124.b9 : IR := (iSr [.s (.faddr 1 aT2), .s (.load aS0), iSm 1, .s (.slice 1 aS1 none (some aS0) none), .s (.fn 149 (.of 149) [aT4]), iCa 148 [aS1, aS0], iCa 123 [aS0, aC9], iQm 3 0] .ret)
def F124.g1 (X2 X9 : IR) : IR := (.seq (iSr [iQo 9 (.load aT4), iQo 10 (.len aT9), iQo 11 (.mv aC0)] X2) X9)
def F124.b1 : IR := F124.g1 F124.b2 F124.b9
def F124.g0 (X1 : IR) : IR := (iSr [iWl 2 (.box aT0), iQo 3 (.mv aC0)] (iSr [.s (.faddr 1 aT2), .s (.load aS0), iSm 1, .s (.iaddr 1 aS1 aS0), .s (.load aS0), iWl 4 (.alloc [.nils]), .w .none none (.store 1 aT4 aS0)] (.seq (iSr [.s (.load aT4), .s (.len aS0), iQo 8 (.bin .eql .int aS0 aC0)] (.cond aT8 (iSr [iQo 3 (.mv aC12)] .ret) .skip)) X1)))
def F124.b0 : IR := F124.g0 F124.b1
def F124.res : List RV := [.t (.of 3)]
def F124 : Fn := { params := [(.of 0), (.of 1)], res := F124.res, body := F124.b0, init := in14 }
theorem F124.ok : fnA Tryz.prog Tryz.f124 [0, 1, 2, 4, 5, 6, 7, 8, 16, 17, 18, 19, 20, 48] = some F124 := by kernel_rfl
abbrev F125.fr := fr3
def F125.b0 : IR := (iSr [iQo 1 (.mv (.c .nils))] (iSr [iSm 0, iCa 151 [aS0], iQm 2 0] (iSr [iSm 2, iCa 152 [aS0]] (iSr [iSm 2, iQm 1 0] .ret))))
def F125.res : List RV := [.t (.of 1)]
def F125 : Fn := { params := [(.of 0)], res := F125.res, body := F125.b0, init := in3 }
theorem F125.ok : fnA Tryz.prog Tryz.f125 [0, 2, 3] = some F125 := by kernel_rfl
abbrev F126.fr := fr3
def F126.b0 : IR := (iSr [iWl 1 (.box aT0), iQo 2 (.mv (.c .nilf))] (iSr [.s (.fn 153 (.of 153) [aT1]), iQm 2 0] .ret))
def F126.res : List RV := [.t (.of 2)]
def F126 : Fn := { params := [(.of 0)], res := F126.res, body := F126.b0, init := in3 }
theorem F126.ok : fnA Tryz.prog Tryz.f126 [0, 1, 2] = some F126 := by kernel_rfl
abbrev F128.fr := fr24
def F128.b10 : IR := (iSr [iSm 0, iSm 1, iSm 2, iSm 8, iSm 4, iCa 161 [aS4, aS3, aS2, aS1, aS0], .s (.mv aS0), .s (.ext 0 aS0), .s (.ext 1 aS1), iQm 11 1, iQm 12 0] (iSr [iSm 12, iQm 6 0] (iSr [iSm 11, iSm 1, .s (.bin .sub .int aS1 aS0), iSm 2, iSm 11, .s (.bin .sub .int aS1 aS0), iQm 13 3, iQm 14 0] (iSr [iSm 7, .s (.bin .quo .int aS0 aC8), iQm 15 0] (iSr [iSm 13, iSm 14, iQo 23 (.bin .lss .int aS1 aS0)] (.cond aT23 (iSr [iSm 13, iSm 15, .s (.bin .geq .int aS1 aS0), iQm 5 0] (iSr [iSm 0, iSm 1, iSm 11, iSm 3, iSm 4, iCa 128 [aS4, aS3, aS2, aS1, aS0]] (.reg [iSm 11, .s (.bin .add .int aS0 aC1), iQm 1 0]))) (iSr [iSm 14, iSm 15, .s (.bin .geq .int aS1 aS0), iQm 5 0] (iSr [iSm 0, iSm 11, .s (.bin .add .int aS0 aC1), iSm 2, iSm 3, iSm 4, iCa 128 [aS5, aS3, aS2, aS1, aS0]] (.reg [iSm 11, iQm 2 0])))))))))
def F128.g9 (X10 : IR) : IR := (.seq (.seq (.dreg [] [(iSm 1, 0, []), (.s (.bin .gtr .int aS0 aC0), 0, []), (.s (.mv aS0), 0, []), (iPt 0 (.mv aT4), 0, []), (iPt 1 (.mv aT0), 0, []), (iPt 2 (.mv aT1), 0, []), (iPt 3 (.bin .sub .int aS0 aC1), 0, []), (iPt 4 (.iaddr 1 aS2 aS0), 0, []), (iPt 5 (.load aS0), 0, []), (iPt 6 (.mv aT0), 0, []), (iPt 7 (.mv aT8), 0, []), (iPt 8 (.iaddr 1 aS1 aS0), 0, []), (iPt 9 (.load aS0), 0, []), (.w .push (some (aS10, true)) (.call aS9 [aS4, aS0]), 0, []), (iPt 11 (.bin .lss .int aS0 aC0), 0, []), (iPt 12 (.not aS0), 0, []), (iQo 22 (.pick aS13 aS0 (.c (.bool false))), 0, [])]) (.cond aT22 (iSr [iSm 0, iSm 1, iSm 2, iSm 8, iSm 4, iCa 160 [aS4, aS3, aS2, aS1, aS0], iQm 10 0] (iSr [iSm 10, iQm 1 0] (.exit 1))) .skip)) X10)
def F128.b9 : IR := F128.g9 F128.b10
def F128.g8 (X9 : IR) : IR := (.seq (iSr [iSm 5, .s (.mv aS0), iPt 0 (.mv aT6), .s (.pick aS1 aS0 (.c (.bool false))), .s (.mv aS0), iPt 0 (.mv aT9), iPt 1 (.bin .eql .int aS0 aC1), iQo 20 (.pick aS2 aS0 (.c (.bool false)))] (.cond aT20 (iSr [iSm 0, iSm 1, iSm 2, iSm 4, iWl 21 (.call (.c (.fn 159 (.of 159) [])) [aS3, aS2, aS1, aS0])] (.cond aT21 .ret .skip)) .skip)) X9)
def F128.b8 : IR := F128.g8 F128.b9
def F128.g7 (X8 : IR) : IR := (iSr [iSm 0, iSm 1, iSm 2, iSm 4, iCa 157 [aS3, aS2, aS1, aS0], .s (.mv aS0), .s (.ext 0 aS0), .s (.ext 1 aS1), iQm 8 1, iQm 9 0] (.seq (iSr [iSm 9, iQo 19 (.bin .eql .int aS0 aC2)] (.cond aT19 (iSr [iSm 0, iSm 1, iSm 2, iSm 4, iCa 158 [aS3, aS2, aS1, aS0]] (iSr [iSm 2, .s (.bin .sub .int aS0 aC1), iSm 8, iSm 1, .s (.bin .sub .int aS1 aS0), .s (.bin .sub .int aS3 aS0), iQm 8 0] (.reg [iQo 9 (.mv aC1)]))) .skip)) X8))
def F128.b7 : IR := F128.g7 F128.b8
def F128.g6 (X7 : IR) : IR := (.seq (iSr [iSm 5, iQo 18 (.not aS0)] (.cond aT18 (iSr [iSm 0, iSm 1, iSm 2, iSm 4, iCa 156 [aS3, aS2, aS1, aS0]] (.reg [iSm 3, .s (.bin .sub .int aS0 aC1), iQm 3 0])) .skip)) X7)
def F128.b6 : IR := F128.g6 F128.b7
def F128.g5 (X6 : IR) : IR := (.seq (iSr [iSm 3, iQo 17 (.bin .eql .int aS0 aC0)] (.cond aT17 (iSr [iSm 0, iSm 1, iSm 2, iSm 4, iCa 155 [aS3, aS2, aS1, aS0]] .ret) .skip)) X6)
def F128.b5 : IR := F128.g5 F128.b6
def F128.g4 (X5 : IR) : IR := (iSr [iSm 2, iSm 1, .s (.bin .sub .int aS1 aS0), iQm 7 0] (.seq (iSr [iSm 7, iQo 16 (.bin .leq .int aS0 aC12)] (.cond aT16 (iSr [iSm 0, iSm 1, iSm 2, iSm 4, iCa 154 [aS3, aS2, aS1, aS0]] .ret) .skip)) X5))
def F128.b4 : IR := F128.g4 F128.b5
def F128.g3 (X4 : IR) : IR := (.block 1 X4)
def F128.b3 : IR := F128.g3 F128.b4
def F128.g2 (X3 : IR) : IR := (.loop X3)
def F128.b2 : IR := F128.g2 F128.b3
def F128.g1 (X2 : IR) : IR := (.block 0 X2)
def F128.b1 : IR := F128.g1 F128.b2
def F128.g0 (X1 : IR) : IR := (iSr [iQo 5 (.mv (.c (.bool true)))] (iSr [iQo 6 (.mv (.c (.bool true)))] X1))
def F128.b0 : IR := F128.g0 F128.b1
def F128.res : List RV := []
def F128 : Fn := { params := [(.of 0), (.of 1), (.of 2), (.of 3), (.of 4)], res := F128.res, body := F128.b0, init := in24 }
theorem F128.ok : fnA Tryz.prog Tryz.f128 [0, 1, 2, 3, 4, 10, 11, 12, 13, 14, 15, 16, 17, 18, 19, 20, 25, 32, 39, 56, 75, 80, 97, 125] = some F128 := by kernel_rfl
abbrev F129.fr := fr2
def F129.b1 : IR := (iSr [iSm 0, iCa 163 [aS0], iQm 1 0] .ret)
def F129.g0 (X1 : IR) : IR := (iSr [iQo 1 (.mv aC0)] (.seq (.cond (.c (.bool false)) (iSr [iSm 0, .s (.conv .u32 aS0), iCa 162 [aS0], iQm 1 0] .ret) .skip) X1))
def F129.b0 : IR := F129.g0 F129.b1
def F129.res : List RV := [.t (.of 1)]
def F129 : Fn := { params := [(.of 0)], res := F129.res, body := F129.b0, init := in2 }
theorem F129.ok : fnA Tryz.prog Tryz.f129 [0, 2] = some F129 := by kernel_rfl
abbrev F130.fr := fr10
def F130.b1 : IR := (iSr [iQo 2 (.mv (.c (I (-1))))] .ret)
def F130.b5 : IR := (iSr [iQo 2 (.mv aC0)] .ret)
def F130.g4 (X5 : IR) : IR := (.seq (iSr [iSm 0, iSm 1, iQo 9 (.bin .gtr .int aS1 aS0)] (.cond aT9 (iSr [iQo 2 (.mv aC1)] .ret) .skip)) X5)
def F130.b4 : IR := F130.g4 F130.b5
def F130.g3 (X4 : IR) : IR := (.seq (iSr [iSm 0, iSm 1, iQo 8 (.bin .lss .int aS1 aS0)] (.cond aT8 (iSr [iQo 2 (.mv (.c (I (-1))))] .ret) .skip)) X4)
def F130.b3 : IR := F130.g3 F130.b4
def F130.g2 (X3 : IR) : IR := (.seq (iSr [iQo 7 (.mv aT4)] (.cond aT7 (iSr [iQo 2 (.mv aC1)] .ret) .skip)) X3)
def F130.b2 : IR := F130.g2 F130.b3
def F130.g0 (X1 X2 : IR) : IR := (iSr [iQo 2 (.mv aC0)] (iSr [iSm 0, iCa 164 [aS0], iQm 3 0] (iSr [iSm 1, iCa 164 [aS0], iQm 4 0] (.seq (iSr [iQo 5 (.mv aT3)] (.cond aT5 (.seq (iSr [iQo 6 (.mv aT4)] (.cond aT6 (iSr [iQo 2 (.mv aC0)] .ret) .skip)) X1) .skip)) X2))))
def F130.b0 : IR := F130.g0 F130.b1 F130.b2
def F130.res : List RV := [.t (.of 2)]
def F130 : Fn := { params := [(.of 0), (.of 1)], res := F130.res, body := F130.b0, init := in10 }
theorem F130.ok : fnA Tryz.prog Tryz.f130 [0, 1, 4, 5, 6, 11, 12, 13, 16, 19] = some F130 := by kernel_rfl
abbrev F131.fr := fr3
def F131.b0 : IR := (iSr [iQo 2 (.mv (.c (.bool false)))] (iSr [iSm 0, iSm 1, iCa 165 [aS1, aS0], .s (.bin .geq .int aS0 aC0), iQm 2 0] .ret))
def F131.res : List RV := [.t (.of 2)]
def F131 : Fn := { params := [(.of 0), (.of 1)], res := F131.res, body := F131.b0, init := in3 }
theorem F131.ok : fnA Tryz.prog Tryz.f131 [0, 1, 4] = some F131 := by kernel_rfl
abbrev F132.fr := fr2
def F132.b0 : IR := (iSr [iQo 1 (.mv (.c (.bool false)))] (iSr [iSm 0, .s (.bin .lss .int aS0 (.c (I (-999999999)))), .s (.mv aS0), iPf 0 (.mv aT0), iPf 1 (.bin .gtr .int aS0 aC999999999), .s (.pick aS2 (.c (.bool true)) aS0), iQm 1 0] .ret))
def F132.res : List RV := [.t (.of 1)]
def F132 : Fn := { params := [(.of 0)], res := F132.res, body := F132.b0, init := in2 }
theorem F132.ok : fnA Tryz.prog Tryz.f132 [0, 2] = some F132 := by kernel_rfl
abbrev F133.fr := fr14
def F133.b8 : IR := (.seq (.dreg [] [(iSm 6, 0, []), (.s (.not aS0), 0, []), (.s (.aaddr 1 2 aT5 aC0), 1, []), (.s (.load aS0), 1, []), (.s (.aaddr 1 2 aT5 aC1), 1, []), (.s (.load aS0), 1, []), (.s (.bin .geq .int aS2 aS0), 1, []), (.s (.faddr 1 aT1), 2, []), (.s (.load aS0), 2, []), (iSm 4, 2, []), (.s (.slice 2 aS1 none (some aS0) none), 2, []), (.s (.loadN 2 aT5), 2, []), (iCa 123 [aS10, aC10], 0, []), (iCa 123 [aS6, aC11], 0, []), (iCa 166 [aS3, aS2], 0, []), (iCa 123 [aS0, aC9], 0, []), (.w .push none (.bslice 1 3 [(I 0)] [(0, 1, aS3), (1, 1, aS2), (2, 1, aS0)]), 0, []), (iCa 121 [aS0], 0, []), (iQm 7 0, 0, [])]) (iSr [iSm 7, iQo 13 (.bin .neq .int aS0 aC0)] (.cond aT13 (iSr [iSm 7, iQm 2 0] .ret) .skip)))
def F133.g7 (X8 : IR) : IR := (iSr [iSm 11, .s (.iaddr 2 aT9 aT11), .s (.loadN 2 aS0), iWl 5 (.alloc [(I 0), (I 0)]), iQm 4 2, .w .none none (.store 2 aT5 aS0)] (iSr [.s (.aaddr 1 2 aT5 aC0), .s (.load aS0), .s (.bin .geq .int aS0 aC0), .s (.mv aS0), iPt 0 (.aaddr 1 2 aT5 aC0), iPt 1 (.load aS0), iPt 2 (.faddr 0 aT1), iPt 3 (.load aS0), iPt 4 (.bin .lss .int aS2 aS0), .s (.pick aS5 aS0 (.c (.bool false))), .s (.mv aS0), iPt 0 (.aaddr 1 2 aT5 aC1), iPt 1 (.load aS0), iPt 2 (.bin .geq .int aS0 aC0), .s (.pick aS3 aS0 (.c (.bool false))), .s (.mv aS0), iPt 0 (.aaddr 1 2 aT5 aC1), iPt 1 (.load aS0), iPt 2 (.faddr 0 aT1), iPt 3 (.load aS0), iPt 4 (.bin .lss .int aS2 aS0), .s (.pick aS5 aS0 (.c (.bool false))), iQm 6 0] X8))
def F133.b7 : IR := F133.g7 F133.b8
def F133.g6 (X7 : IR) : IR := (.block 1 X7)
def F133.b6 : IR := F133.g6 F133.b7
def F133.b9 : IR := (.reg [.s (.bin .add .int aT11 aC1), iQm 11 0])
def F133.g5 (X6 X9 : IR) : IR := (.seq X6 X9)
def F133.b5 : IR := F133.g5 F133.b6 F133.b9
def F133.g4 (X5 : IR) : IR := (iSr [iQo 12 (.bin .lss .int aT11 aT10)] (.seq (.cond aT12 .skip (.exit 0)) X5))
def F133.b4 : IR := F133.g4 F133.b5
def F133.g3 (X4 : IR) : IR := (.loop X4)
def F133.b3 : IR := F133.g3 F133.b4
def F133.g2 (X3 : IR) : IR := (.block 0 X3)
def F133.b2 : IR := F133.g2 F133.b3
def F133.b10 : IR := (iSr [iQo 2 (.mv aC0)] .ret)
def F133.g1 (X2 X10 : IR) : IR := (.seq (iSr [.s (.faddr 1 aT1), iQo 9 (.load aS0), iQo 10 (.len aT9), iQo 11 (.mv aC0)] X2) X10)
def F133.b1 : IR := F133.g1 F133.b2 F133.b10
def F133.g0 (X1 : IR) : IR := (iSr [iWl 1 (.box aT0), iQo 2 (.mv aC0)] (.seq (.seq (.dreg [] [(.s (.faddr 0 aT1), 0, []), (.s (.load aS0), 0, []), (.s (.faddr 1 aT1), 2, []), (.s (.load aS0), 2, []), (.s (.len aS0), 2, []), (.s (.bin .gtr .int aS0 aC32), 2, []), (.w .push none (.bslice 1 1 [(I 0)] [(0, 1, aS4)]), 0, []), (iCa 122 [aC1, aC16, aS0], 0, []), (iCa 123 [aS2, aC5], 0, []), (.w .push none (.bslice 1 2 [(I 0)] [(0, 1, aS1), (1, 1, aS0)]), 0, []), (iCa 121 [aS0], 0, []), (iQm 3 0, 0, [])]) (iSr [iSm 3, iQo 8 (.bin .neq .int aS0 aC0)] (.cond aT8 (iSr [iSm 3, iQm 2 0] .ret) .skip))) X1))
def F133.b0 : IR := F133.g0 F133.b1
def F133.res : List RV := [.t (.of 2)]
def F133 : Fn := { params := [(.of 0)], res := F133.res, body := F133.b0, init := in14 }
theorem F133.ok : fnA Tryz.prog Tryz.f133 [0, 1, 2, 3, 4, 5, 6, 7, 20, 23, 24, 25, 26, 71] = some F133 := by kernel_rfl
end
end Go.Ev
