import Derived.Test.YtlfhlkknakiafaaGreatDoorIrA
import Derived.Test.YtlfhlkknakiafaaGreatDoorEvC
import Derived.Test.YtlfhlkknakiafaaGreatDoorProg
import Derived.KernelRfl
set_option linter.unusedSimpArgs false
set_option linter.unusedVariables false
namespace Go.Ev
open Go Go.Proofs
set_option maxRecDepth 100000
noncomputable section

abbrev F319.fr := fr5
def F319.b6 : IR := (iSr [iSm 0, iSm 2, .s (.load aT1), iSm 2, .s (.iaddr 1 aS1 aS0), .s (.load aS0), .w .push none (.call aS5 [aS4, aS0]), iQo 4 (.not aS0)] (.cond aT4 .ret .skip))
def F319.g5 (X6 : IR) : IR := (.block 1 X6)
def F319.b5 : IR := F319.g5 F319.b6
def F319.b7 : IR := (.reg [iSm 2, .s (.bin .sub .int aS0 aC1), iQm 2 0])
def F319.g4 (X5 X7 : IR) : IR := (.seq X5 X7)
def F319.b4 : IR := F319.g4 F319.b5 F319.b7
def F319.g3 (X4 : IR) : IR := (.seq (iSr [iSm 2, iQo 3 (.bin .geq .int aS0 aC0)] (.cond aT3 .skip (.exit 0))) X4)
def F319.b3 : IR := F319.g3 F319.b4
def F319.g2 (X3 : IR) : IR := (.loop X3)
def F319.b2 : IR := F319.g2 F319.b3
def F319.g1 (X2 : IR) : IR := (.block 0 X2)
def F319.b1 : IR := F319.g1 F319.b2
def F319.g0 (X1 : IR) : IR := (iSr [.s (.load aT1), .s (.len aS0), .s (.bin .sub .int aS0 aC1), iQm 2 0] X1)
def F319.b0 : IR := F319.g0 F319.b1
def F319.res : List RV := []
def F319 : Fn := { params := [(.of 0), (.of 1)], res := F319.res, body := F319.b0, init := in5 }
theorem F319.ok : fnA Tryz.prog Tryz.f319 [0, 1, 3, 8, 18] = some F319 := by kernel_rfl
abbrev F321.fr := fr4
def F321.b0 : IR := (iSr [iQo 3 (.mv (.c (.bool false)))] (iSr [iSm 0, .s (.load aT1), .s (.bin .lss .int aS1 aS0), .s (.mv aS0), iPf 0 (.mv aT0), iPf 1 (.load aT2), iPf 2 (.bin .geq .int aS1 aS0), .s (.pick aS3 (.c (.bool true)) aS0), iQm 3 0] .ret))
def F321.res : List RV := [.t (.of 3)]
def F321 : Fn := { params := [(.of 0), (.of 1), (.of 2)], res := F321.res, body := F321.b0, init := in4 }
theorem F321.ok : fnA Tryz.prog Tryz.f321 [0, 1, 2, 4] = some F321 := by kernel_rfl
abbrev F322.fr := fr6
def F322.b1 : IR := (.seq (.dreg [] [(iSm 0, 2, []), (iSm 1, 2, []), (iSm 0, 3, []), (iSm 2, 3, []), (iSm 0, 0, []), (iSm 1, 0, []), (.s (.nilc aS1), 0, []), (.s (.faddr 0 aS0), 0, []), (.s (.aaddr 1 16 aS0 aS2), 0, []), (.s (.load aS0), 0, []), (iSm 3, 0, []), (iSm 0, 1, []), (iSm 2, 1, []), (.s (.nilc aS1), 1, []), (.s (.faddr 16 aS0), 1, []), (.s (.aaddr 1 16 aS0 aS2), 1, []), (.s (.load aS0), 1, []), (iSm 3, 1, []), (.s (.nilc aS17), 2, []), (.s (.faddr 0 aS0), 2, []), (.s (.nilc aS17), 3, []), (.s (.faddr 16 aS0), 3, []), (iCa 390 [aS12, aS11], 0, []), (iCa 390 [aS6, aS5], 0, []), (.s (.aaddr 1 16 aS4 aS22), 0, []), (.w .none none (.store 1 aS0 aS2), 0, []), (.s (.aaddr 1 16 aS3 aS21), 0, []), (.w .none none (.store 1 aS0 aS2), 0, [])]) (iSr [iQo 4 (.mv (.c (.bool true)))] .ret))
def F322.g0 (X1 : IR) : IR := (iSr [iQo 4 (.mv (.c (.bool false)))] (.seq (iSr [iSm 0, iSm 1, .s (.nilc aS1), .s (.faddr 0 aS0), .s (.aaddr 1 16 aS0 aS2), .s (.load aS0), iSm 3, iCa 389 [aS1, aS0], .s (.mv aS0), iPf 0 (.mv aT0), iPf 1 (.mv aT2), iPf 2 (.nilc aS1), iPf 3 (.faddr 16 aS0), iPf 4 (.aaddr 1 16 aS0 aS2), iPf 5 (.load aS0), iPf 6 (.mv aT3), .w .push (some (aS7, false)) (.call (.c (.fn 389 (.of 389) [])) [aS1, aS0]), iQo 5 (.pick aS8 (.c (.bool true)) aS0)] (.cond aT5 (iSr [iQo 4 (.mv (.c (.bool false)))] .ret) .skip)) X1))
def F322.b0 : IR := F322.g0 F322.b1
def F322.res : List RV := [.t (.of 4)]
def F322 : Fn := { params := [(.of 0), (.of 1), (.of 2), (.of 3)], res := F322.res, body := F322.b0, init := in6 }
theorem F322.ok : fnA Tryz.prog Tryz.f322 [0, 1, 2, 3, 8, 26] = some F322 := by kernel_rfl
abbrev F323.fr := fr8
def F323.b6 : IR := (iSr [iSm 5, iQm 3 0] (iSr [iSm 1, iSm 3, .w .push none (.call aS1 [aS0]), iSm 1, .w .push none (.call aS0 [aC0]), iQo 7 (.bin .neq .int aS2 aS0)] (.cond aT7 (iSr [iQo 2 (.mv (.c (.bool false)))] .ret) .skip)))
def F323.g5 (X6 : IR) : IR := (.block 1 X6)
def F323.b5 : IR := F323.g5 F323.b6
def F323.b7 : IR := (.reg [.s (.bin .add .int aT5 aC1), iQm 5 0])
def F323.g4 (X5 X7 : IR) : IR := (.seq X5 X7)
def F323.b4 : IR := F323.g4 F323.b5 F323.b7
def F323.g3 (X4 : IR) : IR := (iSr [iQo 6 (.bin .lss .int aT5 aT4)] (.seq (.cond aT6 .skip (.exit 0)) X4))
def F323.b3 : IR := F323.g3 F323.b4
def F323.g2 (X3 : IR) : IR := (.loop X3)
def F323.b2 : IR := F323.g2 F323.b3
def F323.g1 (X2 : IR) : IR := (.block 0 X2)
def F323.b1 : IR := F323.g1 F323.b2
def F323.b8 : IR := (iSr [iQo 2 (.mv (.c (.bool true)))] .ret)
def F323.g0 (X1 X8 : IR) : IR := (iSr [iQo 2 (.mv (.c (.bool false)))] (.seq (iSr [iQo 4 (.mv aT0), iQo 5 (.mv aC0)] X1) X8))
def F323.b0 : IR := F323.g0 F323.b1 F323.b8
def F323.res : List RV := [.t (.of 2)]
def F323 : Fn := { params := [(.of 0), (.of 1)], res := F323.res, body := F323.b0, init := in8 }
theorem F323.ok : fnA Tryz.prog Tryz.f323 [0, 1, 4, 5, 6, 7, 8, 15] = some F323 := by kernel_rfl
abbrev F324.fr := fr3
def F324.b0 : IR := (iSr [iQo 2 (.mv aC0)] (.seq (.dreg [] [(.s (.faddr 1 aT1), 0, []), (.s (.load aS0), 0, []), (iSm 0, 0, []), (.s (.iaddr 1 aS1 aS0), 0, []), (.s (.load aS0), 0, []), (.s (.faddr 1 aT1), 0, []), (.s (.load aS0), 0, []), (.s (.faddr 1 aT1), 0, []), (.s (.load aS0), 0, []), (.s (.len aS0), 0, []), (.s (.bin .sub .int aS0 aC1), 0, []), (iSm 0, 0, []), (.s (.bin .sub .int aS1 aS0), 0, []), (.s (.iaddr 1 aS6 aS0), 0, []), (.s (.load aS0), 0, []), (.s (.bin .add .int aS10 aS0), 0, []), (iQm 2 0, 0, [])]) .ret))
def F324.res : List RV := [.t (.of 2)]
def F324 : Fn := { params := [(.of 0), (.of 1)], res := F324.res, body := F324.b0, init := in3 }
theorem F324.ok : fnA Tryz.prog Tryz.f324 [0, 1, 3] = some F324 := by kernel_rfl
abbrev F325.fr := fr4
def F325.b0 : IR := (iSr [iQo 3 (.mv aC0)] (.seq (.dreg [] [(.s (.faddr 1 aT2), 0, []), (.s (.load aS0), 0, []), (iSm 0, 0, []), (.s (.faddr 0 aT2), 0, []), (.s (.load aS0), 0, []), (.s (.bin .rem .int aS2 aS0), 0, []), (.s (.faddr 0 aT2), 0, []), (.s (.load aS0), 0, []), (.s (.bin .mul .int aS2 aS0), 0, []), (iSm 1, 0, []), (.s (.faddr 0 aT2), 0, []), (.s (.load aS0), 0, []), (.s (.bin .rem .int aS2 aS0), 0, []), (.s (.bin .add .int aS4 aS0), 0, []), (.s (.iaddr 1 aS12 aS0), 0, []), (.s (.load aS0), 0, []), (iQm 3 0, 0, [])]) .ret))
def F325.res : List RV := [.t (.of 3)]
def F325 : Fn := { params := [(.of 0), (.of 1), (.of 2)], res := F325.res, body := F325.b0, init := in4 }
theorem F325.ok : fnA Tryz.prog Tryz.f325 [0, 1, 2, 5] = some F325 := by kernel_rfl
abbrev F326.fr := fr6
def F326.b0 : IR := (iSr [iQo 3 (.mv aC0)] (.seq (.dreg [] [(iSm 0, 0, []), (.s (.faddr 0 aT1), 0, []), (.s (.load aS0), 0, []), (.s (.bin .quo .int aS2 aS0), 0, []), (iSm 0, 0, []), (.s (.faddr 0 aT1), 0, []), (.s (.load aS0), 0, []), (.s (.bin .rem .int aS2 aS0), 0, []), (iQm 4 4, 0, []), (iQm 5 0, 0, [])]) (.seq (.dreg [] [(.s (.load aT2), 0, []), (iSm 4, 0, []), (iSm 5, 0, []), (.s (.load aT2), 1, []), (iSm 4, 1, []), (iSm 5, 1, []), (.s (.bin .add .int aS0 aC1), 1, []), (.s (.load aT2), 2, []), (iSm 4, 2, []), (.s (.bin .add .int aS0 aC1), 2, []), (iSm 5, 2, []), (.s (.load aT2), 3, []), (iSm 4, 3, []), (.s (.bin .add .int aS0 aC1), 3, []), (iSm 5, 3, []), (.s (.bin .add .int aS0 aC1), 3, []), (.w .push none (.call aS15 [aS14, aS13]), 0, []), (.w .push none (.call aS13 [aS12, aS10]), 0, []), (.s (.bin .add .int aS1 aS0), 2, []), (.w .push none (.call aS11 [aS9, aS8]), 0, []), (.s (.bin .add .int aS1 aS0), 1, []), (.w .push none (.call aS9 [aS7, aS5]), 0, []), (.s (.bin .add .int aS1 aS0), 0, []), (iQm 3 0, 0, [])]) .ret)))
def F326.res : List RV := [.t (.of 3)]
def F326 : Fn := { params := [(.of 0), (.of 1), (.of 2)], res := F326.res, body := F326.b0, init := in6 }
theorem F326.ok : fnA Tryz.prog Tryz.f326 [0, 1, 2, 4, 5, 6] = some F326 := by kernel_rfl
abbrev F327.fr := fr6
def F327.b0 : IR := (iSr [iQo 3 (.mv aC0)] (.seq (.dreg [] [(iSm 0, 0, []), (.s (.faddr 0 aT1), 0, []), (.s (.load aS0), 0, []), (.s (.bin .quo .int aS2 aS0), 0, []), (iSm 0, 0, []), (.s (.faddr 0 aT1), 0, []), (.s (.load aS0), 0, []), (.s (.bin .rem .int aS2 aS0), 0, []), (iQm 4 4, 0, []), (iQm 5 0, 0, [])]) (.seq (.dreg [] [(.s (.load aT2), 0, []), (iSm 4, 0, []), (iSm 5, 0, []), (.s (.load aT2), 1, []), (iSm 4, 1, []), (.s (.faddr 0 aT1), 1, []), (.s (.load aS0), 1, []), (.s (.bin .quo .int aS0 aC2), 1, []), (.s (.bin .add .int aS3 aS0), 1, []), (iSm 5, 1, []), (.s (.faddr 0 aT1), 1, []), (.s (.load aS0), 1, []), (.s (.bin .quo .int aS0 aC2), 1, []), (.s (.bin .add .int aS3 aS0), 1, []), (.w .push none (.call aS13 [aS12, aS11]), 0, []), (.w .push none (.call aS11 [aS6, aS1]), 0, []), (.s (.bin .add .int aS1 aS0), 0, []), (iQm 3 0, 0, [])]) .ret)))
def F327.res : List RV := [.t (.of 3)]
def F327 : Fn := { params := [(.of 0), (.of 1), (.of 2)], res := F327.res, body := F327.b0, init := in6 }
theorem F327.ok : fnA Tryz.prog Tryz.f327 [0, 1, 2, 4, 5, 6] = some F327 := by kernel_rfl
abbrev F328.fr := fr6
def F328.b6 : IR := (.dreg [] [(.s (.faddr 1 aT3), 0, []), (.s (.load aS0), 0, []), (.s (.faddr 1 aT1), 0, []), (.s (.load aS0), 0, []), (iSm 4, 0, []), (.s (.faddr 0 aT1), 0, []), (.s (.load aS0), 0, []), (.s (.bin .mul .int aS2 aS0), 0, []), (.s (.bin .add .int aS0 aC1), 0, []), (iSm 4, 0, []), (.s (.faddr 0 aT1), 0, []), (.s (.load aS0), 0, []), (.s (.bin .mul .int aS2 aS0), 0, []), (.s (.faddr 0 aT1), 0, []), (.s (.load aS0), 0, []), (.s (.bin .add .int aS2 aS0), 0, []), (.s (.bin .sub .int aS0 aC1), 0, []), (iSm 4, 0, []), (.s (.faddr 0 aT1), 0, []), (.s (.load aS0), 0, []), (.s (.bin .mul .int aS2 aS0), 0, []), (.s (.faddr 0 aT1), 0, []), (.s (.load aS0), 0, []), (.s (.bin .add .int aS2 aS0), 0, []), (.s (.bin .sub .int aS0 aC1), 0, []), (.s (.slice 1 aS21 (some aS16) (some aS8) (some aS0)), 0, []), (.w .push none (.app 1 8 aS24 aS0), 0, []), (.s (.faddr 1 aT3), 0, []), (.w .none none (.store 1 aS0 aS1), 0, [])])
def F328.g5 (X6 : IR) : IR := (.block 1 X6)
def F328.b5 : IR := F328.g5 F328.b6
def F328.b7 : IR := (.reg [iSm 4, .s (.bin .add .int aS0 aC1), iQm 4 0])
def F328.g4 (X5 X7 : IR) : IR := (.seq X5 X7)
def F328.b4 : IR := F328.g4 F328.b5 F328.b7
def F328.g3 (X4 : IR) : IR := (.seq (iSr [iSm 4, .s (.bin .add .int aS0 aC1), .s (.faddr 0 aT1), .s (.load aS0), iQo 5 (.bin .lss .int aS2 aS0)] (.cond aT5 .skip (.exit 0))) X4)
def F328.b3 : IR := F328.g3 F328.b4
def F328.g2 (X3 : IR) : IR := (.loop X3)
def F328.b2 : IR := F328.g2 F328.b3
def F328.g1 (X2 : IR) : IR := (.block 0 X2)
def F328.b1 : IR := F328.g1 F328.b2
def F328.b8 : IR := (iSr [.s (.loadN 2 aT3), .w .none none (.store 2 aT2 aS0)] .ret)
def F328.g0 (X1 X8 : IR) : IR := (iSr [iWl 1 (.box aT0), iWl 2 (.alloc [(I 0), .nils])] (iSr [.s (.faddr 0 aT1), .s (.load aS0), .s (.bin .sub .int aS0 aC2), .s (.build [(I 0), .nils] [(0, 1, aS0)]), iWl 3 (.alloc [(I 0), .nils]), .w .none none (.store 2 aT3 aS0)] (.seq (iSr [iQo 4 (.mv aC1)] X1) X8)))
def F328.b0 : IR := F328.g0 F328.b1 F328.b8
def F328.res : List RV := [.cell (.of 2) (some 2)]
def F328 : Fn := { params := [(.of 0)], res := F328.res, body := F328.b0, init := in6 }
theorem F328.ok : fnA Tryz.prog Tryz.f328 [0, 1, 2, 3, 4, 13] = some F328 := by kernel_rfl
abbrev F330.fr := fr8
def F330.b6 : IR := (iSr [iSm 5, iQm 3 0] (iSr [iSm 1, iSm 0, iSm 3, .s (.iaddr 1 aS1 aS0), .s (.load aS0), iWl 7 (.call aS4 [aS0])] (.cond aT7 (iSr [iSm 3, iQm 2 0] .ret) .skip)))
def F330.g5 (X6 : IR) : IR := (.block 1 X6)
def F330.b5 : IR := F330.g5 F330.b6
def F330.b7 : IR := (.reg [.s (.bin .add .int aT5 aC1), iQm 5 0])
def F330.g4 (X5 X7 : IR) : IR := (.seq X5 X7)
def F330.b4 : IR := F330.g4 F330.b5 F330.b7
def F330.g3 (X4 : IR) : IR := (iSr [iQo 6 (.bin .lss .int aT5 aT4)] (.seq (.cond aT6 .skip (.exit 0)) X4))
def F330.b3 : IR := F330.g3 F330.b4
def F330.g2 (X3 : IR) : IR := (.loop X3)
def F330.b2 : IR := F330.g2 F330.b3
def F330.g1 (X2 : IR) : IR := (.block 0 X2)
def F330.b1 : IR := F330.g1 F330.b2
def F330.b8 : IR := (iSr [iQo 2 (.mv (.c (I (-1))))] .ret)
def F330.g0 (X1 X8 : IR) : IR := (iSr [iQo 2 (.mv aC0)] (.seq (iSr [iSm 0, iQo 4 (.len aS0), iQo 5 (.mv aC0)] X1) X8))
def F330.b0 : IR := F330.g0 F330.b1 F330.b8
def F330.res : List RV := [.t (.of 2)]
def F330 : Fn := { params := [(.of 0), (.of 1)], res := F330.res, body := F330.b0, init := in8 }
theorem F330.ok : fnA Tryz.prog Tryz.f330 [0, 1, 4, 5, 7, 8, 9, 16] = some F330 := by kernel_rfl
abbrev F332.fr := fr4
def F332.b5 : IR := (.reg [iSm 2, .s (.bin .sub .int aS0 aC1), iQm 2 0])
def F332.g4 (X5 : IR) : IR := (.block 1 X5)
def F332.b4 : IR := F332.g4 F332.b5
def F332.g3 (X4 : IR) : IR := (.seq (iSr [iSm 2, .s (.bin .gtr .int aS0 aC0), .s (.mv aS0), iPt 0 (.mv aT0), iPt 1 (.mv aT2), iPt 2 (.bin .sub .int aS0 aC1), iPt 3 (.iaddr 1 aS2 aS0), iPt 4 (.load aS0), iPt 5 (.bin .eql .int aS0 (.c (.int .u64 0))), iQo 3 (.pick aS6 aS0 (.c (.bool false)))] (.cond aT3 .skip (.exit 0))) X4)
def F332.b3 : IR := F332.g3 F332.b4
def F332.g2 (X3 : IR) : IR := (.loop X3)
def F332.b2 : IR := F332.g2 F332.b3
def F332.g1 (X2 : IR) : IR := (.block 0 X2)
def F332.b1 : IR := F332.g1 F332.b2
def F332.b6 : IR := (iSr [iSm 0, iSm 2, .s (.slice 1 aS1 none (some aS0) none), iQm 1 0] .ret)
def F332.g0 (X1 X6 : IR) : IR := (iSr [iQo 1 (.mv (.c .nils))] (iSr [iSm 0, .s (.len aS0), iQm 2 0] (.seq X1 X6)))
def F332.b0 : IR := F332.g0 F332.b1 F332.b6
def F332.res : List RV := [.t (.of 1)]
def F332 : Fn := { params := [(.of 0)], res := F332.res, body := F332.b0, init := in4 }
theorem F332.ok : fnA Tryz.prog Tryz.f332 [0, 2, 3, 15] = some F332 := by kernel_rfl
abbrev F347.fr := fr4
def F347.b2 : IR := (iSr [iSm 1, iSm 0, .s (.conv .u8 aS0), .s (.sidx (.c (.str [0, 1, 2, 2, 3, 3, 3, 3, 4, 4, 4, 4, 4, 4, 4, 4, 5, 5, 5, 5, 5, 5, 5, 5, 5, 5, 5, 5, 5, 5, 5, 5, 6, 6, 6, 6, 6, 6, 6, 6, 6, 6, 6, 6, 6, 6, 6, 6, 6, 6, 6, 6, 6, 6, 6, 6, 6, 6, 6, 6, 6, 6, 6, 6, 7, 7, 7, 7, 7, 7, 7, 7, 7, 7, 7, 7, 7, 7, 7, 7, 7, 7, 7, 7, 7, 7, 7, 7, 7, 7, 7, 7, 7, 7, 7, 7, 7, 7, 7, 7, 7, 7, 7, 7, 7, 7, 7, 7, 7, 7, 7, 7, 7, 7, 7, 7, 7, 7, 7, 7, 7, 7, 7, 7, 7, 7, 7, 7, 8, 8, 8, 8, 8, 8, 8, 8, 8, 8, 8, 8, 8, 8, 8, 8, 8, 8, 8, 8, 8, 8, 8, 8, 8, 8, 8, 8, 8, 8, 8, 8, 8, 8, 8, 8, 8, 8, 8, 8, 8, 8, 8, 8, 8, 8, 8, 8, 8, 8, 8, 8, 8, 8, 8, 8, 8, 8, 8, 8, 8, 8, 8, 8, 8, 8, 8, 8, 8, 8, 8, 8, 8, 8, 8, 8, 8, 8, 8, 8, 8, 8, 8, 8, 8, 8, 8, 8, 8, 8, 8, 8, 8, 8, 8, 8, 8, 8, 8, 8, 8, 8, 8, 8, 8, 8, 8, 8, 8, 8, 8, 8, 8, 8, 8, 8, 8, 8, 8, 8, 8, 8, 8, 8, 8, 8, 8, 8])) aS0), .s (.conv .i64 aS0), .s (.bin .add .int aS4 aS0), iQm 1 0] .ret)
def F347.g1 (X2 : IR) : IR := (.seq (iSr [iSm 0, iQo 3 (.bin .geq .int aS0 (.c (.int .u32 256)))] (.cond aT3 (iSr [iSm 0, .s (.bin .shr .int aS0 (.c (.int .u64 8))), iQm 0 0] (.reg [iSm 1, .s (.bin .add .int aS0 aC8), iQm 1 0])) .skip)) X2)
def F347.b1 : IR := F347.g1 F347.b2
def F347.g0 (X1 : IR) : IR := (iSr [iQo 1 (.mv aC0)] (.seq (iSr [iSm 0, iQo 2 (.bin .geq .int aS0 (.c (.int .u32 65536)))] (.cond aT2 (iSr [iSm 0, .s (.bin .shr .int aS0 (.c (.int .u64 16))), iQm 0 0] (.reg [iQo 1 (.mv aC16)])) .skip)) X1))
def F347.b0 : IR := F347.g0 F347.b1
def F347.res : List RV := [.t (.of 1)]
def F347 : Fn := { params := [(.of 0)], res := F347.res, body := F347.b0, init := in4 }
theorem F347.ok : fnA Tryz.prog Tryz.f347 [0, 2, 4, 8] = some F347 := by kernel_rfl
abbrev F348.fr := fr5
def F348.b3 : IR := (iSr [iSm 1, iSm 0, .s (.conv .u8 aS0), .s (.sidx (.c (.str [0, 1, 2, 2, 3, 3, 3, 3, 4, 4, 4, 4, 4, 4, 4, 4, 5, 5, 5, 5, 5, 5, 5, 5, 5, 5, 5, 5, 5, 5, 5, 5, 6, 6, 6, 6, 6, 6, 6, 6, 6, 6, 6, 6, 6, 6, 6, 6, 6, 6, 6, 6, 6, 6, 6, 6, 6, 6, 6, 6, 6, 6, 6, 6, 7, 7, 7, 7, 7, 7, 7, 7, 7, 7, 7, 7, 7, 7, 7, 7, 7, 7, 7, 7, 7, 7, 7, 7, 7, 7, 7, 7, 7, 7, 7, 7, 7, 7, 7, 7, 7, 7, 7, 7, 7, 7, 7, 7, 7, 7, 7, 7, 7, 7, 7, 7, 7, 7, 7, 7, 7, 7, 7, 7, 7, 7, 7, 7, 8, 8, 8, 8, 8, 8, 8, 8, 8, 8, 8, 8, 8, 8, 8, 8, 8, 8, 8, 8, 8, 8, 8, 8, 8, 8, 8, 8, 8, 8, 8, 8, 8, 8, 8, 8, 8, 8, 8, 8, 8, 8, 8, 8, 8, 8, 8, 8, 8, 8, 8, 8, 8, 8, 8, 8, 8, 8, 8, 8, 8, 8, 8, 8, 8, 8, 8, 8, 8, 8, 8, 8, 8, 8, 8, 8, 8, 8, 8, 8, 8, 8, 8, 8, 8, 8, 8, 8, 8, 8, 8, 8, 8, 8, 8, 8, 8, 8, 8, 8, 8, 8, 8, 8, 8, 8, 8, 8, 8, 8, 8, 8, 8, 8, 8, 8, 8, 8, 8, 8, 8, 8, 8, 8, 8, 8, 8, 8])) aS0), .s (.conv .i64 aS0), .s (.bin .add .int aS4 aS0), iQm 1 0] .ret)
def F348.g2 (X3 : IR) : IR := (.seq (iSr [iSm 0, iQo 4 (.bin .geq .int aS0 (.c (.int .u64 256)))] (.cond aT4 (iSr [iSm 0, .s (.bin .shr .int aS0 (.c (.int .u64 8))), iQm 0 0] (.reg [iSm 1, .s (.bin .add .int aS0 aC8), iQm 1 0])) .skip)) X3)
def F348.b2 : IR := F348.g2 F348.b3
def F348.g1 (X2 : IR) : IR := (.seq (iSr [iSm 0, iQo 3 (.bin .geq .int aS0 (.c (.int .u64 65536)))] (.cond aT3 (iSr [iSm 0, .s (.bin .shr .int aS0 (.c (.int .u64 16))), iQm 0 0] (.reg [iSm 1, .s (.bin .add .int aS0 aC16), iQm 1 0])) .skip)) X2)
def F348.b1 : IR := F348.g1 F348.b2
def F348.g0 (X1 : IR) : IR := (iSr [iQo 1 (.mv aC0)] (.seq (iSr [iSm 0, iQo 2 (.bin .geq .int aS0 (.c (.int .u64 4294967296)))] (.cond aT2 (iSr [iSm 0, .s (.bin .shr .int aS0 (.c (.int .u64 32))), iQm 0 0] (.reg [iQo 1 (.mv aC32)])) .skip)) X1))
def F348.b0 : IR := F348.g0 F348.b1
def F348.res : List RV := [.t (.of 1)]
def F348 : Fn := { params := [(.of 0)], res := F348.res, body := F348.b0, init := in5 }
theorem F348.ok : fnA Tryz.prog Tryz.f348 [0, 2, 4, 8, 14] = some F348 := by kernel_rfl
abbrev F351.fr := fr7
def F351.b12 : IR := (.dreg [] [(iSm 0, 0, []), (iSm 4, 0, []), (iSm 0, 1, []), (iSm 4, 1, []), (.s (.bin .sub .int aS0 aC1), 1, []), (iSm 0, 0, []), (iSm 4, 0, []), (.s (.bin .sub .int aS0 aC1), 0, []), (.s (.iaddr 1 aS2 aS0), 0, []), (.s (.load aS0), 0, []), (iSm 0, 0, []), (iSm 4, 0, []), (.s (.iaddr 1 aS1 aS0), 0, []), (.s (.load aS0), 0, []), (.s (.iaddr 1 aS13 aS12), 0, []), (.w .none none (.store 1 aS0 aS5), 0, []), (.s (.iaddr 1 aS12 aS10), 0, []), (.w .none none (.store 1 aS0 aS2), 0, [])])
def F351.g11 (X12 : IR) : IR := (.block 3 X12)
def F351.b11 : IR := F351.g11 F351.b12
def F351.b13 : IR := (.reg [iSm 4, .s (.bin .sub .int aS0 aC1), iQm 4 0])
def F351.g10 (X11 X13 : IR) : IR := (.seq X11 X13)
def F351.b10 : IR := F351.g10 F351.b11 F351.b13
def F351.g9 (X10 : IR) : IR := (.seq (.seq (.dreg [] [(iSm 4, 0, []), (iSm 1, 0, []), (.s (.bin .gtr .int aS1 aS0), 0, []), (.s (.mv aS0), 0, []), (iPt 0 (.mv aT0), 0, []), (iPt 1 (.mv aT4), 0, []), (iPt 2 (.iaddr 1 aS1 aS0), 0, []), (iPt 3 (.load aS0), 0, []), (iPt 4 (.mv aT0), 0, []), (iPt 5 (.mv aT4), 0, []), (iPt 6 (.bin .sub .int aS0 aC1), 0, []), (iPt 7 (.iaddr 1 aS2 aS0), 0, []), (iPt 8 (.load aS0), 0, []), (.w .push (some (aS9, true)) (.call (.c (.fn 357 (.of 357) [])) [aS5, aS0]), 0, []), (iQo 6 (.pick aS10 aS0 (.c (.bool false))), 0, [])]) (.cond aT6 .skip (.exit 2))) X10)
def F351.b9 : IR := F351.g9 F351.b10
def F351.g8 (X9 : IR) : IR := (.loop X9)
def F351.b8 : IR := F351.g8 F351.b9
def F351.g7 (X8 : IR) : IR := (.block 2 X8)
def F351.b7 : IR := F351.g7 F351.b8
def F351.g6 (X7 : IR) : IR := (iSr [iSm 3, iQm 4 0] X7)
def F351.b6 : IR := F351.g6 F351.b7
def F351.g5 (X6 : IR) : IR := (.block 1 X6)
def F351.b5 : IR := F351.g5 F351.b6
def F351.b14 : IR := (.reg [iSm 3, .s (.bin .add .int aS0 aC1), iQm 3 0])
def F351.g4 (X5 X14 : IR) : IR := (.seq X5 X14)
def F351.b4 : IR := F351.g4 F351.b5 F351.b14
def F351.g3 (X4 : IR) : IR := (.seq (iSr [iSm 3, iSm 2, iQo 5 (.bin .lss .int aS1 aS0)] (.cond aT5 .skip (.exit 0))) X4)
def F351.b3 : IR := F351.g3 F351.b4
def F351.g2 (X3 : IR) : IR := (.loop X3)
def F351.b2 : IR := F351.g2 F351.b3
def F351.g1 (X2 : IR) : IR := (.block 0 X2)
def F351.b1 : IR := F351.g1 F351.b2
def F351.g0 (X1 : IR) : IR := (iSr [iSm 1, .s (.bin .add .int aS0 aC1), iQm 3 0] X1)
def F351.b0 : IR := F351.g0 F351.b1
def F351.res : List RV := []
def F351 : Fn := { params := [(.of 0), (.of 1), (.of 2)], res := F351.res, body := F351.b0, init := in7 }
theorem F351.ok : fnA Tryz.prog Tryz.f351 [0, 1, 2, 6, 7, 12, 30] = some F351 := by kernel_rfl
abbrev F352.fr := fr10
def F352.b6 : IR := (.reg [iSm 0, iSm 6, iSm 5, iSm 3, iCa 405 [aS3, aS2, aS1, aS0]])
def F352.g5 (X6 : IR) : IR := (.block 1 X6)
def F352.b5 : IR := F352.g5 F352.b6
def F352.b7 : IR := (.reg [iSm 6, .s (.bin .sub .int aS0 aC1), iQm 6 0])
def F352.g4 (X5 X7 : IR) : IR := (.seq X5 X7)
def F352.b4 : IR := F352.g4 F352.b5 F352.b7
def F352.g3 (X4 : IR) : IR := (.seq (iSr [iSm 6, iQo 8 (.bin .geq .int aS0 aC0)] (.cond aT8 .skip (.exit 0))) X4)
def F352.b3 : IR := F352.g3 F352.b4
def F352.g2 (X3 : IR) : IR := (.loop X3)
def F352.b2 : IR := F352.g2 F352.b3
def F352.g1 (X2 : IR) : IR := (.block 0 X2)
def F352.b1 : IR := F352.g1 F352.b2
def F352.b14 : IR := (.seq (.dreg [] [(iSm 0, 0, []), (iSm 3, 0, []), (iSm 0, 1, []), (iSm 3, 1, []), (iSm 7, 1, []), (.s (.bin .add .int aS1 aS0), 1, []), (iSm 0, 0, []), (iSm 3, 0, []), (iSm 7, 0, []), (.s (.bin .add .int aS1 aS0), 0, []), (.s (.iaddr 1 aS3 aS0), 0, []), (.s (.load aS0), 0, []), (iSm 0, 0, []), (iSm 3, 0, []), (.s (.iaddr 1 aS1 aS0), 0, []), (.s (.load aS0), 0, []), (.s (.iaddr 1 aS15 aS14), 0, []), (.w .none none (.store 1 aS0 aS5), 0, []), (.s (.iaddr 1 aS14 aS11), 0, []), (.w .none none (.store 1 aS0 aS2), 0, [])]) (.reg [iSm 0, iSm 4, iSm 7, iSm 3, iCa 405 [aS3, aS2, aS1, aS0]]))
def F352.g13 (X14 : IR) : IR := (.block 3 X14)
def F352.b13 : IR := F352.g13 F352.b14
def F352.b15 : IR := (.reg [iSm 7, .s (.bin .sub .int aS0 aC1), iQm 7 0])
def F352.g12 (X13 X15 : IR) : IR := (.seq X13 X15)
def F352.b12 : IR := F352.g12 F352.b13 F352.b15
def F352.g11 (X12 : IR) : IR := (.seq (iSr [iSm 7, iQo 9 (.bin .geq .int aS0 aC0)] (.cond aT9 .skip (.exit 2))) X12)
def F352.b11 : IR := F352.g11 F352.b12
def F352.g10 (X11 : IR) : IR := (.loop X11)
def F352.b10 : IR := F352.g10 F352.b11
def F352.g9 (X10 : IR) : IR := (.block 2 X10)
def F352.b9 : IR := F352.g9 F352.b10
def F352.g8 (X9 : IR) : IR := (iSr [iSm 5, .s (.bin .sub .int aS0 aC1), iQm 7 0] X9)
def F352.b8 : IR := F352.g8 F352.b9
def F352.g0 (X1 X8 : IR) : IR := (iSr [iSm 1, iQm 3 0] (iSr [iQo 4 (.mv aC0)] (iSr [iSm 2, iSm 1, .s (.bin .sub .int aS1 aS0), iQm 5 0] (.seq (iSr [iSm 5, .s (.bin .sub .int aS0 aC1), .s (.bin .quo .int aS0 aC2), iQm 6 0] X1) X8))))
def F352.b0 : IR := F352.g0 F352.b1 F352.b8
def F352.res : List RV := []
def F352 : Fn := { params := [(.of 0), (.of 1), (.of 2)], res := F352.res, body := F352.b0, init := in10 }
theorem F352.ok : fnA Tryz.prog Tryz.f352 [0, 1, 2, 6, 7, 8, 9, 10, 19, 30] = some F352 := by kernel_rfl
abbrev F353.fr := fr11
def F353.b7 : IR := (.dreg [] [(iSm 0, 0, []), (iSm 6, 0, []), (iSm 0, 1, []), (iSm 1, 1, []), (iSm 7, 1, []), (.s (.bin .add .int aS1 aS0), 1, []), (iSm 0, 0, []), (iSm 1, 0, []), (iSm 7, 0, []), (.s (.bin .add .int aS1 aS0), 0, []), (.s (.iaddr 1 aS3 aS0), 0, []), (.s (.load aS0), 0, []), (iSm 0, 0, []), (iSm 6, 0, []), (.s (.iaddr 1 aS1 aS0), 0, []), (.s (.load aS0), 0, []), (.s (.iaddr 1 aS15 aS14), 0, []), (.w .none none (.store 1 aS0 aS5), 0, []), (.s (.iaddr 1 aS14 aS11), 0, []), (.w .none none (.store 1 aS0 aS2), 0, [])])
def F353.g6 (X7 : IR) : IR := (iSr [iCa 393 [aT4], iSm 5, .s (.bin .sub .int aS0 (.c (.int .u64 1))), .s (.bin .and .int aS2 aS0), .s (.conv .i64 aS0), iQm 7 0] (.seq (iSr [iSm 7, iSm 3, iQo 10 (.bin .geq .int aS1 aS0)] (.cond aT10 (.reg [iSm 7, iSm 3, .s (.bin .sub .int aS1 aS0), iQm 7 0]) .skip)) X7))
def F353.b6 : IR := F353.g6 F353.b7
def F353.g5 (X6 : IR) : IR := (.block 1 X6)
def F353.b5 : IR := F353.g5 F353.b6
def F353.b8 : IR := (.reg [iSm 6, .s (.bin .add .int aS0 aC1), iQm 6 0])
def F353.g4 (X5 X8 : IR) : IR := (.seq X5 X8)
def F353.b4 : IR := F353.g4 F353.b5 F353.b8
def F353.g3 (X4 : IR) : IR := (.seq (iSr [iSm 6, iSm 1, iSm 3, .s (.bin .quo .int aS0 aC4), .s (.bin .mul .int aS0 aC2), .s (.bin .add .int aS3 aS0), .s (.bin .add .int aS0 aC1), iQo 9 (.bin .leq .int aS6 aS0)] (.cond aT9 .skip (.exit 0))) X4)
def F353.b3 : IR := F353.g3 F353.b4
def F353.g2 (X3 : IR) : IR := (.loop X3)
def F353.b2 : IR := F353.g2 F353.b3
def F353.g1 (X2 : IR) : IR := (.block 0 X2)
def F353.b1 : IR := F353.g1 F353.b2
def F353.g0 (X1 : IR) : IR := (iSr [iSm 2, iSm 1, .s (.bin .sub .int aS1 aS0), iQm 3 0] (iSr [iSm 3, iQo 8 (.bin .geq .int aS0 aC8)] (.cond aT8 (iSr [iSm 3, .s (.conv .u64 aS0), iWl 4 (.alloc [(.int .u64 0)]), .w .none none (.store 1 aT4 aS0)] (iSr [iSm 3, iCa 392 [aS0], iQm 5 0] (iSr [iSm 1, iSm 3, .s (.bin .quo .int aS0 aC4), .s (.bin .mul .int aS0 aC2), .s (.bin .add .int aS3 aS0), .s (.bin .sub .int aS0 aC1), iQm 6 0] X1))) .skip)))
def F353.b0 : IR := F353.g0 F353.b1
def F353.res : List RV := []
def F353 : Fn := { params := [(.of 0), (.of 1), (.of 2)], res := F353.res, body := F353.b0, init := in11 }
theorem F353.ok : fnA Tryz.prog Tryz.f353 [0, 1, 2, 6, 7, 8, 9, 10, 15, 33, 43] = some F353 := by kernel_rfl
abbrev F354.fr := fr15
def F354.b1 : IR := (.reg [iSm 0, iSm 7, iSm 8, iSm 9, iCa 407 [aS3, aS2, aS1, aS0, aT6], iQm 8 0])
def F354.b4 : IR := (iSr [.s (.bin .eql .int aT12 aC0), iQm 13 0] (.cond aT13 (iSr [iSm 8, iQm 3 0, iQo 4 (.mv aC1)] .ret) (iSr [.s (.bin .eql .int aT12 aC12), iQm 14 0] (.cond aT14 (iSr [iSm 8, iQm 3 0, iQo 4 (.mv aC2)] .ret) (iSr [iSm 8, iQm 3 0, iQo 4 (.mv aC0)] .ret)))))
def F354.g3 (X4 : IR) : IR := (.block 0 X4)
def F354.b3 : IR := F354.g3 F354.b4
def F354.g2 (X3 : IR) : IR := (iSr [iQo 12 (.load aT6)] X3)
def F354.b2 : IR := F354.g2 F354.b3
def F354.g0 (X1 X2 : IR) : IR := (iSr [iQo 3 (.mv aC0), iQo 4 (.mv aC0)] (iSr [iSm 2, iSm 1, .s (.bin .sub .int aS1 aS0), iQm 5 0] (iSr [iWl 6 (.alloc [(I 0)])] (iSr [iSm 1, iSm 5, .s (.bin .quo .int aS0 aC4), .s (.bin .mul .int aS0 aC1), .s (.bin .add .int aS3 aS0), iQm 7 0] (iSr [iSm 1, iSm 5, .s (.bin .quo .int aS0 aC4), .s (.bin .mul .int aS0 aC2), .s (.bin .add .int aS3 aS0), iQm 8 0] (iSr [iSm 1, iSm 5, .s (.bin .quo .int aS0 aC4), .s (.bin .mul .int aS0 aC3), .s (.bin .add .int aS3 aS0), iQm 9 0] (.seq (iSr [iSm 5, iQo 10 (.bin .geq .int aS0 aC8)] (.cond aT10 (.seq (iSr [iSm 5, iQo 11 (.bin .geq .int aS0 aC50)] (.cond aT11 (iSr [iSm 0, iSm 7, iCa 406 [aS1, aS0, aT6], iQm 7 0] (iSr [iSm 0, iSm 8, iCa 406 [aS1, aS0, aT6], iQm 8 0] (.reg [iSm 0, iSm 9, iCa 406 [aS1, aS0, aT6], iQm 9 0]))) .skip)) X1) .skip)) X2)))))))
def F354.b0 : IR := F354.g0 F354.b1 F354.b2
def F354.res : List RV := [.t (.of 3), .t (.of 4)]
def F354 : Fn := { params := [(.of 0), (.of 1), (.of 2)], res := F354.res, body := F354.b0, init := in15 }
theorem F354.ok : fnA Tryz.prog Tryz.f354 [0, 1, 2, 6, 7, 8, 9, 10, 11, 12, 32, 34, 49, 51, 54] = some F354 := by kernel_rfl
abbrev F355.fr := fr6
def F355.b5 : IR := (.seq (.dreg [] [(iSm 0, 0, []), (iSm 3, 0, []), (iSm 0, 1, []), (iSm 4, 1, []), (iSm 0, 0, []), (iSm 4, 0, []), (.s (.iaddr 1 aS1 aS0), 0, []), (.s (.load aS0), 0, []), (iSm 0, 0, []), (iSm 3, 0, []), (.s (.iaddr 1 aS1 aS0), 0, []), (.s (.load aS0), 0, []), (.s (.iaddr 1 aS11 aS10), 0, []), (.w .none none (.store 1 aS0 aS5), 0, []), (.s (.iaddr 1 aS10 aS9), 0, []), (.w .none none (.store 1 aS0 aS2), 0, [])]) (iSr [iSm 3, .s (.bin .add .int aS0 aC1), iQm 3 0] (.reg [iSm 4, .s (.bin .sub .int aS0 aC1), iQm 4 0])))
def F355.g4 (X5 : IR) : IR := (.block 1 X5)
def F355.b4 : IR := F355.g4 F355.b5
def F355.g3 (X4 : IR) : IR := (.seq (iSr [iSm 3, iSm 4, iQo 5 (.bin .lss .int aS1 aS0)] (.cond aT5 .skip (.exit 0))) X4)
def F355.b3 : IR := F355.g3 F355.b4
def F355.g2 (X3 : IR) : IR := (.loop X3)
def F355.b2 : IR := F355.g2 F355.b3
def F355.g1 (X2 : IR) : IR := (.block 0 X2)
def F355.b1 : IR := F355.g1 F355.b2
def F355.g0 (X1 : IR) : IR := (iSr [iSm 1, iQm 3 0] (iSr [iSm 2, .s (.bin .sub .int aS0 aC1), iQm 4 0] X1))
def F355.b0 : IR := F355.g0 F355.b1
def F355.res : List RV := []
def F355 : Fn := { params := [(.of 0), (.of 1), (.of 2)], res := F355.res, body := F355.b0, init := in6 }
theorem F355.ok : fnA Tryz.prog Tryz.f355 [0, 1, 2, 6, 7, 13] = some F355 := by kernel_rfl
abbrev F356.fr := fr18
def F356.b11 : IR := (.reg [iSm 4, .s (.bin .add .int aS0 aC1), iQm 4 0])
def F356.g10 (X11 : IR) : IR := (.block 3 X11)
def F356.b10 : IR := F356.g10 F356.b11
def F356.g9 (X10 : IR) : IR := (.seq (.seq (.dreg [] [(iSm 4, 0, []), (iSm 2, 0, []), (.s (.bin .lss .int aS1 aS0), 0, []), (.s (.mv aS0), 0, []), (iPt 0 (.mv aT0), 0, []), (iPt 1 (.mv aT4), 0, []), (iPt 2 (.iaddr 1 aS1 aS0), 0, []), (iPt 3 (.load aS0), 0, []), (iPt 4 (.mv aT0), 0, []), (iPt 5 (.mv aT4), 0, []), (iPt 6 (.bin .sub .int aS0 aC1), 0, []), (iPt 7 (.iaddr 1 aS2 aS0), 0, []), (iPt 8 (.load aS0), 0, []), (.w .push (some (aS9, true)) (.call (.c (.fn 357 (.of 357) [])) [aS5, aS0]), 0, []), (iPt 10 (.not aS0), 0, []), (iQo 9 (.pick aS11 aS0 (.c (.bool false))), 0, [])]) (.cond aT9 .skip (.exit 2))) X10)
def F356.b9 : IR := F356.g9 F356.b10
def F356.g8 (X9 : IR) : IR := (.loop X9)
def F356.b8 : IR := F356.g8 F356.b9
def F356.g7 (X8 : IR) : IR := (.block 2 X8)
def F356.b7 : IR := F356.g7 F356.b8
def F356.b21 : IR := (.dreg [] [(iSm 0, 0, []), (iSm 6, 0, []), (iSm 0, 1, []), (iSm 6, 1, []), (.s (.bin .sub .int aS0 aC1), 1, []), (iSm 0, 0, []), (iSm 6, 0, []), (.s (.bin .sub .int aS0 aC1), 0, []), (.s (.iaddr 1 aS2 aS0), 0, []), (.s (.load aS0), 0, []), (iSm 0, 0, []), (iSm 6, 0, []), (.s (.iaddr 1 aS1 aS0), 0, []), (.s (.load aS0), 0, []), (.s (.iaddr 1 aS13 aS12), 0, []), (.w .none none (.store 1 aS0 aS5), 0, []), (.s (.iaddr 1 aS12 aS10), 0, []), (.w .none none (.store 1 aS0 aS2), 0, [])])
def F356.g20 (X21 : IR) : IR := (.seq (.seq (.dreg [] [(iSm 0, 0, []), (iSm 6, 0, []), (.s (.iaddr 1 aS1 aS0), 0, []), (.s (.load aS0), 0, []), (iSm 0, 0, []), (iSm 6, 0, []), (.s (.bin .sub .int aS0 aC1), 0, []), (.s (.iaddr 1 aS2 aS0), 0, []), (.s (.load aS0), 0, []), (iCa 357 [aS5, aS0], 0, []), (iQo 14 (.not aS0), 0, [])]) (.cond aT14 (.exit 4) .skip)) X21)
def F356.b20 : IR := F356.g20 F356.b21
def F356.g19 (X20 : IR) : IR := (.block 5 X20)
def F356.b19 : IR := F356.g19 F356.b20
def F356.b22 : IR := (.reg [iSm 6, .s (.bin .sub .int aS0 aC1), iQm 6 0])
def F356.g18 (X19 X22 : IR) : IR := (.seq X19 X22)
def F356.b18 : IR := F356.g18 F356.b19 F356.b22
def F356.g17 (X18 : IR) : IR := (.seq (iSr [iSm 6, iQo 13 (.bin .geq .int aS0 aC1)] (.cond aT13 .skip (.exit 4))) X18)
def F356.b17 : IR := F356.g17 F356.b18
def F356.g16 (X17 : IR) : IR := (.loop X17)
def F356.b16 : IR := F356.g16 F356.b17
def F356.g15 (X16 : IR) : IR := (.block 4 X16)
def F356.b15 : IR := F356.g15 F356.b16
def F356.b30 : IR := (.dreg [] [(iSm 0, 0, []), (iSm 7, 0, []), (iSm 0, 1, []), (iSm 7, 1, []), (.s (.bin .sub .int aS0 aC1), 1, []), (iSm 0, 0, []), (iSm 7, 0, []), (.s (.bin .sub .int aS0 aC1), 0, []), (.s (.iaddr 1 aS2 aS0), 0, []), (.s (.load aS0), 0, []), (iSm 0, 0, []), (iSm 7, 0, []), (.s (.iaddr 1 aS1 aS0), 0, []), (.s (.load aS0), 0, []), (.s (.iaddr 1 aS13 aS12), 0, []), (.w .none none (.store 1 aS0 aS5), 0, []), (.s (.iaddr 1 aS12 aS10), 0, []), (.w .none none (.store 1 aS0 aS2), 0, [])])
def F356.g29 (X30 : IR) : IR := (.seq (.seq (.dreg [] [(iSm 0, 0, []), (iSm 7, 0, []), (.s (.iaddr 1 aS1 aS0), 0, []), (.s (.load aS0), 0, []), (iSm 0, 0, []), (iSm 7, 0, []), (.s (.bin .sub .int aS0 aC1), 0, []), (.s (.iaddr 1 aS2 aS0), 0, []), (.s (.load aS0), 0, []), (iCa 357 [aS5, aS0], 0, []), (iQo 17 (.not aS0), 0, [])]) (.cond aT17 (.exit 6) .skip)) X30)
def F356.b29 : IR := F356.g29 F356.b30
def F356.g28 (X29 : IR) : IR := (.block 7 X29)
def F356.b28 : IR := F356.g28 F356.b29
def F356.b31 : IR := (.reg [iSm 7, .s (.bin .add .int aS0 aC1), iQm 7 0])
def F356.g27 (X28 X31 : IR) : IR := (.seq X28 X31)
def F356.b27 : IR := F356.g27 F356.b28 F356.b31
def F356.g26 (X27 : IR) : IR := (.seq (iSr [iSm 7, iSm 2, iQo 16 (.bin .lss .int aS1 aS0)] (.cond aT16 .skip (.exit 6))) X27)
def F356.b26 : IR := F356.g26 F356.b27
def F356.g25 (X26 : IR) : IR := (.loop X26)
def F356.b25 : IR := F356.g25 F356.b26
def F356.g24 (X25 : IR) : IR := (.block 6 X25)
def F356.b24 : IR := F356.g24 F356.b25
def F356.g23 (X24 : IR) : IR := (iSr [iSm 2, iSm 4, .s (.bin .sub .int aS1 aS0), iQo 15 (.bin .geq .int aS0 aC2)] (.cond aT15 (iSr [iSm 4, .s (.bin .add .int aS0 aC1), iQm 7 0] X24) .skip))
def F356.b23 : IR := F356.g23 F356.b24
def F356.g14 (X15 X23 : IR) : IR := (.seq (.dreg [] [(iSm 0, 0, []), (iSm 4, 0, []), (iSm 0, 1, []), (iSm 4, 1, []), (.s (.bin .sub .int aS0 aC1), 1, []), (iSm 0, 0, []), (iSm 4, 0, []), (.s (.bin .sub .int aS0 aC1), 0, []), (.s (.iaddr 1 aS2 aS0), 0, []), (.s (.load aS0), 0, []), (iSm 0, 0, []), (iSm 4, 0, []), (.s (.iaddr 1 aS1 aS0), 0, []), (.s (.load aS0), 0, []), (.s (.iaddr 1 aS13 aS12), 0, []), (.w .none none (.store 1 aS0 aS5), 0, []), (.s (.iaddr 1 aS12 aS10), 0, []), (.w .none none (.store 1 aS0 aS2), 0, [])]) (.seq (iSr [iSm 4, iSm 1, .s (.bin .sub .int aS1 aS0), iQo 12 (.bin .geq .int aS0 aC2)] (.cond aT12 (iSr [iSm 4, .s (.bin .sub .int aS0 aC1), iQm 6 0] X15) .skip)) X23))
def F356.b14 : IR := F356.g14 F356.b15 F356.b23
def F356.g13 (X14 : IR) : IR := (.seq (iSr [iSm 2, iSm 1, .s (.bin .sub .int aS1 aS0), iQo 11 (.bin .lss .int aS0 aC50)] (.cond aT11 (iSr [iQo 3 (.mv (.c (.bool false)))] .ret) .skip)) X14)
def F356.b13 : IR := F356.g13 F356.b14
def F356.g12 (X13 : IR) : IR := (.seq (iSr [iSm 4, iSm 2, iQo 10 (.bin .eql .int aS1 aS0)] (.cond aT10 (iSr [iQo 3 (.mv (.c (.bool true)))] .ret) .skip)) X13)
def F356.b12 : IR := F356.g12 F356.b13
def F356.g6 (X7 X12 : IR) : IR := (.seq X7 X12)
def F356.b6 : IR := F356.g6 F356.b7 F356.b12
def F356.g5 (X6 : IR) : IR := (.block 1 X6)
def F356.b5 : IR := F356.g5 F356.b6
def F356.b32 : IR := (.reg [iSm 5, .s (.bin .add .int aS0 aC1), iQm 5 0])
def F356.g4 (X5 X32 : IR) : IR := (.seq X5 X32)
def F356.b4 : IR := F356.g4 F356.b5 F356.b32
def F356.g3 (X4 : IR) : IR := (.seq (iSr [iSm 5, iQo 8 (.bin .lss .int aS0 aC5)] (.cond aT8 .skip (.exit 0))) X4)
def F356.b3 : IR := F356.g3 F356.b4
def F356.g2 (X3 : IR) : IR := (.loop X3)
def F356.b2 : IR := F356.g2 F356.b3
def F356.g1 (X2 : IR) : IR := (.block 0 X2)
def F356.b1 : IR := F356.g1 F356.b2
def F356.b33 : IR := (iSr [iQo 3 (.mv (.c (.bool false)))] .ret)
def F356.g0 (X1 X33 : IR) : IR := (iSr [iQo 3 (.mv (.c (.bool false)))] (iSr [iSm 1, .s (.bin .add .int aS0 aC1), iQm 4 0] (.seq (iSr [iQo 5 (.mv aC0)] X1) X33)))
def F356.b0 : IR := F356.g0 F356.b1 F356.b33
def F356.res : List RV := [.t (.of 3)]
def F356 : Fn := { params := [(.of 0), (.of 1), (.of 2)], res := F356.res, body := F356.b0, init := in18 }
theorem F356.ok : fnA Tryz.prog Tryz.f356 [0, 1, 2, 6, 7, 8, 9, 10, 14, 32, 37, 41, 61, 65, 78, 98, 103, 116] = some F356 := by kernel_rfl
abbrev F357.fr := fr3
def F357.b0 : IR := (iSr [iQo 2 (.mv (.c (.bool false)))] (iSr [iSm 0, iCa 396 [aS0], .s (.mv aS0), iPt 0 (.mv aT1), .w .push (some (aS1, true)) (.call (.c (.fn 396 (.of 396) [])) [aS0]), iPt 2 (.not aS0), .s (.pick aS3 aS0 (.c (.bool false))), .s (.mv aS0), iPf 0 (.mv aT0), iPf 1 (.mv aT1), iPf 2 (.bin .lss .int aS1 aS0), .s (.pick aS3 (.c (.bool true)) aS0), iQm 2 0] .ret))
def F357.res : List RV := [.t (.of 2)]
def F357 : Fn := { params := [(.of 0), (.of 1)], res := F357.res, body := F357.b0, init := in3 }
theorem F357.ok : fnA Tryz.prog Tryz.f357 [0, 1, 4] = some F357 := by kernel_rfl
abbrev F358.fr := fr10
def F358.b9 : IR := (.reg [iSm 5, .s (.bin .add .int aS0 aC1), iQm 5 0])
def F358.g8 (X9 : IR) : IR := (.block 3 X9)
def F358.b8 : IR := F358.g8 F358.b9
def F358.g7 (X8 : IR) : IR := (.seq (.seq (.dreg [] [(iSm 5, 0, []), (iSm 6, 0, []), (.s (.bin .leq .int aS1 aS0), 0, []), (.s (.mv aS0), 0, []), (iPt 0 (.mv aT0), 0, []), (iPt 1 (.mv aT1), 0, []), (iPt 2 (.iaddr 1 aS1 aS0), 0, []), (iPt 3 (.load aS0), 0, []), (iPt 4 (.mv aT0), 0, []), (iPt 5 (.mv aT5), 0, []), (iPt 6 (.iaddr 1 aS1 aS0), 0, []), (iPt 7 (.load aS0), 0, []), (.w .push (some (aS8, true)) (.call (.c (.fn 357 (.of 357) [])) [aS4, aS0]), 0, []), (iPt 9 (.not aS0), 0, []), (iQo 7 (.pick aS10 aS0 (.c (.bool false))), 0, [])]) (.cond aT7 .skip (.exit 2))) X8)
def F358.b7 : IR := F358.g7 F358.b8
def F358.g6 (X7 : IR) : IR := (.loop X7)
def F358.b6 : IR := F358.g6 F358.b7
def F358.g5 (X6 : IR) : IR := (.block 2 X6)
def F358.b5 : IR := F358.g5 F358.b6
def F358.b15 : IR := (.reg [iSm 6, .s (.bin .sub .int aS0 aC1), iQm 6 0])
def F358.g14 (X15 : IR) : IR := (.block 5 X15)
def F358.b14 : IR := F358.g14 F358.b15
def F358.g13 (X14 : IR) : IR := (.seq (.seq (.dreg [] [(iSm 5, 0, []), (iSm 6, 0, []), (.s (.bin .leq .int aS1 aS0), 0, []), (.s (.mv aS0), 0, []), (iPt 0 (.mv aT0), 0, []), (iPt 1 (.mv aT1), 0, []), (iPt 2 (.iaddr 1 aS1 aS0), 0, []), (iPt 3 (.load aS0), 0, []), (iPt 4 (.mv aT0), 0, []), (iPt 5 (.mv aT6), 0, []), (iPt 6 (.iaddr 1 aS1 aS0), 0, []), (iPt 7 (.load aS0), 0, []), (.w .push (some (aS8, true)) (.call (.c (.fn 357 (.of 357) [])) [aS4, aS0]), 0, []), (iQo 8 (.pick aS9 aS0 (.c (.bool false))), 0, [])]) (.cond aT8 .skip (.exit 4))) X14)
def F358.b13 : IR := F358.g13 F358.b14
def F358.g12 (X13 : IR) : IR := (.loop X13)
def F358.b12 : IR := F358.g12 F358.b13
def F358.g11 (X12 : IR) : IR := (.block 4 X12)
def F358.b11 : IR := F358.g11 F358.b12
def F358.b17 : IR := (.seq (.dreg [] [(iSm 0, 0, []), (iSm 5, 0, []), (iSm 0, 1, []), (iSm 6, 1, []), (iSm 0, 0, []), (iSm 6, 0, []), (.s (.iaddr 1 aS1 aS0), 0, []), (.s (.load aS0), 0, []), (iSm 0, 0, []), (iSm 5, 0, []), (.s (.iaddr 1 aS1 aS0), 0, []), (.s (.load aS0), 0, []), (.s (.iaddr 1 aS11 aS10), 0, []), (.w .none none (.store 1 aS0 aS5), 0, []), (.s (.iaddr 1 aS10 aS9), 0, []), (.w .none none (.store 1 aS0 aS2), 0, [])]) (iSr [iSm 5, .s (.bin .add .int aS0 aC1), iQm 5 0] (.reg [iSm 6, .s (.bin .sub .int aS0 aC1), iQm 6 0])))
def F358.g16 (X17 : IR) : IR := (.seq (iSr [iSm 5, iSm 6, iQo 9 (.bin .gtr .int aS1 aS0)] (.cond aT9 (.exit 0) .skip)) X17)
def F358.b16 : IR := F358.g16 F358.b17
def F358.g10 (X11 X16 : IR) : IR := (.seq X11 X16)
def F358.b10 : IR := F358.g10 F358.b11 F358.b16
def F358.g4 (X5 X10 : IR) : IR := (.seq X5 X10)
def F358.b4 : IR := F358.g4 F358.b5 F358.b10
def F358.g3 (X4 : IR) : IR := (.block 1 X4)
def F358.b3 : IR := F358.g3 F358.b4
def F358.g2 (X3 : IR) : IR := (.loop X3)
def F358.b2 : IR := F358.g2 F358.b3
def F358.g1 (X2 : IR) : IR := (.block 0 X2)
def F358.b1 : IR := F358.g1 F358.b2
def F358.b18 : IR := (iSr [iSm 5, iQm 4 0] .ret)
def F358.g0 (X1 X18 : IR) : IR := (iSr [iQo 4 (.mv aC0)] (.seq (.dreg [] [(iSm 0, 0, []), (iSm 1, 0, []), (iSm 0, 1, []), (iSm 3, 1, []), (iSm 0, 0, []), (iSm 3, 0, []), (.s (.iaddr 1 aS1 aS0), 0, []), (.s (.load aS0), 0, []), (iSm 0, 0, []), (iSm 1, 0, []), (.s (.iaddr 1 aS1 aS0), 0, []), (.s (.load aS0), 0, []), (.s (.iaddr 1 aS11 aS10), 0, []), (.w .none none (.store 1 aS0 aS5), 0, []), (.s (.iaddr 1 aS10 aS9), 0, []), (.w .none none (.store 1 aS0 aS2), 0, [])]) (iSr [iSm 1, .s (.bin .add .int aS0 aC1), iSm 2, .s (.bin .sub .int aS0 aC1), iQm 5 2, iQm 6 0] (.seq X1 X18))))
def F358.b0 : IR := F358.g0 F358.b1 F358.b18
def F358.res : List RV := [.t (.of 4)]
def F358 : Fn := { params := [(.of 0), (.of 1), (.of 2), (.of 3)], res := F358.res, body := F358.b0, init := in10 }
theorem F358.ok : fnA Tryz.prog Tryz.f358 [0, 1, 2, 3, 8, 9, 10, 43, 59, 64] = some F358 := by kernel_rfl
abbrev F359.fr := fr14
def F359.b5 : IR := (.reg [iSm 6, .s (.bin .add .int aS0 aC1), iQm 6 0])
def F359.g4 (X5 : IR) : IR := (.block 1 X5)
def F359.b4 : IR := F359.g4 F359.b5
def F359.g3 (X4 : IR) : IR := (.seq (.seq (.dreg [] [(iSm 6, 0, []), (iSm 7, 0, []), (.s (.bin .leq .int aS1 aS0), 0, []), (.s (.mv aS0), 0, []), (iPt 0 (.mv aT0), 0, []), (iPt 1 (.mv aT6), 0, []), (iPt 2 (.iaddr 1 aS1 aS0), 0, []), (iPt 3 (.load aS0), 0, []), (iPt 4 (.mv aT0), 0, []), (iPt 5 (.mv aT1), 0, []), (iPt 6 (.iaddr 1 aS1 aS0), 0, []), (iPt 7 (.load aS0), 0, []), (.w .push (some (aS8, true)) (.call (.c (.fn 357 (.of 357) [])) [aS4, aS0]), 0, []), (iQo 8 (.pick aS9 aS0 (.c (.bool false))), 0, [])]) (.cond aT8 .skip (.exit 0))) X4)
def F359.b3 : IR := F359.g3 F359.b4
def F359.g2 (X3 : IR) : IR := (.loop X3)
def F359.b2 : IR := F359.g2 F359.b3
def F359.g1 (X2 : IR) : IR := (.block 0 X2)
def F359.b1 : IR := F359.g1 F359.b2
def F359.b11 : IR := (.reg [iSm 7, .s (.bin .sub .int aS0 aC1), iQm 7 0])
def F359.g10 (X11 : IR) : IR := (.block 3 X11)
def F359.b10 : IR := F359.g10 F359.b11
def F359.g9 (X10 : IR) : IR := (.seq (.seq (.dreg [] [(iSm 6, 0, []), (iSm 7, 0, []), (.s (.bin .leq .int aS1 aS0), 0, []), (.s (.mv aS0), 0, []), (iPt 0 (.mv aT0), 0, []), (iPt 1 (.mv aT7), 0, []), (iPt 2 (.iaddr 1 aS1 aS0), 0, []), (iPt 3 (.load aS0), 0, []), (iPt 4 (.mv aT0), 0, []), (iPt 5 (.mv aT1), 0, []), (iPt 6 (.iaddr 1 aS1 aS0), 0, []), (iPt 7 (.load aS0), 0, []), (.w .push (some (aS8, true)) (.call (.c (.fn 357 (.of 357) [])) [aS4, aS0]), 0, []), (iPt 9 (.not aS0), 0, []), (iQo 9 (.pick aS10 aS0 (.c (.bool false))), 0, [])]) (.cond aT9 .skip (.exit 2))) X10)
def F359.b9 : IR := F359.g9 F359.b10
def F359.g8 (X9 : IR) : IR := (.loop X9)
def F359.b8 : IR := F359.g8 F359.b9
def F359.g7 (X8 : IR) : IR := (.block 2 X8)
def F359.b7 : IR := F359.g7 F359.b8
def F359.b22 : IR := (.reg [iSm 6, .s (.bin .add .int aS0 aC1), iQm 6 0])
def F359.g21 (X22 : IR) : IR := (.block 7 X22)
def F359.b21 : IR := F359.g21 F359.b22
def F359.g20 (X21 : IR) : IR := (.seq (.seq (.dreg [] [(iSm 6, 0, []), (iSm 7, 0, []), (.s (.bin .leq .int aS1 aS0), 0, []), (.s (.mv aS0), 0, []), (iPt 0 (.mv aT0), 0, []), (iPt 1 (.mv aT6), 0, []), (iPt 2 (.iaddr 1 aS1 aS0), 0, []), (iPt 3 (.load aS0), 0, []), (iPt 4 (.mv aT0), 0, []), (iPt 5 (.mv aT1), 0, []), (iPt 6 (.iaddr 1 aS1 aS0), 0, []), (iPt 7 (.load aS0), 0, []), (.w .push (some (aS8, true)) (.call (.c (.fn 357 (.of 357) [])) [aS4, aS0]), 0, []), (iQo 11 (.pick aS9 aS0 (.c (.bool false))), 0, [])]) (.cond aT11 .skip (.exit 6))) X21)
def F359.b20 : IR := F359.g20 F359.b21
def F359.g19 (X20 : IR) : IR := (.loop X20)
def F359.b19 : IR := F359.g19 F359.b20
def F359.g18 (X19 : IR) : IR := (.block 6 X19)
def F359.b18 : IR := F359.g18 F359.b19
def F359.b28 : IR := (.reg [iSm 7, .s (.bin .sub .int aS0 aC1), iQm 7 0])
def F359.g27 (X28 : IR) : IR := (.block 9 X28)
def F359.b27 : IR := F359.g27 F359.b28
def F359.g26 (X27 : IR) : IR := (.seq (.seq (.dreg [] [(iSm 6, 0, []), (iSm 7, 0, []), (.s (.bin .leq .int aS1 aS0), 0, []), (.s (.mv aS0), 0, []), (iPt 0 (.mv aT0), 0, []), (iPt 1 (.mv aT7), 0, []), (iPt 2 (.iaddr 1 aS1 aS0), 0, []), (iPt 3 (.load aS0), 0, []), (iPt 4 (.mv aT0), 0, []), (iPt 5 (.mv aT1), 0, []), (iPt 6 (.iaddr 1 aS1 aS0), 0, []), (iPt 7 (.load aS0), 0, []), (.w .push (some (aS8, true)) (.call (.c (.fn 357 (.of 357) [])) [aS4, aS0]), 0, []), (iPt 9 (.not aS0), 0, []), (iQo 12 (.pick aS10 aS0 (.c (.bool false))), 0, [])]) (.cond aT12 .skip (.exit 8))) X27)
def F359.b26 : IR := F359.g26 F359.b27
def F359.g25 (X26 : IR) : IR := (.loop X26)
def F359.b25 : IR := F359.g25 F359.b26
def F359.g24 (X25 : IR) : IR := (.block 8 X25)
def F359.b24 : IR := F359.g24 F359.b25
def F359.b30 : IR := (.seq (.dreg [] [(iSm 0, 0, []), (iSm 6, 0, []), (iSm 0, 1, []), (iSm 7, 1, []), (iSm 0, 0, []), (iSm 7, 0, []), (.s (.iaddr 1 aS1 aS0), 0, []), (.s (.load aS0), 0, []), (iSm 0, 0, []), (iSm 6, 0, []), (.s (.iaddr 1 aS1 aS0), 0, []), (.s (.load aS0), 0, []), (.s (.iaddr 1 aS11 aS10), 0, []), (.w .none none (.store 1 aS0 aS5), 0, []), (.s (.iaddr 1 aS10 aS9), 0, []), (.w .none none (.store 1 aS0 aS2), 0, [])]) (iSr [iSm 6, .s (.bin .add .int aS0 aC1), iQm 6 0] (.reg [iSm 7, .s (.bin .sub .int aS0 aC1), iQm 7 0])))
def F359.g29 (X30 : IR) : IR := (.seq (iSr [iSm 6, iSm 7, iQo 13 (.bin .gtr .int aS1 aS0)] (.cond aT13 (.exit 4) .skip)) X30)
def F359.b29 : IR := F359.g29 F359.b30
def F359.g23 (X24 X29 : IR) : IR := (.seq X24 X29)
def F359.b23 : IR := F359.g23 F359.b24 F359.b29
def F359.g17 (X18 X23 : IR) : IR := (.seq X18 X23)
def F359.b17 : IR := F359.g17 F359.b18 F359.b23
def F359.g16 (X17 : IR) : IR := (.block 5 X17)
def F359.b16 : IR := F359.g16 F359.b17
def F359.g15 (X16 : IR) : IR := (.loop X16)
def F359.b15 : IR := F359.g15 F359.b16
def F359.g14 (X15 : IR) : IR := (.block 4 X15)
def F359.b14 : IR := F359.g14 F359.b15
def F359.b31 : IR := (.seq (.dreg [] [(iSm 0, 0, []), (iSm 7, 0, []), (iSm 0, 1, []), (iSm 1, 1, []), (iSm 0, 0, []), (iSm 1, 0, []), (.s (.iaddr 1 aS1 aS0), 0, []), (.s (.load aS0), 0, []), (iSm 0, 0, []), (iSm 7, 0, []), (.s (.iaddr 1 aS1 aS0), 0, []), (.s (.load aS0), 0, []), (.s (.iaddr 1 aS11 aS10), 0, []), (.w .none none (.store 1 aS0 aS5), 0, []), (.s (.iaddr 1 aS10 aS9), 0, []), (.w .none none (.store 1 aS0 aS2), 0, [])]) (iSr [iSm 7, iQm 4 0, iQo 5 (.mv (.c (.bool false)))] .ret))
def F359.g13 (X14 X31 : IR) : IR := (.seq (.dreg [] [(iSm 0, 0, []), (iSm 6, 0, []), (iSm 0, 1, []), (iSm 7, 1, []), (iSm 0, 0, []), (iSm 7, 0, []), (.s (.iaddr 1 aS1 aS0), 0, []), (.s (.load aS0), 0, []), (iSm 0, 0, []), (iSm 6, 0, []), (.s (.iaddr 1 aS1 aS0), 0, []), (.s (.load aS0), 0, []), (.s (.iaddr 1 aS11 aS10), 0, []), (.w .none none (.store 1 aS0 aS5), 0, []), (.s (.iaddr 1 aS10 aS9), 0, []), (.w .none none (.store 1 aS0 aS2), 0, [])]) (iSr [iSm 6, .s (.bin .add .int aS0 aC1), iQm 6 0] (iSr [iSm 7, .s (.bin .sub .int aS0 aC1), iQm 7 0] (.seq X14 X31))))
def F359.b13 : IR := F359.g13 F359.b14 F359.b31
def F359.g12 (X13 : IR) : IR := (.seq (iSr [iSm 6, iSm 7, iQo 10 (.bin .gtr .int aS1 aS0)] (.cond aT10 (.seq (.dreg [] [(iSm 0, 0, []), (iSm 7, 0, []), (iSm 0, 1, []), (iSm 1, 1, []), (iSm 0, 0, []), (iSm 1, 0, []), (.s (.iaddr 1 aS1 aS0), 0, []), (.s (.load aS0), 0, []), (iSm 0, 0, []), (iSm 7, 0, []), (.s (.iaddr 1 aS1 aS0), 0, []), (.s (.load aS0), 0, []), (.s (.iaddr 1 aS11 aS10), 0, []), (.w .none none (.store 1 aS0 aS5), 0, []), (.s (.iaddr 1 aS10 aS9), 0, []), (.w .none none (.store 1 aS0 aS2), 0, [])]) (iSr [iSm 7, iQm 4 0, iQo 5 (.mv (.c (.bool true)))] .ret)) .skip)) X13)
def F359.b12 : IR := F359.g12 F359.b13
def F359.g6 (X7 X12 : IR) : IR := (.seq X7 X12)
def F359.b6 : IR := F359.g6 F359.b7 F359.b12
def F359.g0 (X1 X6 : IR) : IR := (iSr [iQo 4 (.mv aC0), iQo 5 (.mv (.c (.bool false)))] (.seq (.dreg [] [(iSm 0, 0, []), (iSm 1, 0, []), (iSm 0, 1, []), (iSm 3, 1, []), (iSm 0, 0, []), (iSm 3, 0, []), (.s (.iaddr 1 aS1 aS0), 0, []), (.s (.load aS0), 0, []), (iSm 0, 0, []), (iSm 1, 0, []), (.s (.iaddr 1 aS1 aS0), 0, []), (.s (.load aS0), 0, []), (.s (.iaddr 1 aS11 aS10), 0, []), (.w .none none (.store 1 aS0 aS5), 0, []), (.s (.iaddr 1 aS10 aS9), 0, []), (.w .none none (.store 1 aS0 aS2), 0, [])]) (iSr [iSm 1, .s (.bin .add .int aS0 aC1), iSm 2, .s (.bin .sub .int aS0 aC1), iQm 6 2, iQm 7 0] (.seq X1 X6))))
def F359.b0 : IR := F359.g0 F359.b1 F359.b6
def F359.res : List RV := [.t (.of 4), .t (.of 5)]
def F359 : Fn := { params := [(.of 0), (.of 1), (.of 2), (.of 3)], res := F359.res, body := F359.b0, init := in14 }
theorem F359.ok : fnA Tryz.prog Tryz.f359 [0, 1, 2, 3, 8, 9, 10, 11, 43, 60, 65, 112, 129, 134] = some F359 := by kernel_rfl
abbrev F381.fr := fr7
def F381.b3 : IR := (.reg [iQo 4 (.mv aT6)])
def F381.b5 : IR := (.reg [.s (.load aT2), iSm 4, .w .push none (.bslice 1 1 [(I 0)] [(0, 1, aS0)]), .w .push none (.app 1 8 aS2 aS0), .w .none none (.store 1 aT2 aS0)])
def F381.g4 (X5 : IR) : IR := (.block 1 X5)
def F381.b4 : IR := F381.g4 F381.b5
def F381.g2 (X3 X4 : IR) : IR := (.rf aT5 [(.of 6)] X3 X4)
def F381.b2 : IR := F381.g2 F381.b3 F381.b4
def F381.g1 (X2 : IR) : IR := (.block 0 X2)
def F381.b1 : IR := F381.g1 F381.b2
def F381.b6 : IR := (iSr [.s (.load aT2), iQm 3 0] .ret)
def F381.g0 (X1 X6 : IR) : IR := (iSr [iWl 2 (.box aT0), iQo 3 (.mv (.c .nils))] (.seq (iSr [iQo 5 (.mv aT1)] X1) X6))
def F381.b0 : IR := F381.g0 F381.b1 F381.b6
def F381.res : List RV := [.t (.of 3)]
def F381 : Fn := { params := [(.of 0), (.of 1)], res := F381.res, body := F381.b0, init := in7 }
theorem F381.ok : fnA Tryz.prog Tryz.f381 [0, 1, 2, 4, 5, 6, 7] = some F381 := by kernel_rfl
abbrev F382.fr := fr2
def F382.b0 : IR := (iSr [iQo 1 (.mv (.c (.str [])))] (iSr [iSm 0, iCa 412 [aS0, aC10], iQm 1 0] .ret))
def F382.res : List RV := [.t (.of 1)]
def F382 : Fn := { params := [(.of 0)], res := F382.res, body := F382.b0, init := in2 }
theorem F382.ok : fnA Tryz.prog Tryz.f382 [0, 2] = some F382 := by kernel_rfl
abbrev F389.fr := fr3
def F389.b0 : IR := (iSr [iQo 2 (.mv (.c (.bool false)))] (iSr [iSm 0, iSm 1, .s (.bin .shr .int aS1 aS0), .s (.bin .and .int aS0 (.c (.int .u32 1))), .s (.bin .eql .int aS0 (.c (.int .u32 1))), iQm 2 0] .ret))
def F389.res : List RV := [.t (.of 2)]
def F389 : Fn := { params := [(.of 0), (.of 1)], res := F389.res, body := F389.b0, init := in3 }
theorem F389.ok : fnA Tryz.prog Tryz.f389 [0, 1, 4] = some F389 := by kernel_rfl
abbrev F390.fr := fr3
def F390.b0 : IR := (iSr [iQo 2 (.mv (.c (.int .u32 0)))] (iSr [iSm 0, iSm 1, .s (.bin .shl .int (.c (.int .u32 1)) aS0), .s (.bin .or .int aS2 aS0), iQm 2 0] .ret))
def F390.res : List RV := [.t (.of 2)]
def F390 : Fn := { params := [(.of 0), (.of 1)], res := F390.res, body := F390.b0, init := in3 }
theorem F390.ok : fnA Tryz.prog Tryz.f390 [0, 1, 4] = some F390 := by kernel_rfl
abbrev F392.fr := fr2
def F392.b0 : IR := (iSr [iQo 1 (.mv (.c (.int .u64 0)))] (iSr [iSm 0, .s (.conv .u64 aS0), iCa 280 [aS0], .s (.bin .shl .int (.c (.int .u64 1)) aS0), iQm 1 0] .ret))
def F392.res : List RV := [.t (.of 1)]
def F392 : Fn := { params := [(.of 0)], res := F392.res, body := F392.b0, init := in2 }
theorem F392.ok : fnA Tryz.prog Tryz.f392 [0, 2] = some F392 := by kernel_rfl
abbrev F393.fr := fr2
def F393.b0 : IR := (iSr [iQo 1 (.mv (.c (.int .u64 0)))] (.seq (.dreg [] [(iSm 0, 0, []), (.s (.nilc aS0), 0, []), (.s (.load aS0), 0, []), (iSm 0, 0, []), (.s (.nilc aS0), 0, []), (.s (.load aS0), 0, []), (.s (.bin .shl .int aS0 (.c (.int .u64 13))), 0, []), (.s (.bin .xor .int aS4 aS0), 0, []), (.s (.nilc aS7), 0, []), (.w .none none (.store 1 aS0 aS1), 0, [])]) (.seq (.dreg [] [(iSm 0, 0, []), (.s (.nilc aS0), 0, []), (.s (.load aS0), 0, []), (iSm 0, 0, []), (.s (.nilc aS0), 0, []), (.s (.load aS0), 0, []), (.s (.bin .shr .int aS0 (.c (.int .u64 7))), 0, []), (.s (.bin .xor .int aS4 aS0), 0, []), (.s (.nilc aS7), 0, []), (.w .none none (.store 1 aS0 aS1), 0, [])]) (.seq (.dreg [] [(iSm 0, 0, []), (.s (.nilc aS0), 0, []), (.s (.load aS0), 0, []), (iSm 0, 0, []), (.s (.nilc aS0), 0, []), (.s (.load aS0), 0, []), (.s (.bin .shl .int aS0 (.c (.int .u64 17))), 0, []), (.s (.bin .xor .int aS4 aS0), 0, []), (.s (.nilc aS7), 0, []), (.w .none none (.store 1 aS0 aS1), 0, [])]) (iSr [iSm 0, .s (.nilc aS0), .s (.load aS0), iQm 1 0] .ret)))))
def F393.res : List RV := [.t (.of 1)]
def F393 : Fn := { params := [(.of 0)], res := F393.res, body := F393.b0, init := in2 }
theorem F393.ok : fnA Tryz.prog Tryz.f393 [0, 2] = some F393 := by kernel_rfl
abbrev F396.fr := fr2
def F396.b0 : IR := (iSr [iQo 1 (.mv (.c (.bool false)))] (iSr [iSm 0, iSm 0, .s (.bin .neq .int aS1 aS0), iQm 1 0] .ret))
def F396.res : List RV := [.t (.of 1)]
def F396 : Fn := { params := [(.of 0)], res := F396.res, body := F396.b0, init := in2 }
theorem F396.ok : fnA Tryz.prog Tryz.f396 [0, 2] = some F396 := by kernel_rfl
abbrev F405.fr := fr9
def F405.b7 : IR := (.seq (.dreg [] [(iSm 0, 0, []), (iSm 3, 0, []), (iSm 4, 0, []), (.s (.bin .add .int aS1 aS0), 0, []), (iSm 0, 1, []), (iSm 3, 1, []), (iSm 5, 1, []), (.s (.bin .add .int aS1 aS0), 1, []), (iSm 0, 0, []), (iSm 3, 0, []), (iSm 5, 0, []), (.s (.bin .add .int aS1 aS0), 0, []), (.s (.iaddr 1 aS3 aS0), 0, []), (.s (.load aS0), 0, []), (iSm 0, 0, []), (iSm 3, 0, []), (iSm 4, 0, []), (.s (.bin .add .int aS1 aS0), 0, []), (.s (.iaddr 1 aS3 aS0), 0, []), (.s (.load aS0), 0, []), (.s (.iaddr 1 aS19 aS16), 0, []), (.w .none none (.store 1 aS0 aS7), 0, []), (.s (.iaddr 1 aS16 aS13), 0, []), (.w .none none (.store 1 aS0 aS2), 0, [])]) (.reg [iSm 5, iQm 4 0]))
def F405.g6 (X7 : IR) : IR := (.seq (.seq (.dreg [] [(iSm 0, 0, []), (iSm 3, 0, []), (iSm 4, 0, []), (.s (.bin .add .int aS1 aS0), 0, []), (.s (.iaddr 1 aS3 aS0), 0, []), (.s (.load aS0), 0, []), (iSm 0, 0, []), (iSm 3, 0, []), (iSm 5, 0, []), (.s (.bin .add .int aS1 aS0), 0, []), (.s (.iaddr 1 aS3 aS0), 0, []), (.s (.load aS0), 0, []), (iCa 357 [aS6, aS0], 0, []), (iQo 8 (.not aS0), 0, [])]) (.cond aT8 .ret .skip)) X7)
def F405.b6 : IR := F405.g6 F405.b7
def F405.g5 (X6 : IR) : IR := (.seq (.seq (.dreg [] [(iSm 5, 0, []), (.s (.bin .add .int aS0 aC1), 0, []), (iSm 2, 0, []), (.s (.bin .lss .int aS1 aS0), 0, []), (.s (.mv aS0), 0, []), (iPt 0 (.mv aT0), 0, []), (iPt 1 (.mv aT3), 0, []), (iPt 2 (.mv aT5), 0, []), (iPt 3 (.bin .add .int aS1 aS0), 0, []), (iPt 4 (.iaddr 1 aS3 aS0), 0, []), (iPt 5 (.load aS0), 0, []), (iPt 6 (.mv aT0), 0, []), (iPt 7 (.mv aT3), 0, []), (iPt 8 (.mv aT5), 0, []), (iPt 9 (.bin .add .int aS1 aS0), 0, []), (iPt 10 (.bin .add .int aS0 aC1), 0, []), (iPt 11 (.iaddr 1 aS4 aS0), 0, []), (iPt 12 (.load aS0), 0, []), (.w .push (some (aS13, true)) (.call (.c (.fn 357 (.of 357) [])) [aS7, aS0]), 0, []), (iQo 7 (.pick aS14 aS0 (.c (.bool false))), 0, [])]) (.cond aT7 (.reg [iSm 5, .s (.bin .add .int aS0 aC1), iQm 5 0]) .skip)) X6)
def F405.b5 : IR := F405.g5 F405.b6
def F405.g4 (X5 : IR) : IR := (iSr [iSm 4, .s (.bin .mul .int aC2 aS0), .s (.bin .add .int aS0 aC1), iQm 5 0] (.seq (iSr [iSm 5, iSm 2, iQo 6 (.bin .geq .int aS1 aS0)] (.cond aT6 (.exit 0) .skip)) X5))
def F405.b4 : IR := F405.g4 F405.b5
def F405.g3 (X4 : IR) : IR := (.block 1 X4)
def F405.b3 : IR := F405.g3 F405.b4
def F405.g2 (X3 : IR) : IR := (.loop X3)
def F405.b2 : IR := F405.g2 F405.b3
def F405.g1 (X2 : IR) : IR := (.block 0 X2)
def F405.b1 : IR := F405.g1 F405.b2
def F405.g0 (X1 : IR) : IR := (iSr [iSm 1, iQm 4 0] X1)
def F405.b0 : IR := F405.g0 F405.b1
def F405.res : List RV := []
def F405 : Fn := { params := [(.of 0), (.of 1), (.of 2), (.of 3)], res := F405.res, body := F405.b0, init := in9 }
theorem F405.ok : fnA Tryz.prog Tryz.f405 [0, 1, 2, 3, 8, 9, 16, 36, 52] = some F405 := by kernel_rfl
abbrev F406.fr := fr4
def F406.b0 : IR := (iSr [iQo 3 (.mv aC0)] (iSr [iSm 0, iSm 1, .s (.bin .sub .int aS0 aC1), iSm 1, iSm 1, .s (.bin .add .int aS0 aC1), iSm 2, iCa 407 [aS6, aS4, aS3, aS1, aS0], iQm 3 0] .ret))
def F406.res : List RV := [.t (.of 3)]
def F406 : Fn := { params := [(.of 0), (.of 1), (.of 2)], res := F406.res, body := F406.b0, init := in4 }
theorem F406.ok : fnA Tryz.prog Tryz.f406 [0, 1, 2, 6] = some F406 := by kernel_rfl
abbrev F407.fr := fr6
def F407.b0 : IR := (iSr [iQo 5 (.mv aC0)] (iSr [iSm 0, iSm 1, iSm 2, iSm 4, iCa 425 [aS3, aS2, aS1, aS0], .s (.mv aS0), .s (.ext 0 aS0), .s (.ext 1 aS1), iQm 1 1, iQm 2 0] (iSr [iSm 0, iSm 2, iSm 3, iSm 4, iCa 425 [aS3, aS2, aS1, aS0], .s (.mv aS0), .s (.ext 0 aS0), .s (.ext 1 aS1), iQm 2 1, iQm 3 0] (iSr [iSm 0, iSm 1, iSm 2, iSm 4, iCa 425 [aS3, aS2, aS1, aS0], .s (.mv aS0), .s (.ext 0 aS0), .s (.ext 1 aS1), iQm 1 1, iQm 2 0] (iSr [iSm 2, iQm 5 0] .ret)))))
def F407.res : List RV := [.t (.of 5)]
def F407 : Fn := { params := [(.of 0), (.of 1), (.of 2), (.of 3), (.of 4)], res := F407.res, body := F407.b0, init := in6 }
theorem F407.ok : fnA Tryz.prog Tryz.f407 [0, 1, 2, 3, 4, 10] = some F407 := by kernel_rfl
abbrev F412.fr := fr11
def F412.b3 : IR := (iSr [iSm 5, .s (.bin .add .int aC1 aS0), .s (.aslice 1 24 aT3 (some aC1) (some aS0) none), .s (.b2s aS0), iQm 2 0] .ret)
def F412.g2 (X3 : IR) : IR := (iSr [iSm 4, iCa 414 [aS0], iQm 5 0] (iSr [iSm 5, .s (.bin .add .int aC1 aS0), .s (.aslice 1 24 aT3 (some aC1) (some aS0) none), iSm 4, iCa 415 [aS1, aS0]] (.seq (iSr [iSm 0, iQo 10 (.bin .lss .int aS0 aC0)] (.cond aT10 (iSr [.s (.aaddr 1 24 aT3 aC0), .w .none none (.store 1 aS0 (.c (.int .u8 45)))] (iSr [iSm 5, .s (.bin .add .int aC1 aS0), .s (.aslice 1 24 aT3 none (some aS0) none), .s (.b2s aS0), iQm 2 0] .ret)) .skip)) X3)))
def F412.b2 : IR := F412.g2 F412.b3
def F412.g1 (X2 : IR) : IR := (iSr [iWl 3 (.alloc [(.int .u8 0), (.int .u8 0), (.int .u8 0), (.int .u8 0), (.int .u8 0), (.int .u8 0), (.int .u8 0), (.int .u8 0), (.int .u8 0), (.int .u8 0), (.int .u8 0), (.int .u8 0), (.int .u8 0), (.int .u8 0), (.int .u8 0), (.int .u8 0), (.int .u8 0), (.int .u8 0), (.int .u8 0), (.int .u8 0), (.int .u8 0), (.int .u8 0), (.int .u8 0), (.int .u8 0)])] (iSr [iSm 0, .s (.conv .u64 aS0), iQm 4 0] (.seq (iSr [iSm 0, iQo 9 (.bin .lss .int aS0 aC0)] (.cond aT9 (.reg [iSm 4, .s (.neg aS0), iQm 4 0]) .skip)) X2)))
def F412.b1 : IR := F412.g1 F412.b2
def F412.b4 : IR := (iSr [iSm 0, .s (.conv .u64 aS0), iSm 1, iSm 0, .s (.bin .lss .int aS0 aC0), iCa 416 [(.c .nils), aS3, aS2, aS0, (.c (.bool false))], .s (.mv aS0), .s (.ext 0 aS0), .s (.ext 1 aS1), .s (.mv aS1), iQm 6 1] (iSr [iSm 6, iQm 2 0] .ret))
def F412.g0 (X1 X4 : IR) : IR := (iSr [iQo 2 (.mv (.c (.str [])))] (.seq (iSr [iSm 1, iQo 7 (.bin .eql .int aS0 aC10)] (.cond aT7 (.seq (iSr [iSm 0, .s (.bin .leq .int aC0 aS0), .s (.mv aS0), iPt 0 (.mv aT0), iPt 1 (.bin .lss .int aS0 aC100), iQo 8 (.pick aS2 aS0 (.c (.bool false)))] (.cond aT8 (iSr [iSm 0, iCa 413 [aS0], iQm 2 0] .ret) .skip)) X1) .skip)) X4))
def F412.b0 : IR := F412.g0 F412.b1 F412.b4
def F412.res : List RV := [.t (.of 2)]
def F412 : Fn := { params := [(.of 0), (.of 1)], res := F412.res, body := F412.b0, init := in11 }
theorem F412.ok : fnA Tryz.prog Tryz.f412 [0, 1, 4, 5, 6, 7, 9, 11, 17, 23, 34] = some F412 := by kernel_rfl
abbrev F413.fr := fr3
def F413.b1 : IR := (iSr [iSm 0, .s (.bin .mul .int aS0 aC2), iSm 0, .s (.bin .mul .int aS0 aC2), .s (.bin .add .int aS0 aC2), .s (.sslice (.c (.str [48, 48, 48, 49, 48, 50, 48, 51, 48, 52, 48, 53, 48, 54, 48, 55, 48, 56, 48, 57, 49, 48, 49, 49, 49, 50, 49, 51, 49, 52, 49, 53, 49, 54, 49, 55, 49, 56, 49, 57, 50, 48, 50, 49, 50, 50, 50, 51, 50, 52, 50, 53, 50, 54, 50, 55, 50, 56, 50, 57, 51, 48, 51, 49, 51, 50, 51, 51, 51, 52, 51, 53, 51, 54, 51, 55, 51, 56, 51, 57, 52, 48, 52, 49, 52, 50, 52, 51, 52, 52, 52, 53, 52, 54, 52, 55, 52, 56, 52, 57, 53, 48, 53, 49, 53, 50, 53, 51, 53, 52, 53, 53, 53, 54, 53, 55, 53, 56, 53, 57, 54, 48, 54, 49, 54, 50, 54, 51, 54, 52, 54, 53, 54, 54, 54, 55, 54, 56, 54, 57, 55, 48, 55, 49, 55, 50, 55, 51, 55, 52, 55, 53, 55, 54, 55, 55, 55, 56, 55, 57, 56, 48, 56, 49, 56, 50, 56, 51, 56, 52, 56, 53, 56, 54, 56, 55, 56, 56, 56, 57, 57, 48, 57, 49, 57, 50, 57, 51, 57, 52, 57, 53, 57, 54, 57, 55, 57, 56, 57, 57])) (some aS3) (some aS0)), iQm 1 0] .ret)
def F413.g0 (X1 : IR) : IR := (iSr [iQo 1 (.mv (.c (.str [])))] (.seq (iSr [iSm 0, iQo 2 (.bin .lss .int aS0 aC10)] (.cond aT2 (iSr [iSm 0, iSm 0, .s (.bin .add .int aS0 aC1), .s (.sslice (.c (.str [48, 49, 50, 51, 52, 53, 54, 55, 56, 57, 97, 98, 99, 100, 101, 102, 103, 104, 105, 106, 107, 108, 109, 110, 111, 112, 113, 114, 115, 116, 117, 118, 119, 120, 121, 122])) (some aS2) (some aS0)), iQm 1 0] .ret) .skip)) X1))
def F413.b0 : IR := F413.g0 F413.b1
def F413.res : List RV := [.t (.of 1)]
def F413 : Fn := { params := [(.of 0)], res := F413.res, body := F413.b0, init := in3 }
theorem F413.ok : fnA Tryz.prog Tryz.f413 [0, 2, 4] = some F413 := by kernel_rfl
abbrev F414.fr := fr3
def F414.b0 : IR := (iSr [iQo 1 (.mv aC0)] (iSr [iSm 0, iCa 348 [aS0], iCa 427 [aS0], iQm 2 0] (iSr [iSm 2, iSm 0, iSm 2, .s (.aaddr 1 20 (.c (.fp (layL 2))) aS0), .s (.load aS0), .s (.bin .geq .int aS3 aS0), iCa 428 [aS0], .s (.bin .add .int aS6 aS0), iQm 1 0] .ret)))
def F414.res : List RV := [.t (.of 1)]
def F414 : Fn := { params := [(.of 0)], res := F414.res, body := F414.b0, init := in3 }
theorem F414.ok : fnA Tryz.prog Tryz.f414 [0, 2, 3] = some F414 := by kernel_rfl
abbrev F415.fr := fr19
def F415.b5 : IR := (iSr [iSm 1, .s (.bin .rem .int aS0 (.c (.int .u64 100000000))), .s (.conv .u32 aS0), iQm 3 0] (iSr [iSm 1, .s (.bin .quo .int aS0 (.c (.int .u64 100000000))), iQm 1 0] (iSr [iSm 3, .s (.bin .quo .int aS0 (.c (.int .u32 10000))), iSm 3, .s (.bin .rem .int aS0 (.c (.int .u32 10000))), iQm 4 2, iQm 5 0] (iSr [iSm 5, .s (.bin .quo .int aS0 (.c (.int .u32 100))), .s (.bin .mul .int aS0 (.c (.int .u32 2))), iSm 5, .s (.bin .rem .int aS0 (.c (.int .u32 100))), .s (.bin .mul .int aS0 (.c (.int .u32 2))), iQm 6 3, iQm 7 0] (iSr [iSm 4, .s (.bin .quo .int aS0 (.c (.int .u32 100))), .s (.bin .mul .int aS0 (.c (.int .u32 2))), iSm 4, .s (.bin .rem .int aS0 (.c (.int .u32 100))), .s (.bin .mul .int aS0 (.c (.int .u32 2))), iQm 8 3, iQm 9 0] (.seq (.dreg [] [(iSm 0, 0, []), (iSm 2, 0, []), (.s (.bin .sub .int aS0 aC1), 0, []), (iSm 0, 1, []), (iSm 2, 1, []), (.s (.bin .sub .int aS0 aC2), 1, []), (iSm 7, 0, []), (.s (.bin .add .int aS0 (.c (.int .u32 1))), 0, []), (.s (.sidx (.c (.str [48, 48, 48, 49, 48, 50, 48, 51, 48, 52, 48, 53, 48, 54, 48, 55, 48, 56, 48, 57, 49, 48, 49, 49, 49, 50, 49, 51, 49, 52, 49, 53, 49, 54, 49, 55, 49, 56, 49, 57, 50, 48, 50, 49, 50, 50, 50, 51, 50, 52, 50, 53, 50, 54, 50, 55, 50, 56, 50, 57, 51, 48, 51, 49, 51, 50, 51, 51, 51, 52, 51, 53, 51, 54, 51, 55, 51, 56, 51, 57, 52, 48, 52, 49, 52, 50, 52, 51, 52, 52, 52, 53, 52, 54, 52, 55, 52, 56, 52, 57, 53, 48, 53, 49, 53, 50, 53, 51, 53, 52, 53, 53, 53, 54, 53, 55, 53, 56, 53, 57, 54, 48, 54, 49, 54, 50, 54, 51, 54, 52, 54, 53, 54, 54, 54, 55, 54, 56, 54, 57, 55, 48, 55, 49, 55, 50, 55, 51, 55, 52, 55, 53, 55, 54, 55, 55, 55, 56, 55, 57, 56, 48, 56, 49, 56, 50, 56, 51, 56, 52, 56, 53, 56, 54, 56, 55, 56, 56, 56, 57, 57, 48, 57, 49, 57, 50, 57, 51, 57, 52, 57, 53, 57, 54, 57, 55, 57, 56, 57, 57])) aS0), 0, []), (iSm 7, 1, []), (.s (.sidx (.c (.str [48, 48, 48, 49, 48, 50, 48, 51, 48, 52, 48, 53, 48, 54, 48, 55, 48, 56, 48, 57, 49, 48, 49, 49, 49, 50, 49, 51, 49, 52, 49, 53, 49, 54, 49, 55, 49, 56, 49, 57, 50, 48, 50, 49, 50, 50, 50, 51, 50, 52, 50, 53, 50, 54, 50, 55, 50, 56, 50, 57, 51, 48, 51, 49, 51, 50, 51, 51, 51, 52, 51, 53, 51, 54, 51, 55, 51, 56, 51, 57, 52, 48, 52, 49, 52, 50, 52, 51, 52, 52, 52, 53, 52, 54, 52, 55, 52, 56, 52, 57, 53, 48, 53, 49, 53, 50, 53, 51, 53, 52, 53, 53, 53, 54, 53, 55, 53, 56, 53, 57, 54, 48, 54, 49, 54, 50, 54, 51, 54, 52, 54, 53, 54, 54, 54, 55, 54, 56, 54, 57, 55, 48, 55, 49, 55, 50, 55, 51, 55, 52, 55, 53, 55, 54, 55, 55, 55, 56, 55, 57, 56, 48, 56, 49, 56, 50, 56, 51, 56, 52, 56, 53, 56, 54, 56, 55, 56, 56, 56, 57, 57, 48, 57, 49, 57, 50, 57, 51, 57, 52, 57, 53, 57, 54, 57, 55, 57, 56, 57, 57])) aS0), 1, []), (.s (.iaddr 1 aS10 aS8), 0, []), (.w .none none (.store 1 aS0 aS3), 0, []), (.s (.iaddr 1 aS8 aS6), 0, []), (.w .none none (.store 1 aS0 aS2), 0, [])]) (.seq (.dreg [] [(iSm 0, 0, []), (iSm 2, 0, []), (.s (.bin .sub .int aS0 aC3), 0, []), (iSm 0, 1, []), (iSm 2, 1, []), (.s (.bin .sub .int aS0 aC4), 1, []), (iSm 6, 0, []), (.s (.bin .add .int aS0 (.c (.int .u32 1))), 0, []), (.s (.sidx (.c (.str [48, 48, 48, 49, 48, 50, 48, 51, 48, 52, 48, 53, 48, 54, 48, 55, 48, 56, 48, 57, 49, 48, 49, 49, 49, 50, 49, 51, 49, 52, 49, 53, 49, 54, 49, 55, 49, 56, 49, 57, 50, 48, 50, 49, 50, 50, 50, 51, 50, 52, 50, 53, 50, 54, 50, 55, 50, 56, 50, 57, 51, 48, 51, 49, 51, 50, 51, 51, 51, 52, 51, 53, 51, 54, 51, 55, 51, 56, 51, 57, 52, 48, 52, 49, 52, 50, 52, 51, 52, 52, 52, 53, 52, 54, 52, 55, 52, 56, 52, 57, 53, 48, 53, 49, 53, 50, 53, 51, 53, 52, 53, 53, 53, 54, 53, 55, 53, 56, 53, 57, 54, 48, 54, 49, 54, 50, 54, 51, 54, 52, 54, 53, 54, 54, 54, 55, 54, 56, 54, 57, 55, 48, 55, 49, 55, 50, 55, 51, 55, 52, 55, 53, 55, 54, 55, 55, 55, 56, 55, 57, 56, 48, 56, 49, 56, 50, 56, 51, 56, 52, 56, 53, 56, 54, 56, 55, 56, 56, 56, 57, 57, 48, 57, 49, 57, 50, 57, 51, 57, 52, 57, 53, 57, 54, 57, 55, 57, 56, 57, 57])) aS0), 0, []), (iSm 6, 1, []), (.s (.sidx (.c (.str [48, 48, 48, 49, 48, 50, 48, 51, 48, 52, 48, 53, 48, 54, 48, 55, 48, 56, 48, 57, 49, 48, 49, 49, 49, 50, 49, 51, 49, 52, 49, 53, 49, 54, 49, 55, 49, 56, 49, 57, 50, 48, 50, 49, 50, 50, 50, 51, 50, 52, 50, 53, 50, 54, 50, 55, 50, 56, 50, 57, 51, 48, 51, 49, 51, 50, 51, 51, 51, 52, 51, 53, 51, 54, 51, 55, 51, 56, 51, 57, 52, 48, 52, 49, 52, 50, 52, 51, 52, 52, 52, 53, 52, 54, 52, 55, 52, 56, 52, 57, 53, 48, 53, 49, 53, 50, 53, 51, 53, 52, 53, 53, 53, 54, 53, 55, 53, 56, 53, 57, 54, 48, 54, 49, 54, 50, 54, 51, 54, 52, 54, 53, 54, 54, 54, 55, 54, 56, 54, 57, 55, 48, 55, 49, 55, 50, 55, 51, 55, 52, 55, 53, 55, 54, 55, 55, 55, 56, 55, 57, 56, 48, 56, 49, 56, 50, 56, 51, 56, 52, 56, 53, 56, 54, 56, 55, 56, 56, 56, 57, 57, 48, 57, 49, 57, 50, 57, 51, 57, 52, 57, 53, 57, 54, 57, 55, 57, 56, 57, 57])) aS0), 1, []), (.s (.iaddr 1 aS10 aS8), 0, []), (.w .none none (.store 1 aS0 aS3), 0, []), (.s (.iaddr 1 aS8 aS6), 0, []), (.w .none none (.store 1 aS0 aS2), 0, [])]) (.seq (.dreg [] [(iSm 0, 0, []), (iSm 2, 0, []), (.s (.bin .sub .int aS0 aC5), 0, []), (iSm 0, 1, []), (iSm 2, 1, []), (.s (.bin .sub .int aS0 aC6), 1, []), (iSm 9, 0, []), (.s (.bin .add .int aS0 (.c (.int .u32 1))), 0, []), (.s (.sidx (.c (.str [48, 48, 48, 49, 48, 50, 48, 51, 48, 52, 48, 53, 48, 54, 48, 55, 48, 56, 48, 57, 49, 48, 49, 49, 49, 50, 49, 51, 49, 52, 49, 53, 49, 54, 49, 55, 49, 56, 49, 57, 50, 48, 50, 49, 50, 50, 50, 51, 50, 52, 50, 53, 50, 54, 50, 55, 50, 56, 50, 57, 51, 48, 51, 49, 51, 50, 51, 51, 51, 52, 51, 53, 51, 54, 51, 55, 51, 56, 51, 57, 52, 48, 52, 49, 52, 50, 52, 51, 52, 52, 52, 53, 52, 54, 52, 55, 52, 56, 52, 57, 53, 48, 53, 49, 53, 50, 53, 51, 53, 52, 53, 53, 53, 54, 53, 55, 53, 56, 53, 57, 54, 48, 54, 49, 54, 50, 54, 51, 54, 52, 54, 53, 54, 54, 54, 55, 54, 56, 54, 57, 55, 48, 55, 49, 55, 50, 55, 51, 55, 52, 55, 53, 55, 54, 55, 55, 55, 56, 55, 57, 56, 48, 56, 49, 56, 50, 56, 51, 56, 52, 56, 53, 56, 54, 56, 55, 56, 56, 56, 57, 57, 48, 57, 49, 57, 50, 57, 51, 57, 52, 57, 53, 57, 54, 57, 55, 57, 56, 57, 57])) aS0), 0, []), (iSm 9, 1, []), (.s (.sidx (.c (.str [48, 48, 48, 49, 48, 50, 48, 51, 48, 52, 48, 53, 48, 54, 48, 55, 48, 56, 48, 57, 49, 48, 49, 49, 49, 50, 49, 51, 49, 52, 49, 53, 49, 54, 49, 55, 49, 56, 49, 57, 50, 48, 50, 49, 50, 50, 50, 51, 50, 52, 50, 53, 50, 54, 50, 55, 50, 56, 50, 57, 51, 48, 51, 49, 51, 50, 51, 51, 51, 52, 51, 53, 51, 54, 51, 55, 51, 56, 51, 57, 52, 48, 52, 49, 52, 50, 52, 51, 52, 52, 52, 53, 52, 54, 52, 55, 52, 56, 52, 57, 53, 48, 53, 49, 53, 50, 53, 51, 53, 52, 53, 53, 53, 54, 53, 55, 53, 56, 53, 57, 54, 48, 54, 49, 54, 50, 54, 51, 54, 52, 54, 53, 54, 54, 54, 55, 54, 56, 54, 57, 55, 48, 55, 49, 55, 50, 55, 51, 55, 52, 55, 53, 55, 54, 55, 55, 55, 56, 55, 57, 56, 48, 56, 49, 56, 50, 56, 51, 56, 52, 56, 53, 56, 54, 56, 55, 56, 56, 56, 57, 57, 48, 57, 49, 57, 50, 57, 51, 57, 52, 57, 53, 57, 54, 57, 55, 57, 56, 57, 57])) aS0), 1, []), (.s (.iaddr 1 aS10 aS8), 0, []), (.w .none none (.store 1 aS0 aS3), 0, []), (.s (.iaddr 1 aS8 aS6), 0, []), (.w .none none (.store 1 aS0 aS2), 0, [])]) (.seq (.dreg [] [(iSm 0, 0, []), (iSm 2, 0, []), (.s (.bin .sub .int aS0 aC7), 0, []), (iSm 0, 1, []), (iSm 2, 1, []), (.s (.bin .sub .int aS0 aC8), 1, []), (iSm 8, 0, []), (.s (.bin .add .int aS0 (.c (.int .u32 1))), 0, []), (.s (.sidx (.c (.str [48, 48, 48, 49, 48, 50, 48, 51, 48, 52, 48, 53, 48, 54, 48, 55, 48, 56, 48, 57, 49, 48, 49, 49, 49, 50, 49, 51, 49, 52, 49, 53, 49, 54, 49, 55, 49, 56, 49, 57, 50, 48, 50, 49, 50, 50, 50, 51, 50, 52, 50, 53, 50, 54, 50, 55, 50, 56, 50, 57, 51, 48, 51, 49, 51, 50, 51, 51, 51, 52, 51, 53, 51, 54, 51, 55, 51, 56, 51, 57, 52, 48, 52, 49, 52, 50, 52, 51, 52, 52, 52, 53, 52, 54, 52, 55, 52, 56, 52, 57, 53, 48, 53, 49, 53, 50, 53, 51, 53, 52, 53, 53, 53, 54, 53, 55, 53, 56, 53, 57, 54, 48, 54, 49, 54, 50, 54, 51, 54, 52, 54, 53, 54, 54, 54, 55, 54, 56, 54, 57, 55, 48, 55, 49, 55, 50, 55, 51, 55, 52, 55, 53, 55, 54, 55, 55, 55, 56, 55, 57, 56, 48, 56, 49, 56, 50, 56, 51, 56, 52, 56, 53, 56, 54, 56, 55, 56, 56, 56, 57, 57, 48, 57, 49, 57, 50, 57, 51, 57, 52, 57, 53, 57, 54, 57, 55, 57, 56, 57, 57])) aS0), 0, []), (iSm 8, 1, []), (.s (.sidx (.c (.str [48, 48, 48, 49, 48, 50, 48, 51, 48, 52, 48, 53, 48, 54, 48, 55, 48, 56, 48, 57, 49, 48, 49, 49, 49, 50, 49, 51, 49, 52, 49, 53, 49, 54, 49, 55, 49, 56, 49, 57, 50, 48, 50, 49, 50, 50, 50, 51, 50, 52, 50, 53, 50, 54, 50, 55, 50, 56, 50, 57, 51, 48, 51, 49, 51, 50, 51, 51, 51, 52, 51, 53, 51, 54, 51, 55, 51, 56, 51, 57, 52, 48, 52, 49, 52, 50, 52, 51, 52, 52, 52, 53, 52, 54, 52, 55, 52, 56, 52, 57, 53, 48, 53, 49, 53, 50, 53, 51, 53, 52, 53, 53, 53, 54, 53, 55, 53, 56, 53, 57, 54, 48, 54, 49, 54, 50, 54, 51, 54, 52, 54, 53, 54, 54, 54, 55, 54, 56, 54, 57, 55, 48, 55, 49, 55, 50, 55, 51, 55, 52, 55, 53, 55, 54, 55, 55, 55, 56, 55, 57, 56, 48, 56, 49, 56, 50, 56, 51, 56, 52, 56, 53, 56, 54, 56, 55, 56, 56, 56, 57, 57, 48, 57, 49, 57, 50, 57, 51, 57, 52, 57, 53, 57, 54, 57, 55, 57, 56, 57, 57])) aS0), 1, []), (.s (.iaddr 1 aS10 aS8), 0, []), (.w .none none (.store 1 aS0 aS3), 0, []), (.s (.iaddr 1 aS8 aS6), 0, []), (.w .none none (.store 1 aS0 aS2), 0, [])]) (.reg [iSm 2, .s (.bin .sub .int aS0 aC8), iQm 2 0]))))))))))
def F415.g4 (X5 : IR) : IR := (.block 1 X5)
def F415.b4 : IR := F415.g4 F415.b5
def F415.g3 (X4 : IR) : IR := (.seq (iSr [iSm 2, iQo 15 (.bin .geq .int aS0 aC8)] (.cond aT15 .skip (.exit 0))) X4)
def F415.b3 : IR := F415.g3 F415.b4
def F415.g2 (X3 : IR) : IR := (.loop X3)
def F415.b2 : IR := F415.g2 F415.b3
def F415.g1 (X2 : IR) : IR := (.block 0 X2)
def F415.b1 : IR := F415.g1 F415.b2
def F415.b8 : IR := (iSr [iSm 2, iQo 18 (.bin .gtr .int aS0 aC0)] (.cond aT18 (.reg [iSm 0, iSm 10, .s (.bin .add .int (.c (.int .u32 48)) aS0), .s (.conv .u8 aS0), .s (.iaddr 1 aS3 aC0), .w .none none (.store 1 aS0 aS1)]) .skip))
def F415.g7 (X8 : IR) : IR := (.seq (iSr [iSm 2, iQo 17 (.bin .geq .int aS0 aC2)] (.cond aT17 (iSr [iSm 10, .s (.bin .rem .int aS0 (.c (.int .u32 100))), .s (.bin .mul .int aS0 (.c (.int .u32 2))), iQm 14 0] (iSr [iSm 10, .s (.bin .quo .int aS0 (.c (.int .u32 100))), iQm 10 0] (.seq (.dreg [] [(iSm 0, 0, []), (iSm 2, 0, []), (.s (.bin .sub .int aS0 aC1), 0, []), (iSm 0, 1, []), (iSm 2, 1, []), (.s (.bin .sub .int aS0 aC2), 1, []), (iSm 14, 0, []), (.s (.bin .add .int aS0 (.c (.int .u32 1))), 0, []), (.s (.sidx (.c (.str [48, 48, 48, 49, 48, 50, 48, 51, 48, 52, 48, 53, 48, 54, 48, 55, 48, 56, 48, 57, 49, 48, 49, 49, 49, 50, 49, 51, 49, 52, 49, 53, 49, 54, 49, 55, 49, 56, 49, 57, 50, 48, 50, 49, 50, 50, 50, 51, 50, 52, 50, 53, 50, 54, 50, 55, 50, 56, 50, 57, 51, 48, 51, 49, 51, 50, 51, 51, 51, 52, 51, 53, 51, 54, 51, 55, 51, 56, 51, 57, 52, 48, 52, 49, 52, 50, 52, 51, 52, 52, 52, 53, 52, 54, 52, 55, 52, 56, 52, 57, 53, 48, 53, 49, 53, 50, 53, 51, 53, 52, 53, 53, 53, 54, 53, 55, 53, 56, 53, 57, 54, 48, 54, 49, 54, 50, 54, 51, 54, 52, 54, 53, 54, 54, 54, 55, 54, 56, 54, 57, 55, 48, 55, 49, 55, 50, 55, 51, 55, 52, 55, 53, 55, 54, 55, 55, 55, 56, 55, 57, 56, 48, 56, 49, 56, 50, 56, 51, 56, 52, 56, 53, 56, 54, 56, 55, 56, 56, 56, 57, 57, 48, 57, 49, 57, 50, 57, 51, 57, 52, 57, 53, 57, 54, 57, 55, 57, 56, 57, 57])) aS0), 0, []), (iSm 14, 1, []), (.s (.sidx (.c (.str [48, 48, 48, 49, 48, 50, 48, 51, 48, 52, 48, 53, 48, 54, 48, 55, 48, 56, 48, 57, 49, 48, 49, 49, 49, 50, 49, 51, 49, 52, 49, 53, 49, 54, 49, 55, 49, 56, 49, 57, 50, 48, 50, 49, 50, 50, 50, 51, 50, 52, 50, 53, 50, 54, 50, 55, 50, 56, 50, 57, 51, 48, 51, 49, 51, 50, 51, 51, 51, 52, 51, 53, 51, 54, 51, 55, 51, 56, 51, 57, 52, 48, 52, 49, 52, 50, 52, 51, 52, 52, 52, 53, 52, 54, 52, 55, 52, 56, 52, 57, 53, 48, 53, 49, 53, 50, 53, 51, 53, 52, 53, 53, 53, 54, 53, 55, 53, 56, 53, 57, 54, 48, 54, 49, 54, 50, 54, 51, 54, 52, 54, 53, 54, 54, 54, 55, 54, 56, 54, 57, 55, 48, 55, 49, 55, 50, 55, 51, 55, 52, 55, 53, 55, 54, 55, 55, 55, 56, 55, 57, 56, 48, 56, 49, 56, 50, 56, 51, 56, 52, 56, 53, 56, 54, 56, 55, 56, 56, 56, 57, 57, 48, 57, 49, 57, 50, 57, 51, 57, 52, 57, 53, 57, 54, 57, 55, 57, 56, 57, 57])) aS0), 1, []), (.s (.iaddr 1 aS10 aS8), 0, []), (.w .none none (.store 1 aS0 aS3), 0, []), (.s (.iaddr 1 aS8 aS6), 0, []), (.w .none none (.store 1 aS0 aS2), 0, [])]) (.reg [iSm 2, .s (.bin .sub .int aS0 aC2), iQm 2 0])))) .skip)) X8)
def F415.b7 : IR := F415.g7 F415.b8
def F415.g6 (X7 : IR) : IR := (iSr [iSm 1, .s (.conv .u32 aS0), iQm 10 0] (.seq (iSr [iSm 2, iQo 16 (.bin .geq .int aS0 aC4)] (.cond aT16 (iSr [iSm 10, .s (.bin .rem .int aS0 (.c (.int .u32 10000))), iQm 11 0] (iSr [iSm 10, .s (.bin .quo .int aS0 (.c (.int .u32 10000))), iQm 10 0] (iSr [iSm 11, .s (.bin .quo .int aS0 (.c (.int .u32 100))), .s (.bin .mul .int aS0 (.c (.int .u32 2))), iSm 11, .s (.bin .rem .int aS0 (.c (.int .u32 100))), .s (.bin .mul .int aS0 (.c (.int .u32 2))), iQm 12 3, iQm 13 0] (.seq (.dreg [] [(iSm 0, 0, []), (iSm 2, 0, []), (.s (.bin .sub .int aS0 aC1), 0, []), (iSm 0, 1, []), (iSm 2, 1, []), (.s (.bin .sub .int aS0 aC2), 1, []), (iSm 13, 0, []), (.s (.bin .add .int aS0 (.c (.int .u32 1))), 0, []), (.s (.sidx (.c (.str [48, 48, 48, 49, 48, 50, 48, 51, 48, 52, 48, 53, 48, 54, 48, 55, 48, 56, 48, 57, 49, 48, 49, 49, 49, 50, 49, 51, 49, 52, 49, 53, 49, 54, 49, 55, 49, 56, 49, 57, 50, 48, 50, 49, 50, 50, 50, 51, 50, 52, 50, 53, 50, 54, 50, 55, 50, 56, 50, 57, 51, 48, 51, 49, 51, 50, 51, 51, 51, 52, 51, 53, 51, 54, 51, 55, 51, 56, 51, 57, 52, 48, 52, 49, 52, 50, 52, 51, 52, 52, 52, 53, 52, 54, 52, 55, 52, 56, 52, 57, 53, 48, 53, 49, 53, 50, 53, 51, 53, 52, 53, 53, 53, 54, 53, 55, 53, 56, 53, 57, 54, 48, 54, 49, 54, 50, 54, 51, 54, 52, 54, 53, 54, 54, 54, 55, 54, 56, 54, 57, 55, 48, 55, 49, 55, 50, 55, 51, 55, 52, 55, 53, 55, 54, 55, 55, 55, 56, 55, 57, 56, 48, 56, 49, 56, 50, 56, 51, 56, 52, 56, 53, 56, 54, 56, 55, 56, 56, 56, 57, 57, 48, 57, 49, 57, 50, 57, 51, 57, 52, 57, 53, 57, 54, 57, 55, 57, 56, 57, 57])) aS0), 0, []), (iSm 13, 1, []), (.s (.sidx (.c (.str [48, 48, 48, 49, 48, 50, 48, 51, 48, 52, 48, 53, 48, 54, 48, 55, 48, 56, 48, 57, 49, 48, 49, 49, 49, 50, 49, 51, 49, 52, 49, 53, 49, 54, 49, 55, 49, 56, 49, 57, 50, 48, 50, 49, 50, 50, 50, 51, 50, 52, 50, 53, 50, 54, 50, 55, 50, 56, 50, 57, 51, 48, 51, 49, 51, 50, 51, 51, 51, 52, 51, 53, 51, 54, 51, 55, 51, 56, 51, 57, 52, 48, 52, 49, 52, 50, 52, 51, 52, 52, 52, 53, 52, 54, 52, 55, 52, 56, 52, 57, 53, 48, 53, 49, 53, 50, 53, 51, 53, 52, 53, 53, 53, 54, 53, 55, 53, 56, 53, 57, 54, 48, 54, 49, 54, 50, 54, 51, 54, 52, 54, 53, 54, 54, 54, 55, 54, 56, 54, 57, 55, 48, 55, 49, 55, 50, 55, 51, 55, 52, 55, 53, 55, 54, 55, 55, 55, 56, 55, 57, 56, 48, 56, 49, 56, 50, 56, 51, 56, 52, 56, 53, 56, 54, 56, 55, 56, 56, 56, 57, 57, 48, 57, 49, 57, 50, 57, 51, 57, 52, 57, 53, 57, 54, 57, 55, 57, 56, 57, 57])) aS0), 1, []), (.s (.iaddr 1 aS10 aS8), 0, []), (.w .none none (.store 1 aS0 aS3), 0, []), (.s (.iaddr 1 aS8 aS6), 0, []), (.w .none none (.store 1 aS0 aS2), 0, [])]) (.seq (.dreg [] [(iSm 0, 0, []), (iSm 2, 0, []), (.s (.bin .sub .int aS0 aC3), 0, []), (iSm 0, 1, []), (iSm 2, 1, []), (.s (.bin .sub .int aS0 aC4), 1, []), (iSm 12, 0, []), (.s (.bin .add .int aS0 (.c (.int .u32 1))), 0, []), (.s (.sidx (.c (.str [48, 48, 48, 49, 48, 50, 48, 51, 48, 52, 48, 53, 48, 54, 48, 55, 48, 56, 48, 57, 49, 48, 49, 49, 49, 50, 49, 51, 49, 52, 49, 53, 49, 54, 49, 55, 49, 56, 49, 57, 50, 48, 50, 49, 50, 50, 50, 51, 50, 52, 50, 53, 50, 54, 50, 55, 50, 56, 50, 57, 51, 48, 51, 49, 51, 50, 51, 51, 51, 52, 51, 53, 51, 54, 51, 55, 51, 56, 51, 57, 52, 48, 52, 49, 52, 50, 52, 51, 52, 52, 52, 53, 52, 54, 52, 55, 52, 56, 52, 57, 53, 48, 53, 49, 53, 50, 53, 51, 53, 52, 53, 53, 53, 54, 53, 55, 53, 56, 53, 57, 54, 48, 54, 49, 54, 50, 54, 51, 54, 52, 54, 53, 54, 54, 54, 55, 54, 56, 54, 57, 55, 48, 55, 49, 55, 50, 55, 51, 55, 52, 55, 53, 55, 54, 55, 55, 55, 56, 55, 57, 56, 48, 56, 49, 56, 50, 56, 51, 56, 52, 56, 53, 56, 54, 56, 55, 56, 56, 56, 57, 57, 48, 57, 49, 57, 50, 57, 51, 57, 52, 57, 53, 57, 54, 57, 55, 57, 56, 57, 57])) aS0), 0, []), (iSm 12, 1, []), (.s (.sidx (.c (.str [48, 48, 48, 49, 48, 50, 48, 51, 48, 52, 48, 53, 48, 54, 48, 55, 48, 56, 48, 57, 49, 48, 49, 49, 49, 50, 49, 51, 49, 52, 49, 53, 49, 54, 49, 55, 49, 56, 49, 57, 50, 48, 50, 49, 50, 50, 50, 51, 50, 52, 50, 53, 50, 54, 50, 55, 50, 56, 50, 57, 51, 48, 51, 49, 51, 50, 51, 51, 51, 52, 51, 53, 51, 54, 51, 55, 51, 56, 51, 57, 52, 48, 52, 49, 52, 50, 52, 51, 52, 52, 52, 53, 52, 54, 52, 55, 52, 56, 52, 57, 53, 48, 53, 49, 53, 50, 53, 51, 53, 52, 53, 53, 53, 54, 53, 55, 53, 56, 53, 57, 54, 48, 54, 49, 54, 50, 54, 51, 54, 52, 54, 53, 54, 54, 54, 55, 54, 56, 54, 57, 55, 48, 55, 49, 55, 50, 55, 51, 55, 52, 55, 53, 55, 54, 55, 55, 55, 56, 55, 57, 56, 48, 56, 49, 56, 50, 56, 51, 56, 52, 56, 53, 56, 54, 56, 55, 56, 56, 56, 57, 57, 48, 57, 49, 57, 50, 57, 51, 57, 52, 57, 53, 57, 54, 57, 55, 57, 56, 57, 57])) aS0), 1, []), (.s (.iaddr 1 aS10 aS8), 0, []), (.w .none none (.store 1 aS0 aS3), 0, []), (.s (.iaddr 1 aS8 aS6), 0, []), (.w .none none (.store 1 aS0 aS2), 0, [])]) (.reg [iSm 2, .s (.bin .sub .int aS0 aC4), iQm 2 0])))))) .skip)) X7))
def F415.b6 : IR := F415.g6 F415.b7
def F415.g0 (X1 X6 : IR) : IR := (iSr [iSm 0, .s (.len aS0), iQm 2 0] (.seq X1 X6))
def F415.b0 : IR := F415.g0 F415.b1 F415.b6
def F415.res : List RV := []
def F415 : Fn := { params := [(.of 0), (.of 1)], res := F415.res, body := F415.b0, init := in19 }
theorem F415.ok : fnA Tryz.prog Tryz.f415 [0, 1, 4, 5, 6, 7, 8, 9, 10, 11, 12, 13, 14, 15, 16, 20, 99, 139, 161] = some F415 := by kernel_rfl
abbrev F416.fr := fr21
def F416.b7 : IR := (iSr [iSm 8, .s (.bin .sub .int aS0 aC1), iQm 8 0] (iSr [iSm 8, iSm 1, iSm 11, .s (.bin .and .int aS1 aS0), .s (.sidx (.c (.str [48, 49, 50, 51, 52, 53, 54, 55, 56, 57, 97, 98, 99, 100, 101, 102, 103, 104, 105, 106, 107, 108, 109, 110, 111, 112, 113, 114, 115, 116, 117, 118, 119, 120, 121, 122])) aS0), .s (.aaddr 1 65 aT7 aS4), .w .none none (.store 1 aS0 aS1)] (.reg [iSm 1, iSm 9, .s (.bin .shr .int aS1 aS0), iQm 1 0])))
def F416.g6 (X7 : IR) : IR := (.block 1 X7)
def F416.b6 : IR := F416.g6 F416.b7
def F416.g5 (X6 : IR) : IR := (.seq (iSr [iSm 1, iSm 10, iQo 17 (.bin .geq .int aS1 aS0)] (.cond aT17 .skip (.exit 0))) X6)
def F416.b5 : IR := F416.g5 F416.b6
def F416.g4 (X5 : IR) : IR := (.loop X5)
def F416.b4 : IR := F416.g4 F416.b5
def F416.g3 (X4 : IR) : IR := (.block 0 X4)
def F416.b3 : IR := F416.g3 F416.b4
def F416.b8 : IR := (iSr [iSm 8, .s (.bin .sub .int aS0 aC1), iQm 8 0] (.reg [iSm 8, iSm 1, .s (.sidx (.c (.str [48, 49, 50, 51, 52, 53, 54, 55, 56, 57, 97, 98, 99, 100, 101, 102, 103, 104, 105, 106, 107, 108, 109, 110, 111, 112, 113, 114, 115, 116, 117, 118, 119, 120, 121, 122])) aS0), .s (.aaddr 1 65 aT7 aS2), .w .none none (.store 1 aS0 aS1)]))
def F416.b13 : IR := (iSr [iSm 8, .s (.bin .sub .int aS0 aC1), iQm 8 0] (iSr [iSm 1, iSm 12, .s (.bin .quo .int aS1 aS0), iQm 13 0] (iSr [iSm 8, iSm 1, iSm 13, iSm 12, .s (.bin .mul .int aS1 aS0), .s (.bin .sub .int aS3 aS0), .s (.sidx (.c (.str [48, 49, 50, 51, 52, 53, 54, 55, 56, 57, 97, 98, 99, 100, 101, 102, 103, 104, 105, 106, 107, 108, 109, 110, 111, 112, 113, 114, 115, 116, 117, 118, 119, 120, 121, 122])) aS0), .s (.aaddr 1 65 aT7 aS6), .w .none none (.store 1 aS0 aS1)] (.reg [iSm 13, iQm 1 0]))))
def F416.g12 (X13 : IR) : IR := (.block 3 X13)
def F416.b12 : IR := F416.g12 F416.b13
def F416.g11 (X12 : IR) : IR := (.seq (iSr [iSm 1, iSm 12, iQo 18 (.bin .geq .int aS1 aS0)] (.cond aT18 .skip (.exit 2))) X12)
def F416.b11 : IR := F416.g11 F416.b12
def F416.g10 (X11 : IR) : IR := (.loop X11)
def F416.b10 : IR := F416.g10 F416.b11
def F416.g9 (X10 : IR) : IR := (.block 2 X10)
def F416.b9 : IR := F416.g9 F416.b10
def F416.b14 : IR := (iSr [iSm 8, .s (.bin .sub .int aS0 aC1), iQm 8 0] (.reg [iSm 8, iSm 1, .s (.sidx (.c (.str [48, 49, 50, 51, 52, 53, 54, 55, 56, 57, 97, 98, 99, 100, 101, 102, 103, 104, 105, 106, 107, 108, 109, 110, 111, 112, 113, 114, 115, 116, 117, 118, 119, 120, 121, 122])) aS0), .s (.aaddr 1 65 aT7 aS2), .w .none none (.store 1 aS0 aS1)]))
def F416.b17 : IR := (iSr [iSm 8, .s (.aslice 1 65 aT7 (some aS0) none none), .s (.b2s aS0), iQm 6 0] .ret)
def F416.g16 (X17 : IR) : IR := (.seq (iSr [iQo 20 (.mv aT4)] (.cond aT20 (iSr [iSm 0, iSm 8, .s (.aslice 1 65 aT7 (some aS0) none none), .w .push none (.app 1 1 aS2 aS0), iQm 5 0] .ret) .skip)) X17)
def F416.b16 : IR := F416.g16 F416.b17
def F416.g15 (X16 : IR) : IR := (.seq (iSr [iQo 19 (.mv aT3)] (.cond aT19 (iSr [iSm 8, .s (.bin .sub .int aS0 aC1), iQm 8 0] (.reg [iSm 8, .s (.aaddr 1 65 aT7 aS0), .w .none none (.store 1 aS0 (.c (.int .u8 45)))])) .skip)) X16)
def F416.b15 : IR := F416.g15 F416.b16
def F416.g2 (X3 X8 X9 X14 X15 : IR) : IR := (.seq (iSr [iSm 2, iWl 16 (.call (.c (.fn 429 (.of 429) [])) [aS0])] (.cond aT16 (iSr [iSm 2, .s (.conv .u64 aS0), iCa 430 [aS0], .s (.conv .u64 aS0), iQm 9 0] (iSr [iSm 2, .s (.conv .u64 aS0), iQm 10 0] (iSr [iSm 2, .s (.conv .u64 aS0), .s (.bin .sub .int aS0 (.c (.int .u64 1))), iQm 11 0] (.seq X3 X8)))) (iSr [iSm 2, .s (.conv .u64 aS0), iQm 12 0] (.seq X9 X14)))) X15)
def F416.b2 : IR := F416.g2 F416.b3 F416.b8 F416.b9 F416.b14 F416.b15
def F416.g1 (X2 : IR) : IR := (iSr [iWl 7 (.alloc [(.int .u8 0), (.int .u8 0), (.int .u8 0), (.int .u8 0), (.int .u8 0), (.int .u8 0), (.int .u8 0), (.int .u8 0), (.int .u8 0), (.int .u8 0), (.int .u8 0), (.int .u8 0), (.int .u8 0), (.int .u8 0), (.int .u8 0), (.int .u8 0), (.int .u8 0), (.int .u8 0), (.int .u8 0), (.int .u8 0), (.int .u8 0), (.int .u8 0), (.int .u8 0), (.int .u8 0), (.int .u8 0), (.int .u8 0), (.int .u8 0), (.int .u8 0), (.int .u8 0), (.int .u8 0), (.int .u8 0), (.int .u8 0), (.int .u8 0), (.int .u8 0), (.int .u8 0), (.int .u8 0), (.int .u8 0), (.int .u8 0), (.int .u8 0), (.int .u8 0), (.int .u8 0), (.int .u8 0), (.int .u8 0), (.int .u8 0), (.int .u8 0), (.int .u8 0), (.int .u8 0), (.int .u8 0), (.int .u8 0), (.int .u8 0), (.int .u8 0), (.int .u8 0), (.int .u8 0), (.int .u8 0), (.int .u8 0), (.int .u8 0), (.int .u8 0), (.int .u8 0), (.int .u8 0), (.int .u8 0), (.int .u8 0), (.int .u8 0), (.int .u8 0), (.int .u8 0), (.int .u8 0)])] (iSr [iQo 8 (.mv aC65)] (.seq (iSr [iQo 15 (.mv aT3)] (.cond aT15 (.reg [iSm 1, .s (.neg aS0), iQm 1 0]) .skip)) X2)))
def F416.b1 : IR := F416.g1 F416.b2
def F416.g0 (X1 : IR) : IR := (iSr [iQo 5 (.mv (.c .nils)), iQo 6 (.mv (.c (.str [])))] (.seq (iSr [iSm 2, .s (.bin .lss .int aS0 aC2), .s (.mv aS0), iPf 0 (.mv aT2), iPf 1 (.bin .eql .int aS0 aC10), .s (.pick aS2 (.c (.bool true)) aS0), .s (.mv aS0), iPf 0 (.mv aT2), iPf 1 (.bin .gtr .int aS0 aC36), iQo 14 (.pick aS2 (.c (.bool true)) aS0)] (.cond aT14 (.bad 2) .skip)) X1))
def F416.b0 : IR := F416.g0 F416.b1
def F416.res : List RV := [.t (.of 5), .t (.of 6)]
def F416 : Fn := { params := [(.of 0), (.of 1), (.of 2), (.of 3), (.of 4)], res := F416.res, body := F416.b0, init := in21 }
theorem F416.ok : fnA Tryz.prog Tryz.f416 [0, 1, 2, 3, 4, 10, 11, 12, 13, 14, 15, 16, 17, 18, 28, 30, 34, 46, 68, 89, 94] = some F416 := by kernel_rfl
abbrev F425.fr := fr7
def F425.b1 : IR := (iSr [iSm 1, iSm 2, iQm 4 1, iQm 5 0] .ret)
def F425.g0 (X1 : IR) : IR := (iSr [iQo 4 (.mv aC0), iQo 5 (.mv aC0)] (.seq (.seq (.dreg [] [(iSm 0, 0, []), (iSm 2, 0, []), (.s (.iaddr 1 aS1 aS0), 0, []), (.s (.load aS0), 0, []), (iSm 0, 0, []), (iSm 1, 0, []), (.s (.iaddr 1 aS1 aS0), 0, []), (.s (.load aS0), 0, []), (iWl 6 (.call (.c (.fn 357 (.of 357) [])) [aS4, aS0]), 0, [])]) (.cond aT6 (iSr [iSm 3, .s (.nilc aS0), .s (.load aS0), .s (.bin .add .int aS0 aC1), .s (.nilc aS3), .w .none none (.store 1 aS0 aS1)] (iSr [iSm 2, iSm 1, iQm 4 1, iQm 5 0] .ret)) .skip)) X1))
def F425.b0 : IR := F425.g0 F425.b1
def F425.res : List RV := [.t (.of 4), .t (.of 5)]
def F425 : Fn := { params := [(.of 0), (.of 1), (.of 2), (.of 3)], res := F425.res, body := F425.b0, init := in7 }
theorem F425.ok : fnA Tryz.prog Tryz.f425 [0, 1, 2, 3, 8, 9, 18] = some F425 := by kernel_rfl
abbrev F427.fr := fr2
def F427.b0 : IR := (iSr [iQo 1 (.mv aC0)] (iSr [iSm 0, .s (.bin .mul .int aS0 aC78913), .s (.bin .shr .int aS0 (.c (.int .u64 18))), iQm 1 0] .ret))
def F427.res : List RV := [.t (.of 1)]
def F427 : Fn := { params := [(.of 0)], res := F427.res, body := F427.b0, init := in2 }
theorem F427.ok : fnA Tryz.prog Tryz.f427 [0, 2] = some F427 := by kernel_rfl
abbrev F428.fr := fr3
def F428.b1 : IR := (iSr [iQo 1 (.mv aC0)] .ret)
def F428.g0 (X1 : IR) : IR := (iSr [iQo 1 (.mv aC0)] (.seq (iSr [iQo 2 (.mv aT0)] (.cond aT2 (iSr [iQo 1 (.mv aC1)] .ret) .skip)) X1))
def F428.b0 : IR := F428.g0 F428.b1
def F428.res : List RV := [.t (.of 1)]
def F428 : Fn := { params := [(.of 0)], res := F428.res, body := F428.b0, init := in3 }
theorem F428.ok : fnA Tryz.prog Tryz.f428 [0, 2, 3] = some F428 := by kernel_rfl
abbrev F429.fr := fr2
def F429.b0 : IR := (iSr [iQo 1 (.mv (.c (.bool false)))] (iSr [iSm 0, iSm 0, .s (.bin .sub .int aS0 aC1), .s (.bin .and .int aS2 aS0), .s (.bin .eql .int aS0 aC0), iQm 1 0] .ret))
def F429.res : List RV := [.t (.of 1)]
def F429 : Fn := { params := [(.of 0)], res := F429.res, body := F429.b0, init := in2 }
theorem F429.ok : fnA Tryz.prog Tryz.f429 [0, 2] = some F429 := by kernel_rfl
abbrev F430.fr := fr2
def F430.b1 : IR := (iSr [iSm 0, iCa 434 [aS0], iQm 1 0] .ret)
def F430.g0 (X1 : IR) : IR := (iSr [iQo 1 (.mv aC0)] (.seq (.cond (.c (.bool false)) (iSr [iSm 0, .s (.conv .u32 aS0), iCa 433 [aS0], iQm 1 0] .ret) .skip) X1))
def F430.b0 : IR := F430.g0 F430.b1
def F430.res : List RV := [.t (.of 1)]
def F430 : Fn := { params := [(.of 0)], res := F430.res, body := F430.b0, init := in2 }
theorem F430.ok : fnA Tryz.prog Tryz.f430 [0, 2] = some F430 := by kernel_rfl
end
end Go.Ev
