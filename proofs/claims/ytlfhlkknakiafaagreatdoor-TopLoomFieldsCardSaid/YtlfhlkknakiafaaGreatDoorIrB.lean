import Derived.Test.YtlfhlkknakiafaaGreatDoorIrA
import Derived.Test.YtlfhlkknakiafaaGreatDoorEvC
import Derived.Test.YtlfhlkknakiafaaGreatDoorProg
import Derived.KernelRfl
set_option linter.unusedSimpArgs false
set_option linter.unusedVariables false
namespace Go.Ev
open Go Go.Proofs
set_option maxRecDepth 100000
noncomputable section

abbrev F158.fr := fr18
def F158.b7 : IR := (.reg [iSm 7, .s (.loadN 2 aT10), iSm 8, .w .none none (.mapup (.agg 2) aS2 aS1 aS0)])
def F158.g6 (X7 : IR) : IR := (iSr [iSm 15, .s (.iaddr 1 aT13 aT15), .s (.load aS0), iQm 8 2, iQm 9 0] (iSr [iSm 9, .s (.faddr 2 aT3), .s (.load aS0), iSm 8, .s (.iaddr 1 aS1 aS0), .s (.load aS0), .s (.build [(I 0), (I 0)] [(0, 1, aS5), (1, 1, aS0)]), iWl 10 (.alloc [(I 0), (I 0)]), .w .none none (.store 2 aT10 aS0)] (.seq (iSr [iSm 7, .s (.loadN 2 aT10), .s (.look (.agg 2) (I 0) true aS1 aS0), .s (.mv aS0), .s (.ext 0 aS0), .s (.ext 1 aS1), iQm 11 1, iQm 12 0] (iSr [iQo 17 (.mv aT12)] (.cond aT17 (iSr [iSm 11, iSm 8, iQm 4 1, iQm 5 0, iQo 6 (.mv (.c (.bool true)))] .ret) .skip))) X7)))
def F158.b6 : IR := F158.g6 F158.b7
def F158.g5 (X6 : IR) : IR := (.block 1 X6)
def F158.b5 : IR := F158.g5 F158.b6
def F158.b8 : IR := (.reg [.s (.bin .add .int aT15 aC1), iQm 15 0])
def F158.g4 (X5 X8 : IR) : IR := (.seq X5 X8)
def F158.b4 : IR := F158.g4 F158.b5 F158.b8
def F158.g3 (X4 : IR) : IR := (iSr [iQo 16 (.bin .lss .int aT15 aT14)] (.seq (.cond aT16 .skip (.exit 0)) X4))
def F158.b3 : IR := F158.g3 F158.b4
def F158.g2 (X3 : IR) : IR := (.loop X3)
def F158.b2 : IR := F158.g2 F158.b3
def F158.g1 (X2 : IR) : IR := (.block 0 X2)
def F158.b1 : IR := F158.g1 F158.b2
def F158.b9 : IR := (iSr [iQo 4 (.mv aC0), iQo 5 (.mv aC0), iQo 6 (.mv (.c (.bool false)))] .ret)
def F158.g0 (X1 X9 : IR) : IR := (iSr [iWl 2 (.box aT0), iWl 3 (.box aT1), iQo 4 (.mv aC0), iQo 5 (.mv aC0), iQo 6 (.mv (.c (.bool false)))] (iSr [.w .push none .mkmap, iQm 7 0] (.seq (iSr [.s (.faddr 2 aT2), iQo 13 (.load aS0), iQo 14 (.len aT13), iQo 15 (.mv aC0)] X1) X9)))
def F158.b0 : IR := F158.g0 F158.b1 F158.b9
def F158.res : List RV := [.t (.of 4), .t (.of 5), .t (.of 6)]
def F158 : Fn := { params := [(.of 0), (.of 1)], res := F158.res, body := F158.b0, init := in18 }
theorem F158.ok : fnA Tryz.prog Tryz.f158 [0, 1, 2, 3, 4, 5, 6, 7, 8, 9, 10, 11, 12, 15, 16, 17, 18, 35] = some F158 := by kernel_rfl
abbrev F159.fr := fr8
def F159.b6 : IR := (iSr [iSm 5, iQm 3 0] (iSr [iSm 1, iSm 0, iSm 3, .s (.iaddr 1 aS1 aS0), .s (.load aS0), iQo 7 (.bin .eql .str aS4 aS0)] (.cond aT7 (iSr [iSm 3, iQm 2 0] .ret) .skip)))
def F159.g5 (X6 : IR) : IR := (.block 1 X6)
def F159.b5 : IR := F159.g5 F159.b6
def F159.b7 : IR := (.reg [.s (.bin .add .int aT5 aC1), iQm 5 0])
def F159.g4 (X5 X7 : IR) : IR := (.seq X5 X7)
def F159.b4 : IR := F159.g4 F159.b5 F159.b7
def F159.g3 (X4 : IR) : IR := (iSr [iQo 6 (.bin .lss .int aT5 aT4)] (.seq (.cond aT6 .skip (.exit 0)) X4))
def F159.b3 : IR := F159.g3 F159.b4
def F159.g2 (X3 : IR) : IR := (.loop X3)
def F159.b2 : IR := F159.g2 F159.b3
def F159.g1 (X2 : IR) : IR := (.block 0 X2)
def F159.b1 : IR := F159.g1 F159.b2
def F159.b8 : IR := (iSr [iQo 2 (.mv (.c (I (-1))))] .ret)
def F159.g0 (X1 X8 : IR) : IR := (iSr [iQo 2 (.mv aC0)] (.seq (iSr [iSm 0, iQo 4 (.len aS0), iQo 5 (.mv aC0)] X1) X8))
def F159.b0 : IR := F159.g0 F159.b1 F159.b8
def F159.res : List RV := [.t (.of 2)]
def F159 : Fn := { params := [(.of 0), (.of 1)], res := F159.res, body := F159.b0, init := in8 }
theorem F159.ok : fnA Tryz.prog Tryz.f159 [0, 1, 4, 5, 7, 8, 9, 16] = some F159 := by kernel_rfl
abbrev F160.fr := fr4
def F160.b0 : IR := (iSr [iQo 3 (.mv (.c (.bool false)))] (iSr [iSm 0, .s (.load aT1), .s (.bin .lss .int aS1 aS0), .s (.mv aS0), iPf 0 (.mv aT0), iPf 1 (.load aT2), iPf 2 (.bin .gtr .int aS1 aS0), .s (.pick aS3 (.c (.bool true)) aS0), iQm 3 0] .ret))
def F160.res : List RV := [.t (.of 3)]
def F160 : Fn := { params := [(.of 0), (.of 1), (.of 2)], res := F160.res, body := F160.b0, init := in4 }
theorem F160.ok : fnA Tryz.prog Tryz.f160 [0, 1, 2, 4] = some F160 := by kernel_rfl
abbrev F161.fr := fr15
def F161.b6 : IR := (iSr [.s (.iaddr 1 aT6 aT8), .s (.load aS0), iQm 3 0] (iSr [iSm 2, iSm 3, .s (.len aS0), .s (.bin .add .int aS2 aS0), iQm 2 0] (iSr [iSm 2, iQo 10 (.bin .lss .int aS0 aC0)] (.cond aT10 (.bad 7) .skip))))
def F161.g5 (X6 : IR) : IR := (.block 1 X6)
def F161.b5 : IR := F161.g5 F161.b6
def F161.b7 : IR := (.reg [.s (.bin .add .int aT8 aC1), iQm 8 0])
def F161.g4 (X5 X7 : IR) : IR := (.seq X5 X7)
def F161.b4 : IR := F161.g4 F161.b5 F161.b7
def F161.g3 (X4 : IR) : IR := (iSr [iQo 9 (.bin .lss .int aT8 aT7)] (.seq (.cond aT9 .skip (.exit 0)) X4))
def F161.b3 : IR := F161.g3 F161.b4
def F161.g2 (X3 : IR) : IR := (.loop X3)
def F161.b2 : IR := F161.g2 F161.b3
def F161.g1 (X2 : IR) : IR := (.block 0 X2)
def F161.b1 : IR := F161.g1 F161.b2
def F161.b14 : IR := (iSr [.s (.iaddr 1 aT11 aT13), .s (.load aS0), iQm 5 0] (.reg [iSm 4, iSm 5, .w .push none (.app 1 24 aS1 aS0), iQm 4 0]))
def F161.g13 (X14 : IR) : IR := (.block 3 X14)
def F161.b13 : IR := F161.g13 F161.b14
def F161.b15 : IR := (.reg [.s (.bin .add .int aT13 aC1), iQm 13 0])
def F161.g12 (X13 X15 : IR) : IR := (.seq X13 X15)
def F161.b12 : IR := F161.g12 F161.b13 F161.b15
def F161.g11 (X12 : IR) : IR := (iSr [iQo 14 (.bin .lss .int aT13 aT12)] (.seq (.cond aT14 .skip (.exit 2)) X12))
def F161.b11 : IR := F161.g11 F161.b12
def F161.g10 (X11 : IR) : IR := (.loop X11)
def F161.b10 : IR := F161.g10 F161.b11
def F161.g9 (X10 : IR) : IR := (.block 2 X10)
def F161.b9 : IR := F161.g9 F161.b10
def F161.b16 : IR := (iSr [iSm 4, iQm 1 0] .ret)
def F161.g8 (X9 X16 : IR) : IR := (iSr [iSm 2, iCa 242 [(.c .nils), aS0], iQm 4 0] (.seq (iSr [iQo 11 (.mv aT0), iQo 12 (.len aT11), iQo 13 (.mv aC0)] X9) X16))
def F161.b8 : IR := F161.g8 F161.b9 F161.b16
def F161.g0 (X1 X8 : IR) : IR := (iSr [iQo 1 (.mv (.c .nils))] (iSr [iQo 2 (.mv aC0)] (.seq (iSr [iQo 6 (.mv aT0), iQo 7 (.len aT6), iQo 8 (.mv aC0)] X1) X8)))
def F161.b0 : IR := F161.g0 F161.b1 F161.b8
def F161.res : List RV := [.t (.of 1)]
def F161 : Fn := { params := [(.of 0)], res := F161.res, body := F161.b0, init := in15 }
theorem F161.ok : fnA Tryz.prog Tryz.f161 [0, 2, 3, 5, 6, 8, 9, 10, 11, 12, 20, 25, 26, 27, 28] = some F161 := by kernel_rfl
abbrev F162.fr := fr9
def F162.b6 : IR := (iSr [iSm 7, iWl 5 (.alloc [(I 0)]), .w .none none (.store 1 aT5 aS0)] (.reg [iSm 4, .s (.load aT2), .s (.fn 244 (.of 244) [aT2, aT5]), iCa 243 [aS1, aS0], .w .push none (.bslice 1 1 [.nils] [(0, 1, aS0)]), .w .push none (.app 1 24 aS4 aS0), iQm 4 0]))
def F162.g5 (X6 : IR) : IR := (.block 1 X6)
def F162.b5 : IR := F162.g5 F162.b6
def F162.b7 : IR := (.reg [.s (.bin .add .int aT7 aC1), iQm 7 0])
def F162.g4 (X5 X7 : IR) : IR := (.seq X5 X7)
def F162.b4 : IR := F162.g4 F162.b5 F162.b7
def F162.g3 (X4 : IR) : IR := (iSr [iQo 8 (.bin .lss .int aT7 aT6)] (.seq (.cond aT8 .skip (.exit 0)) X4))
def F162.b3 : IR := F162.g3 F162.b4
def F162.g2 (X3 : IR) : IR := (.loop X3)
def F162.b2 : IR := F162.g2 F162.b3
def F162.g1 (X2 : IR) : IR := (.block 0 X2)
def F162.b1 : IR := F162.g1 F162.b2
def F162.b8 : IR := (iSr [iSm 4, iQm 3 0] .ret)
def F162.g0 (X1 X8 : IR) : IR := (iSr [iWl 2 (.box aT1), iQo 3 (.mv (.c .nils))] (iSr [iQo 4 (.mv (.c .nils))] (.seq (iSr [iQo 6 (.mv aT0), iQo 7 (.mv aC0)] X1) X8)))
def F162.b0 : IR := F162.g0 F162.b1 F162.b8
def F162.res : List RV := [.t (.of 3)]
def F162 : Fn := { params := [(.of 0), (.of 1)], res := F162.res, body := F162.b0, init := in9 }
theorem F162.ok : fnA Tryz.prog Tryz.f162 [0, 1, 3, 4, 5, 6, 7, 8, 9] = some F162 := by kernel_rfl
abbrev F163.fr := fr9
def F163.b6 : IR := (iSr [iSm 7, iWl 5 (.alloc [(I 0)]), .w .none none (.store 1 aT5 aS0)] (.reg [iSm 4, iSm 0, .s (.fn 245 (.of 245) [aT2, aT5]), iCa 243 [aS1, aS0], .w .push none (.bslice 1 1 [.nils] [(0, 1, aS0)]), .w .push none (.app 1 24 aS4 aS0), iQm 4 0]))
def F163.g5 (X6 : IR) : IR := (.block 1 X6)
def F163.b5 : IR := F163.g5 F163.b6
def F163.b7 : IR := (.reg [.s (.bin .add .int aT7 aC1), iQm 7 0])
def F163.g4 (X5 X7 : IR) : IR := (.seq X5 X7)
def F163.b4 : IR := F163.g4 F163.b5 F163.b7
def F163.g3 (X4 : IR) : IR := (iSr [iQo 8 (.bin .lss .int aT7 aT6)] (.seq (.cond aT8 .skip (.exit 0)) X4))
def F163.b3 : IR := F163.g3 F163.b4
def F163.g2 (X3 : IR) : IR := (.loop X3)
def F163.b2 : IR := F163.g2 F163.b3
def F163.g1 (X2 : IR) : IR := (.block 0 X2)
def F163.b1 : IR := F163.g1 F163.b2
def F163.b8 : IR := (iSr [iSm 4, iQm 3 0] .ret)
def F163.g0 (X1 X8 : IR) : IR := (iSr [iWl 2 (.box aT1), iQo 3 (.mv (.c .nils))] (iSr [iQo 4 (.mv (.c .nils))] (.seq (iSr [iQo 6 (.load aT2), iQo 7 (.mv aC0)] X1) X8)))
def F163.b0 : IR := F163.g0 F163.b1 F163.b8
def F163.res : List RV := [.t (.of 3)]
def F163 : Fn := { params := [(.of 0), (.of 1)], res := F163.res, body := F163.b0, init := in9 }
theorem F163.ok : fnA Tryz.prog Tryz.f163 [0, 1, 3, 4, 5, 6, 7, 8, 9] = some F163 := by kernel_rfl
abbrev F164.fr := fr5
def F164.b0 : IR := (iSr [iWl 2 (.box aT0), iWl 3 (.box aT1), iQo 4 (.mv (.c .nilf))] (iSr [.s (.fn 246 (.of 246) [aT2, aT3]), iQm 4 0] .ret))
def F164.res : List RV := [.t (.of 4)]
def F164 : Fn := { params := [(.of 0), (.of 1)], res := F164.res, body := F164.b0, init := in5 }
theorem F164.ok : fnA Tryz.prog Tryz.f164 [0, 1, 2, 3, 4] = some F164 := by kernel_rfl
abbrev F165.fr := fr12
def F165.b6 : IR := (iSr [.s (.iaddr 1 aT7 aT9), .s (.load aS0), iQm 5 0] (iSr [iSm 5, iCa 236 [aS0], iCa 235 [aS0], iQm 5 0] (iSr [iSm 5, iCa 248 [aS0], iQm 6 0] (iSr [iSm 3, iSm 6, .s (.look .str (.bool false) false aS1 aS0), iQo 11 (.not aS0)] (.cond aT11 (iSr [iSm 3, iSm 6, .w .none none (.mapup .str aS1 aS0 (.c (.bool true)))] (.reg [.s (.faddr 1 aT4), .s (.load aS0), iSm 5, .w .push none (.bslice 1 1 [.nils] [(0, 1, aS0)]), .w .push none (.app 1 24 aS2 aS0), .s (.faddr 1 aT4), .w .none none (.store 1 aS0 aS1)])) .skip)))))
def F165.g5 (X6 : IR) : IR := (.block 1 X6)
def F165.b5 : IR := F165.g5 F165.b6
def F165.b7 : IR := (.reg [.s (.bin .add .int aT9 aC1), iQm 9 0])
def F165.g4 (X5 X7 : IR) : IR := (.seq X5 X7)
def F165.b4 : IR := F165.g4 F165.b5 F165.b7
def F165.g3 (X4 : IR) : IR := (iSr [iQo 10 (.bin .lss .int aT9 aT8)] (.seq (.cond aT10 .skip (.exit 0)) X4))
def F165.b3 : IR := F165.g3 F165.b4
def F165.g2 (X3 : IR) : IR := (.loop X3)
def F165.b2 : IR := F165.g2 F165.b3
def F165.g1 (X2 : IR) : IR := (.block 0 X2)
def F165.b1 : IR := F165.g1 F165.b2
def F165.b8 : IR := (iSr [.s (.loadN 2 aT4), .w .none none (.store 2 aT2 aS0)] .ret)
def F165.g0 (X1 X8 : IR) : IR := (iSr [iWl 2 (.alloc [(I 0), .nils])] (iSr [.w .push none .mkmap, iQm 3 0] (iSr [iSm 0, .s (.build [(I 0), .nils] [(0, 1, aS0)]), iWl 4 (.alloc [(I 0), .nils]), .w .none none (.store 2 aT4 aS0)] (.seq (iSr [iQo 7 (.mv aT1), iQo 8 (.len aT7), iQo 9 (.mv aC0)] X1) X8))))
def F165.b0 : IR := F165.g0 F165.b1 F165.b8
def F165.res : List RV := [.cell (.of 2) (some 2)]
def F165 : Fn := { params := [(.of 0), (.of 1)], res := F165.res, body := F165.b0, init := in12 }
theorem F165.ok : fnA Tryz.prog Tryz.f165 [0, 1, 4, 5, 6, 8, 9, 13, 14, 15, 16, 27] = some F165 := by kernel_rfl
abbrev F166.fr := fr2
def F166.b0 : IR := (iSr [iQo 1 (.mv aC0)] (iSr [iSm 0, iCa 65 [(.c (I (-999999999))), wG, aS0], iQm 1 0] .ret))
def F166.res : List RV := [.t (.of 1)]
def F166 : Fn := { params := [(.of 0)], res := F166.res, body := F166.b0, init := in2 }
theorem F166.ok : fnA Tryz.prog Tryz.f166 [0, 2] = some F166 := by kernel_rfl
abbrev F167.fr := fr8
def F167.b6 : IR := (iSr [iSm 5, iQm 3 0] (iSr [iSm 1, iSm 0, iSm 3, .s (.iaddr 1 aS1 aS0), .s (.load aS0), iWl 7 (.call aS4 [aS0])] (.cond aT7 (iSr [iSm 3, iQm 2 0] .ret) .skip)))
def F167.g5 (X6 : IR) : IR := (.block 1 X6)
def F167.b5 : IR := F167.g5 F167.b6
def F167.b7 : IR := (.reg [.s (.bin .add .int aT5 aC1), iQm 5 0])
def F167.g4 (X5 X7 : IR) : IR := (.seq X5 X7)
def F167.b4 : IR := F167.g4 F167.b5 F167.b7
def F167.g3 (X4 : IR) : IR := (iSr [iQo 6 (.bin .lss .int aT5 aT4)] (.seq (.cond aT6 .skip (.exit 0)) X4))
def F167.b3 : IR := F167.g3 F167.b4
def F167.g2 (X3 : IR) : IR := (.loop X3)
def F167.b2 : IR := F167.g2 F167.b3
def F167.g1 (X2 : IR) : IR := (.block 0 X2)
def F167.b1 : IR := F167.g1 F167.b2
def F167.b8 : IR := (iSr [iQo 2 (.mv (.c (I (-1))))] .ret)
def F167.g0 (X1 X8 : IR) : IR := (iSr [iQo 2 (.mv aC0)] (.seq (iSr [iSm 0, iQo 4 (.len aS0), iQo 5 (.mv aC0)] X1) X8))
def F167.b0 : IR := F167.g0 F167.b1 F167.b8
def F167.res : List RV := [.t (.of 2)]
def F167 : Fn := { params := [(.of 0), (.of 1)], res := F167.res, body := F167.b0, init := in8 }
theorem F167.ok : fnA Tryz.prog Tryz.f167 [0, 1, 4, 5, 7, 8, 9, 16] = some F167 := by kernel_rfl
abbrev F168.fr := fr3
def F168.b0 : IR := (iSr [iQo 2 (.mv (.c (.bool false)))] (iSr [iSm 0, .s (.load aT1), .s (.iaddr 1 aS0 aC0), .s (.load aS0), .s (.bin .neq .int aS3 aS0), iQm 2 0] .ret))
def F168.res : List RV := [.t (.of 2)]
def F168 : Fn := { params := [(.of 0), (.of 1)], res := F168.res, body := F168.b0, init := in3 }
theorem F168.ok : fnA Tryz.prog Tryz.f168 [0, 1, 3] = some F168 := by kernel_rfl
abbrev F169.fr := fr5
def F169.b1 : IR := (iSr [.s (.loadN 3 aT2), iSm 1, .s (.faddr 0 aT2), .s (.load aS0), iCa 249 [aS3, aS2, aS0], iQm 3 0] .ret)
def F169.g0 (X1 : IR) : IR := (iSr [iWl 2 (.box aT0), iQo 3 (.mv aC0)] (.seq (iSr [.s (.faddr 0 aT2), .s (.load aS0), .s (.faddr 1 aT2), .s (.load aS0), .s (.bin .neq .int aS2 aS0), .s (.mv aS0), iPf 0 (.faddr 0 aT2), iPf 1 (.load aS0), .w .push (some (aS2, false)) (.call (.c (.fn 238 (.of 238) [])) [aS0]), iPf 3 (.not aS0), .s (.pick aS4 (.c (.bool true)) aS0), .s (.mv aS0), iPf 0 (.faddr 2 aT2), iPf 1 (.load aS0), iPf 2 (.len aS0), iPf 3 (.faddr 0 aT2), iPf 4 (.load aS0), iPf 5 (.faddr 1 aT2), iPf 6 (.load aS0), iPf 7 (.bin .mul .int aS2 aS0), iPf 8 (.bin .neq .int aS5 aS0), iQo 4 (.pick aS9 (.c (.bool true)) aS0)] (.cond aT4 (iSr [iQo 3 (.mv aC2)] .ret) .skip)) X1))
def F169.b0 : IR := F169.g0 F169.b1
def F169.res : List RV := [.t (.of 3)]
def F169 : Fn := { params := [(.of 0), (.of 1)], res := F169.res, body := F169.b0, init := in5 }
theorem F169.ok : fnA Tryz.prog Tryz.f169 [0, 1, 2, 4, 26] = some F169 := by kernel_rfl
abbrev F170.fr := fr4
def F170.b1 : IR := (.seq (.dreg [] [(.s (.faddr 0 aT1), 0, []), (.s (.load aS0), 0, []), (.s (.faddr 2 aT1), 2, []), (.s (.load aS0), 2, []), (.w .push none (.bslice 1 1 [(I 0)] [(0, 1, aS2)]), 0, []), (iCa 65 [aC1, aC16, aS0], 0, []), (iCa 166 [aS2], 0, []), (.w .push none (.bslice 1 2 [(I 0)] [(0, 1, aS1), (1, 1, aS0)]), 0, []), (iCa 63 [aS0], 0, []), (iQm 2 0, 0, [])]) .ret)
def F170.g0 (X1 : IR) : IR := (iSr [iWl 1 (.box aT0), iQo 2 (.mv aC0)] (.seq (iSr [.s (.faddr 0 aT1), .s (.load aS0), .s (.faddr 1 aT1), .s (.load aS0), .s (.bin .neq .int aS2 aS0), .s (.mv aS0), iPf 0 (.faddr 0 aT1), iPf 1 (.load aS0), iPf 2 (.bin .lss .int aS0 aC0), .s (.pick aS3 (.c (.bool true)) aS0), .s (.mv aS0), iPf 0 (.faddr 0 aT1), iPf 1 (.load aS0), iPf 2 (.bin .gtr .int aS0 aC1048576), .s (.pick aS3 (.c (.bool true)) aS0), .s (.mv aS0), iPf 0 (.faddr 2 aT1), iPf 1 (.load aS0), iPf 2 (.len aS0), iPf 3 (.faddr 0 aT1), iPf 4 (.load aS0), iPf 5 (.faddr 1 aT1), iPf 6 (.load aS0), iPf 7 (.bin .mul .int aS2 aS0), iPf 8 (.bin .neq .int aS5 aS0), iQo 3 (.pick aS9 (.c (.bool true)) aS0)] (.cond aT3 (iSr [iQo 2 (.mv aC2)] .ret) .skip)) X1))
def F170.b0 : IR := F170.g0 F170.b1
def F170.res : List RV := [.t (.of 2)]
def F170 : Fn := { params := [(.of 0)], res := F170.res, body := F170.b0, init := in4 }
theorem F170.ok : fnA Tryz.prog Tryz.f170 [0, 1, 2, 28] = some F170 := by kernel_rfl
abbrev F171.fr := fr1
def F171.b0 : IR := (iSr [iQo 0 (.mv (.c .nils))] (iSr [.s (.build [(.str []), .nilf] [(0, 1, (.c (.str [110, 111, 114, 109, 97, 108]))), (1, 1, (.c (.fn 250 (.of 250) [])))]), .s (.build [(.str []), .nilf] [(0, 1, (.c (.str [115, 101, 109, 105, 109, 97, 103, 105, 99]))), (1, 1, (.c (.fn 251 (.of 251) [])))]), .s (.build [(.str []), .nilf] [(0, 1, (.c (.str [109, 97, 103, 105, 99]))), (1, 1, (.c (.fn 252 (.of 252) [])))]), .s (.build [(.str []), .nilf] [(0, 1, (.c (.str [112, 97, 110, 100, 105, 97, 103, 111, 110, 97, 108]))), (1, 1, (.c (.fn 253 (.of 253) [])))]), .s (.build [(.str []), .nilf] [(0, 1, (.c (.str [97, 115, 115, 111, 99, 105, 97, 116, 105, 118, 101]))), (1, 1, (.c (.fn 254 (.of 254) [])))]), .s (.build [(.str []), .nilf] [(0, 1, (.c (.str [109, 111, 115, 116, 45, 112, 101, 114, 102, 101, 99, 116]))), (1, 1, (.c (.fn 255 (.of 255) [])))]), .s (.build [(.str []), .nilf] [(0, 1, (.c (.str [98, 111, 114, 100, 101, 114, 101, 100]))), (1, 1, (.c (.fn 256 (.of 256) [])))]), .s (.build [(.str []), .nilf] [(0, 1, (.c (.str [98, 105, 109, 97, 103, 105, 99]))), (1, 1, (.c (.fn 257 (.of 257) [])))]), .w .push none (.bslice 2 8 [(.str []), .nilf] [(0, 2, aS7), (2, 2, aS6), (4, 2, aS5), (6, 2, aS4), (8, 2, aS3), (10, 2, aS2), (12, 2, aS1), (14, 2, aS0)]), iQm 0 0] .ret))
def F171.res : List RV := [.t (.of 0)]
def F171 : Fn := { params := [], res := F171.res, body := F171.b0, init := in1 }
theorem F171.ok : fnA Tryz.prog Tryz.f171 [0] = some F171 := by kernel_rfl
abbrev F174.fr := fr2
def F174.b0 : IR := (iSr [iQo 1 (.mv aC0)] (iSr [iSm 0, .s (.bin .lss .int aS0 aC1), .s (.mv aS0), iPf 0 (.mv aT0), iPf 1 (.bin .gtr .int aS0 aC16), .s (.pick aS2 (.c (.bool true)) aS0), iCa 54 [aS0, aC3], iQm 1 0] .ret))
def F174.res : List RV := [.t (.of 1)]
def F174 : Fn := { params := [(.of 0)], res := F174.res, body := F174.b0, init := in2 }
theorem F174.ok : fnA Tryz.prog Tryz.f174 [0, 2] = some F174 := by kernel_rfl
abbrev F175.fr := fr10
def F175.b6 : IR := (iSr [iSm 8, iQm 7 0] (.dreg [] [(iSm 7, 0, []), (iSm 7, 0, []), (.s (.faddr 1 aT2), 0, []), (.s (.aaddr 1 2 aS0 aS1), 0, []), (.s (.load aS0), 0, []), (iSm 4, 0, []), (iSm 7, 0, []), (.s (.faddr 3 aT2), 0, []), (.s (.aaddr 1 2 aS0 aS1), 0, []), (.s (.load aS0), 0, []), (.s (.bin .mul .int aS4 aS0), 0, []), (.s (.bin .add .int aS6 aS0), 0, []), (iSm 5, 0, []), (iSm 7, 0, []), (.s (.faddr 5 aT2), 0, []), (.s (.aaddr 1 2 aS0 aS1), 0, []), (.s (.load aS0), 0, []), (.s (.bin .mul .int aS4 aS0), 0, []), (.s (.bin .add .int aS6 aS0), 0, []), (.s (.faddr 0 aT2), 0, []), (.s (.load aS0), 0, []), (.s (.bin .rem .int aS2 aS0), 0, []), (.s (.aaddr 1 2 aT6 aS21), 0, []), (.w .none none (.store 1 aS0 aS1), 0, [])]))
def F175.g5 (X6 : IR) : IR := (.block 1 X6)
def F175.b5 : IR := F175.g5 F175.b6
def F175.b7 : IR := (.reg [.s (.bin .add .int aT8 aC1), iQm 8 0])
def F175.g4 (X5 X7 : IR) : IR := (.seq X5 X7)
def F175.b4 : IR := F175.g4 F175.b5 F175.b7
def F175.g3 (X4 : IR) : IR := (iSr [iQo 9 (.bin .lss .int aT8 aC2)] (.seq (.cond aT9 .skip (.exit 0)) X4))
def F175.b3 : IR := F175.g3 F175.b4
def F175.g2 (X3 : IR) : IR := (.loop X3)
def F175.b2 : IR := F175.g2 F175.b3
def F175.g1 (X2 : IR) : IR := (.block 0 X2)
def F175.b1 : IR := F175.g1 F175.b2
def F175.b8 : IR := (iSr [.s (.aaddr 1 2 aT6 aC0), .s (.load aS0), .s (.faddr 0 aT2), .s (.load aS0), .s (.bin .mul .int aS2 aS0), .s (.aaddr 1 2 aT6 aC1), .s (.load aS0), .s (.bin .add .int aS2 aS0), iQm 3 0] .ret)
def F175.g0 (X1 X8 : IR) : IR := (iSr [iWl 2 (.box aT0), iQo 3 (.mv aC0)] (.seq (.dreg [] [(iSm 1, 0, []), (.s (.bin .sub .int aS0 aC1), 0, []), (.s (.faddr 0 aT2), 0, []), (.s (.load aS0), 0, []), (.s (.bin .rem .int aS2 aS0), 0, []), (iSm 1, 0, []), (.s (.bin .sub .int aS0 aC1), 0, []), (.s (.faddr 0 aT2), 0, []), (.s (.load aS0), 0, []), (.s (.bin .quo .int aS2 aS0), 0, []), (iQm 4 5, 0, []), (iQm 5 0, 0, [])]) (iSr [iWl 6 (.alloc [(I 0), (I 0)])] (.seq (iSr [iQo 8 (.mv aC0)] X1) X8))))
def F175.b0 : IR := F175.g0 F175.b1 F175.b8
def F175.res : List RV := [.t (.of 3)]
def F175 : Fn := { params := [(.of 0), (.of 1)], res := F175.res, body := F175.b0, init := in10 }
theorem F175.ok : fnA Tryz.prog Tryz.f175 [0, 1, 2, 4, 5, 6, 7, 8, 19, 20] = some F175 := by kernel_rfl
abbrev F178.fr := fr4
def F178.b0 : IR := (iSr [iWl 2 (.box aT0), iQo 3 (.mv (.c (.bool false)))] (.seq (.dreg [] [(iSm 1, 0, []), (.s (.faddr 0 aT2), 0, []), (.s (.load aS0), 0, []), (.s (.faddr 1 aT2), 1, []), (.s (.load aS0), 1, []), (iCa 66 [aS4, aS2], 0, []), (iCa 68 [aS0, aS1], 0, []), (.s (.bin .lss .int aS0 aC0), 0, []), (iQm 3 0, 0, [])]) .ret))
def F178.res : List RV := [.t (.of 3)]
def F178 : Fn := { params := [(.of 0), (.of 1)], res := F178.res, body := F178.b0, init := in4 }
theorem F178.ok : fnA Tryz.prog Tryz.f178 [0, 1, 2, 4] = some F178 := by kernel_rfl
abbrev F179.fr := fr19
def F179.b12 : IR := (iSr [.s (.iaddr 1 aT13 aT15), .s (.load aS0), iQm 8 0] (.dreg [] [(.s (.loadN 2 aT7), 2, []), (.s (.faddr 1 aT2), 0, []), (.s (.load aS0), 0, []), (iSm 8, 0, []), (.s (.iaddr 1 aS1 aS0), 0, []), (.s (.load aS0), 0, []), (iSm 1, 1, []), (iCa 190 [aS1], 0, []), (iCa 258 [aS0, aS1], 0, []), (iCa 191 [aS8, aS0], 0, []), (.w .none none (.store 2 aT7 aS0), 0, [])]))
def F179.g11 (X12 : IR) : IR := (.block 3 X12)
def F179.b11 : IR := F179.g11 F179.b12
def F179.b13 : IR := (.reg [.s (.bin .add .int aT15 aC1), iQm 15 0])
def F179.g10 (X11 X13 : IR) : IR := (.seq X11 X13)
def F179.b10 : IR := F179.g10 F179.b11 F179.b13
def F179.g9 (X10 : IR) : IR := (iSr [iQo 16 (.bin .lss .int aT15 aT14)] (.seq (.cond aT16 .skip (.exit 2)) X10))
def F179.b9 : IR := F179.g9 F179.b10
def F179.g8 (X9 : IR) : IR := (.loop X9)
def F179.b8 : IR := F179.g8 F179.b9
def F179.g7 (X8 : IR) : IR := (.block 2 X8)
def F179.b7 : IR := F179.g7 F179.b8
def F179.b15 : IR := (iSr [.s (.loadN 2 aT7), .s (.loadN 2 aT4), iCa 259 [aS1, aS0], iQo 18 (.bin .neq .int aS0 aC0)] (.cond aT18 (iSr [iQo 3 (.mv (.c (.bool false)))] .ret) .skip))
def F179.g14 (X15 : IR) : IR := (.seq (iSr [iSm 5, iQo 17 (.bin .eql .int aS0 aC0)] (.cond aT17 (.reg [.s (.loadN 2 aT7), .w .none none (.store 2 aT4 aS0)]) .skip)) X15)
def F179.b14 : IR := F179.g14 F179.b15
def F179.g6 (X7 X14 : IR) : IR := (iSr [iSm 11, .s (.iaddr 1 aT9 aT11), .s (.load aS0), iQm 5 2, iQm 6 0] (iSr [iCa 190 [aC0], iWl 7 (.alloc [(I 0), .nils]), .w .none none (.store 2 aT7 aS0)] (.seq (iSr [iQo 13 (.mv aT6), iQo 14 (.len aT13), iQo 15 (.mv aC0)] X7) X14)))
def F179.b6 : IR := F179.g6 F179.b7 F179.b14
def F179.g5 (X6 : IR) : IR := (.block 1 X6)
def F179.b5 : IR := F179.g5 F179.b6
def F179.b16 : IR := (.reg [.s (.bin .add .int aT11 aC1), iQm 11 0])
def F179.g4 (X5 X16 : IR) : IR := (.seq X5 X16)
def F179.b4 : IR := F179.g4 F179.b5 F179.b16
def F179.g3 (X4 : IR) : IR := (iSr [iQo 12 (.bin .lss .int aT11 aT10)] (.seq (.cond aT12 .skip (.exit 0)) X4))
def F179.b3 : IR := F179.g3 F179.b4
def F179.g2 (X3 : IR) : IR := (.loop X3)
def F179.b2 : IR := F179.g2 F179.b3
def F179.g1 (X2 : IR) : IR := (.block 0 X2)
def F179.b1 : IR := F179.g1 F179.b2
def F179.b17 : IR := (iSr [iQo 3 (.mv (.c (.bool true)))] .ret)
def F179.g0 (X1 X17 : IR) : IR := (iSr [iWl 2 (.box aT0), iQo 3 (.mv (.c (.bool false)))] (iSr [iWl 4 (.alloc [(I 0), .nils])] (.seq (iSr [.s (.faddr 0 aT2), .s (.load aS0), .w .push none (.call (.c (.fn 66 (.of 66) [])) [(.c (.str [109, 97, 103, 105, 99])), aS0]), iQo 9 (.part 1 none aS0), iQo 10 (.len aT9), iQo 11 (.mv aC0)] X1) X17)))
def F179.b0 : IR := F179.g0 F179.b1 F179.b17
def F179.res : List RV := [.t (.of 3)]
def F179 : Fn := { params := [(.of 0), (.of 1)], res := F179.res, body := F179.b0, init := in19 }
theorem F179.ok : fnA Tryz.prog Tryz.f179 [0, 1, 2, 4, 5, 6, 7, 8, 10, 14, 15, 16, 17, 22, 23, 24, 25, 40, 45] = some F179 := by kernel_rfl
abbrev F181.fr := fr14
def F181.b7 : IR := (iSr [iSm 11, .s (.iaddr 1 aT9 aT11), .s (.load aS0), iQm 5 2, iQm 6 0] (iSr [iSm 6, .s (.bin .lss .int aS0 aC0), .s (.mv aS0), iPf 0 (.mv aT6), iPf 1 (.faddr 0 aT2), iPf 2 (.load aS0), iPf 3 (.bin .geq .int aS2 aS0), .s (.pick aS4 (.c (.bool true)) aS0), iCa 64 [aS0, aC10], iSm 5, .s (.bin .gtr .int aS0 aC0), .s (.mv aS0), iPt 0 (.load aT4), iPt 1 (.mv aT5), iPt 2 (.bin .sub .int aS0 aC1), iPt 3 (.iaddr 1 aS2 aS0), iPt 4 (.load aS0), iPt 5 (.mv aT6), iPt 6 (.bin .geq .int aS1 aS0), .s (.pick aS7 aS0 (.c (.bool false))), iCa 64 [aS0, aC11], .w .push none (.bslice 1 2 [(I 0)] [(0, 1, aS12), (1, 1, aS0)]), iCa 63 [aS0], iQm 7 0] (iSr [iSm 7, iQo 13 (.bin .neq .int aS0 aC0)] (.cond aT13 (iSr [iSm 7, iQm 3 0] .ret) .skip))))
def F181.g6 (X7 : IR) : IR := (.block 1 X7)
def F181.b6 : IR := F181.g6 F181.b7
def F181.b8 : IR := (.reg [.s (.bin .add .int aT11 aC1), iQm 11 0])
def F181.g5 (X6 X8 : IR) : IR := (.seq X6 X8)
def F181.b5 : IR := F181.g5 F181.b6 F181.b8
def F181.g4 (X5 : IR) : IR := (iSr [iQo 12 (.bin .lss .int aT11 aT10)] (.seq (.cond aT12 .skip (.exit 0)) X5))
def F181.b4 : IR := F181.g4 F181.b5
def F181.g3 (X4 : IR) : IR := (.loop X4)
def F181.b3 : IR := F181.g3 F181.b4
def F181.g2 (X3 : IR) : IR := (.block 0 X3)
def F181.b2 : IR := F181.g2 F181.b3
def F181.b9 : IR := (iSr [.s (.faddr 1 aT2), .s (.load aS0), iSm 1, .s (.slice 1 aS1 none (some aS0) none), .s (.fn 263 (.of 263) [aT4]), iCa 262 [aS1, aS0], iCa 64 [aS0, aC9], iQm 3 0] .ret)
def F181.g1 (X2 X9 : IR) : IR := (.seq (iSr [iQo 9 (.load aT4), iQo 10 (.len aT9), iQo 11 (.mv aC0)] X2) X9)
def F181.b1 : IR := F181.g1 F181.b2 F181.b9
def F181.g0 (X1 : IR) : IR := (iSr [iWl 2 (.box aT0), iQo 3 (.mv aC0)] (iSr [.s (.faddr 1 aT2), .s (.load aS0), iSm 1, .s (.iaddr 1 aS1 aS0), .s (.load aS0), iWl 4 (.alloc [.nils]), .w .none none (.store 1 aT4 aS0)] (.seq (iSr [.s (.load aT4), .s (.len aS0), iQo 8 (.bin .eql .int aS0 aC0)] (.cond aT8 (iSr [iQo 3 (.mv aC12)] .ret) .skip)) X1)))
def F181.b0 : IR := F181.g0 F181.b1
def F181.res : List RV := [.t (.of 3)]
def F181 : Fn := { params := [(.of 0), (.of 1)], res := F181.res, body := F181.b0, init := in14 }
theorem F181.ok : fnA Tryz.prog Tryz.f181 [0, 1, 2, 4, 5, 6, 7, 8, 16, 17, 18, 19, 20, 48] = some F181 := by kernel_rfl
abbrev F189.fr := fr3
def F189.b0 : IR := (iSr [iWl 1 (.box aT0), iWl 2 (.alloc [(I 0), .nils, (I 0), .nils])] (.seq (.dreg [] [(.s (.loadN 2 aT1), 1, []), (iCa 190 [aC1], 0, []), (.s (.build [(I 0), .nils, (I 0), .nils] [(0, 2, aS1), (2, 2, aS0)]), 0, []), (.w .none none (.store 4 aT2 aS0), 0, [])]) .ret))
def F189.res : List RV := [.cell (.of 2) (some 4)]
def F189 : Fn := { params := [(.of 0)], res := F189.res, body := F189.b0, init := in3 }
theorem F189.ok : fnA Tryz.prog Tryz.f189 [0, 1, 2] = some F189 := by kernel_rfl
abbrev F190.fr := fr2
def F190.b0 : IR := (iSr [iWl 1 (.alloc [(I 0), .nils])] (iSr [iSm 0, .s (.build [(I 0), .nils] [(0, 1, aS0)]), .w .none none (.store 2 aT1 aS0)] .ret))
def F190.res : List RV := [.cell (.of 1) (some 2)]
def F190 : Fn := { params := [(.of 0)], res := F190.res, body := F190.b0, init := in2 }
theorem F190.ok : fnA Tryz.prog Tryz.f190 [0, 2] = some F190 := by kernel_rfl
abbrev F191.fr := fr14
def F191.b3 : IR := (iSr [iSm 6, iSm 8, .s (.bin .eql .bool aS1 aS0), iQm 12 0] (.cond aT12 (iSr [iSm 6, iSm 7, iSm 9, iCa 269 [aS1, aS0], iCa 268 [aS3, aS0], .w .none none (.store 2 aT4 aS0)] .ret) (iSr [iSm 7, iSm 9, iCa 270 [aS1, aS0], .s (.bin .geq .int aS0 aC0), iQm 13 0] (.cond aT13 (iSr [iSm 6, iSm 7, iSm 9, iCa 271 [aS1, aS0], iCa 268 [aS3, aS0], .w .none none (.store 2 aT4 aS0)] .ret) .skip))))
def F191.g2 (X3 : IR) : IR := (.block 0 X3)
def F191.b2 : IR := F191.g2 F191.b3
def F191.b4 : IR := (iSr [iSm 8, iSm 9, iSm 7, iCa 271 [aS1, aS0], iCa 268 [aS3, aS0], .w .none none (.store 2 aT4 aS0)] .ret)
def F191.g1 (X2 X4 : IR) : IR := (iSr [.s (.loadN 2 aT2), iCa 267 [aS0], .s (.mv aS0), .s (.ext 0 aS0), .s (.ext 1 aS1), iQm 6 1, iQm 7 0] (iSr [.s (.loadN 2 aT3), iCa 267 [aS0], .s (.mv aS0), .s (.ext 0 aS0), .s (.ext 1 aS1), iQm 8 1, iQm 9 0] (.seq X2 X4)))
def F191.b1 : IR := F191.g1 F191.b2 F191.b4
def F191.g0 (X1 : IR) : IR := (iSr [iWl 2 (.box aT0), iWl 3 (.box aT1), iWl 4 (.alloc [(I 0), .nils])] (.seq (iSr [.s (.faddr 1 aT2), .s (.load aS0), .s (.bin .eql (.nil .sl) aS0 (.c .nils)), .s (.mv aS0), iPt 0 (.faddr 1 aT3), iPt 1 (.load aS0), iPt 2 (.bin .eql (.nil .sl) aS0 (.c .nils)), iQo 10 (.pick aS3 aS0 (.c (.bool false)))] (.cond aT10 (iSr [.s (.faddr 0 aT2), .s (.load aS0), .s (.faddr 0 aT3), .s (.load aS0), .s (.bin .add .int aS2 aS0), iQm 5 0] (iSr [iSm 5, .s (.faddr 0 aT2), .s (.load aS0), .s (.bin .gtr .int aS2 aS0), .s (.faddr 0 aT3), .s (.load aS0), .s (.bin .gtr .int aS0 aC0), iQo 11 (.bin .eql .bool aS3 aS0)] (.cond aT11 (iSr [iSm 5, .s (.build [(I 0), .nils] [(0, 1, aS0)]), .w .none none (.store 2 aT4 aS0)] .ret) .skip))) .skip)) X1))
def F191.b0 : IR := F191.g0 F191.b1
def F191.res : List RV := [.cell (.of 4) (some 2)]
def F191 : Fn := { params := [(.of 0), (.of 1)], res := F191.res, body := F191.b0, init := in14 }
theorem F191.ok : fnA Tryz.prog Tryz.f191 [0, 1, 2, 3, 4, 5, 6, 7, 8, 9, 17, 30, 43, 52] = some F191 := by kernel_rfl
abbrev F193.fr := fr14
def F193.b1 : IR := (iSr [iSm 6, .s (.conv .i64 aS0), .s (.build [(I 0), .nils] [(0, 1, aS0)]), .w .none none (.store 2 aT4 aS0)] .ret)
def F193.b2 : IR := (iSr [.s (.loadN 2 aT2), iCa 267 [aS0], .s (.mv aS0), .s (.ext 0 aS0), .s (.ext 1 aS1), iQm 7 1, iQm 8 0] (iSr [.s (.loadN 2 aT3), iCa 267 [aS0], .s (.mv aS0), .s (.ext 0 aS0), .s (.ext 1 aS1), iQm 9 1, iQm 10 0] (iSr [iSm 7, iSm 9, .s (.bin .neq .bool aS1 aS0), iSm 8, iSm 10, iCa 276 [aS1, aS0], iCa 268 [aS3, aS0], .w .none none (.store 2 aT4 aS0)] .ret)))
def F193.g0 (X1 X2 : IR) : IR := (iSr [iWl 2 (.box aT0), iWl 3 (.box aT1), iWl 4 (.alloc [(I 0), .nils])] (.seq (iSr [.s (.faddr 1 aT2), .s (.load aS0), .s (.bin .eql (.nil .sl) aS0 (.c .nils)), .s (.mv aS0), iPt 0 (.faddr 1 aT3), iPt 1 (.load aS0), iPt 2 (.bin .eql (.nil .sl) aS0 (.c .nils)), iQo 11 (.pick aS3 aS0 (.c (.bool false)))] (.cond aT11 (.seq (.dreg [] [(.s (.faddr 0 aT2), 0, []), (.s (.load aS0), 0, []), (.s (.faddr 0 aT3), 1, []), (.s (.load aS0), 1, []), (iCa 275 [aS2], 0, []), (iCa 275 [aS1], 0, []), (iCa 274 [aS1, aS0], 0, []), (.s (.mv aS0), 0, []), (.s (.ext 0 aS0), 0, []), (.s (.ext 1 aS1), 0, []), (iQm 5 1, 0, []), (iQm 6 0, 0, [])]) (iSr [iSm 5, .s (.bin .eql .int aS0 (.c (.int .u64 0))), .s (.mv aS0), iPt 0 (.mv aT6), iPt 1 (.bin .leq .int aS0 (.c (.int .u64 9223372036854775807))), iQo 12 (.pick aS2 aS0 (.c (.bool false)))] (.cond aT12 (.seq (iSr [.s (.faddr 0 aT2), .s (.load aS0), .s (.bin .lss .int aS0 aC0), .s (.faddr 0 aT3), .s (.load aS0), .s (.bin .lss .int aS0 aC0), iQo 13 (.bin .neq .bool aS3 aS0)] (.cond aT13 (iSr [iSm 6, .s (.conv .i64 aS0), .s (.neg aS0), .s (.build [(I 0), .nils] [(0, 1, aS0)]), .w .none none (.store 2 aT4 aS0)] .ret) .skip)) X1) .skip))) .skip)) X2))
def F193.b0 : IR := F193.g0 F193.b1 F193.b2
def F193.res : List RV := [.cell (.of 4) (some 2)]
def F193 : Fn := { params := [(.of 0), (.of 1)], res := F193.res, body := F193.b0, init := in14 }
theorem F193.ok : fnA Tryz.prog Tryz.f193 [0, 1, 2, 3, 4, 5, 6, 7, 8, 9, 10, 18, 34, 41] = some F193 := by kernel_rfl
abbrev F194.fr := fr3
def F194.b0 : IR := (iSr [iWl 1 (.box aT0), iQo 2 (.mv aC0)] (iSr [.s (.faddr 0 aT1), .s (.load aS0), .s (.minmax false aC1 [aS0]), .s (.minmax true (.c (I (-1))) [aS0]), iQm 2 0] .ret))
def F194.res : List RV := [.t (.of 2)]
def F194 : Fn := { params := [(.of 0)], res := F194.res, body := F194.b0, init := in3 }
theorem F194.ok : fnA Tryz.prog Tryz.f194 [0, 1, 2] = some F194 := by kernel_rfl
abbrev F198.fr := fr9
def F198.b6 : IR := (iSr [.s (.iaddr 1 aT5 aT7), .s (.load aS0), iQm 4 0] (.reg [iSm 3, iSm 1, iSm 4, .s (.iaddr 1 aS1 aS0), .s (.load aS0), .s (.bin .add .int aS4 aS0), iQm 3 0]))
def F198.g5 (X6 : IR) : IR := (.block 1 X6)
def F198.b5 : IR := F198.g5 F198.b6
def F198.b7 : IR := (.reg [.s (.bin .add .int aT7 aC1), iQm 7 0])
def F198.g4 (X5 X7 : IR) : IR := (.seq X5 X7)
def F198.b4 : IR := F198.g4 F198.b5 F198.b7
def F198.g3 (X4 : IR) : IR := (iSr [iQo 8 (.bin .lss .int aT7 aT6)] (.seq (.cond aT8 .skip (.exit 0)) X4))
def F198.b3 : IR := F198.g3 F198.b4
def F198.g2 (X3 : IR) : IR := (.loop X3)
def F198.b2 : IR := F198.g2 F198.b3
def F198.g1 (X2 : IR) : IR := (.block 0 X2)
def F198.b1 : IR := F198.g1 F198.b2
def F198.b8 : IR := (iSr [iSm 3, iQm 2 0] .ret)
def F198.g0 (X1 X8 : IR) : IR := (iSr [iQo 2 (.mv aC0)] (iSr [iQo 3 (.mv aC0)] (.seq (iSr [iQo 5 (.mv aT0), iQo 6 (.len aT5), iQo 7 (.mv aC0)] X1) X8)))
def F198.b0 : IR := F198.g0 F198.b1 F198.b8
def F198.res : List RV := [.t (.of 2)]
def F198 : Fn := { params := [(.of 0), (.of 1)], res := F198.res, body := F198.b0, init := in9 }
theorem F198.ok : fnA Tryz.prog Tryz.f198 [0, 1, 4, 5, 7, 8, 9, 10, 11] = some F198 := by kernel_rfl
abbrev F212.fr := fr2
def F212.b0 : IR := (iSr [iSm 0, .s (.len aS0), iQm 1 0] (.reg [iSm 0, iSm 1, iSm 1, .s (.conv .u64 aS0), iCa 280 [aS0], iCa 285 [aS4, aC0, aS3, aS0]]))
def F212.res : List RV := []
def F212 : Fn := { params := [(.of 0)], res := F212.res, body := F212.b0, init := in2 }
theorem F212.ok : fnA Tryz.prog Tryz.f212 [0, 2] = some F212 := by kernel_rfl
abbrev F235.fr := fr3
def F235.b0 : IR := (iSr [iQo 1 (.mv (.c .nils))] (iSr [iSm 0, iCa 311 [aS0], iQm 2 0] (iSr [iSm 2, iCa 212 [aS0]] (iSr [iSm 2, iQm 1 0] .ret))))
def F235.res : List RV := [.t (.of 1)]
def F235 : Fn := { params := [(.of 0)], res := F235.res, body := F235.b0, init := in3 }
theorem F235.ok : fnA Tryz.prog Tryz.f235 [0, 2, 3] = some F235 := by kernel_rfl
abbrev F236.fr := fr3
def F236.b0 : IR := (iSr [iWl 1 (.box aT0), iQo 2 (.mv (.c .nilf))] (iSr [.s (.fn 312 (.of 312) [aT1]), iQm 2 0] .ret))
def F236.res : List RV := [.t (.of 2)]
def F236 : Fn := { params := [(.of 0)], res := F236.res, body := F236.b0, init := in3 }
theorem F236.ok : fnA Tryz.prog Tryz.f236 [0, 1, 2] = some F236 := by kernel_rfl
abbrev F238.fr := fr2
def F238.b0 : IR := (iSr [iQo 1 (.mv (.c (.bool false)))] (iSr [iSm 0, .s (.bin .geq .int aS0 aC1), .s (.mv aS0), iPt 0 (.mv aT0), iPt 1 (.bin .leq .int aS0 aC16), .s (.pick aS2 aS0 (.c (.bool false))), iQm 1 0] .ret))
def F238.res : List RV := [.t (.of 1)]
def F238 : Fn := { params := [(.of 0)], res := F238.res, body := F238.b0, init := in2 }
theorem F238.ok : fnA Tryz.prog Tryz.f238 [0, 2] = some F238 := by kernel_rfl
abbrev F239.fr := fr4
def F239.b1 : IR := (iSr [iSm 0, iCa 318 [aS0], iQm 1 0, iQo 2 (.mv aC0)] .ret)
def F239.g0 (X1 : IR) : IR := (iSr [iQo 1 (.mv (.c (.bool false))), iQo 2 (.mv aC0)] (.seq (iSr [iSm 0, .s (.bin .lss .int aS0 aC0), .s (.mv aS0), iPf 0 (.mv aT0), iPf 1 (.bin .gtr .int aS0 wG), iQo 3 (.pick aS2 (.c (.bool true)) aS0)] (.cond aT3 (iSr [iQo 1 (.mv (.c (.bool false))), iQo 2 (.mv aC3)] .ret) .skip)) X1))
def F239.b0 : IR := F239.g0 F239.b1
def F239.res : List RV := [.t (.of 1), .t (.of 2)]
def F239 : Fn := { params := [(.of 0)], res := F239.res, body := F239.b0, init := in4 }
theorem F239.ok : fnA Tryz.prog Tryz.f239 [0, 2, 3, 9] = some F239 := by kernel_rfl
abbrev F240.fr := fr3
def F240.b0 : IR := (iSr [iWl 1 (.box aT0), iQo 2 (.mv (.c .nilf))] (iSr [.s (.fn 319 (.of 319) [aT1]), iQm 2 0] .ret))
def F240.res : List RV := [.t (.of 2)]
def F240 : Fn := { params := [(.of 0)], res := F240.res, body := F240.b0, init := in3 }
theorem F240.ok : fnA Tryz.prog Tryz.f240 [0, 1, 2] = some F240 := by kernel_rfl
abbrev F241.fr := fr3
def F241.b0 : IR := (iSr [iQo 2 (.mv aC0)] (iSr [iSm 0, iSm 1, .s (.bin .rem .int aS1 aS0), iSm 1, .s (.bin .add .int aS1 aS0), iSm 1, .s (.bin .rem .int aS1 aS0), iQm 2 0] .ret))
def F241.res : List RV := [.t (.of 2)]
def F241 : Fn := { params := [(.of 0), (.of 1)], res := F241.res, body := F241.b0, init := in3 }
theorem F241.ok : fnA Tryz.prog Tryz.f241 [0, 1, 4] = some F241 := by kernel_rfl
abbrev F242.fr := fr5
def F242.b2 : IR := (iSr [iSm 0, iQm 2 0] .ret)
def F242.g1 (X2 : IR) : IR := (.seq (iSr [iSm 1, iSm 0, .s (.capz aS0), iSm 0, .s (.len aS0), .s (.bin .sub .int aS2 aS0), .s (.bin .sub .int aS5 aS0), iQm 1 0] (iSr [iSm 1, iQo 4 (.bin .gtr .int aS0 aC0)] (.cond aT4 (.reg [iSm 0, iSm 0, .s (.capz aS0), .s (.slice 1 aS2 none (some aS0) none), iSm 1, .w .push none (.appm 1 24 [.nils] aS1 aS0), iSm 0, .s (.len aS0), .s (.slice 1 aS2 none (some aS0) none), iQm 0 0]) .skip))) X2)
def F242.b1 : IR := F242.g1 F242.b2
def F242.g0 (X1 : IR) : IR := (iSr [iQo 2 (.mv (.c .nils))] (.seq (iSr [iSm 1, iQo 3 (.bin .lss .int aS0 aC0)] (.cond aT3 (.bad 2) .skip)) X1))
def F242.b0 : IR := F242.g0 F242.b1
def F242.res : List RV := [.t (.of 2)]
def F242 : Fn := { params := [(.of 0), (.of 1)], res := F242.res, body := F242.b0, init := in5 }
theorem F242.ok : fnA Tryz.prog Tryz.f242 [0, 1, 4, 6, 16] = some F242 := by kernel_rfl
abbrev F243.fr := fr8
def F243.b6 : IR := (iSr [iSm 6, iQm 4 0] (.reg [iSm 3, iSm 4, iSm 1, iSm 4, .w .push none (.call aS1 [aS0]), .s (.iaddr 1 aS4 aS3), .w .none none (.store 1 aS0 aS1)]))
def F243.g5 (X6 : IR) : IR := (.block 1 X6)
def F243.b5 : IR := F243.g5 F243.b6
def F243.b7 : IR := (.reg [.s (.bin .add .int aT6 aC1), iQm 6 0])
def F243.g4 (X5 X7 : IR) : IR := (.seq X5 X7)
def F243.b4 : IR := F243.g4 F243.b5 F243.b7
def F243.g3 (X4 : IR) : IR := (iSr [iQo 7 (.bin .lss .int aT6 aT5)] (.seq (.cond aT7 .skip (.exit 0)) X4))
def F243.b3 : IR := F243.g3 F243.b4
def F243.g2 (X3 : IR) : IR := (.loop X3)
def F243.b2 : IR := F243.g2 F243.b3
def F243.g1 (X2 : IR) : IR := (.block 0 X2)
def F243.b1 : IR := F243.g1 F243.b2
def F243.b8 : IR := (iSr [iSm 3, iQm 2 0] .ret)
def F243.g0 (X1 X8 : IR) : IR := (iSr [iQo 2 (.mv (.c .nils))] (iSr [iSm 0, .w .push none (.mkslice 1 8 [(I 0)] aS0 aS0), iQm 3 0] (.seq (iSr [iSm 3, iQo 5 (.len aS0), iQo 6 (.mv aC0)] X1) X8)))
def F243.b0 : IR := F243.g0 F243.b1 F243.b8
def F243.res : List RV := [.t (.of 2)]
def F243 : Fn := { params := [(.of 0), (.of 1)], res := F243.res, body := F243.b0, init := in8 }
theorem F243.ok : fnA Tryz.prog Tryz.f243 [0, 1, 4, 5, 6, 10, 11, 12] = some F243 := by kernel_rfl
abbrev F244.fr := fr4
def F244.b0 : IR := (iSr [iQo 3 (.mv aC0)] (iSr [.s (.load aT1), .s (.load aT2), .s (.bin .mul .int aS1 aS0), iSm 0, .s (.bin .add .int aS1 aS0), iQm 3 0] .ret))
def F244.res : List RV := [.t (.of 3)]
def F244 : Fn := { params := [(.of 0), (.of 1), (.of 2)], res := F244.res, body := F244.b0, init := in4 }
theorem F244.ok : fnA Tryz.prog Tryz.f244 [0, 1, 2, 4] = some F244 := by kernel_rfl
abbrev F245.fr := fr4
def F245.b0 : IR := (iSr [iQo 3 (.mv aC0)] (iSr [.s (.load aT1), iSm 0, .s (.bin .mul .int aS1 aS0), .s (.load aT2), .s (.bin .add .int aS1 aS0), iQm 3 0] .ret))
def F245.res : List RV := [.t (.of 3)]
def F245 : Fn := { params := [(.of 0), (.of 1), (.of 2)], res := F245.res, body := F245.b0, init := in4 }
theorem F245.ok : fnA Tryz.prog Tryz.f245 [0, 1, 2, 4] = some F245 := by kernel_rfl
abbrev F246.fr := fr8
def F246.b6 : IR := (iSr [iSm 5, iWl 3 (.alloc [(I 0)]), .w .none none (.store 1 aT3 aS0)] (.seq (.dreg [] [(iSm 0, 1, []), (.s (.load aT3), 1, []), (.s (.load aT1), 0, []), (.s (.fn 247 (.of 247) [aT1, aT3, aT2]), 0, []), (iCa 243 [aS1, aS0], 0, []), (.w .push none (.call aS4 [aS3, aS0]), 0, []), (iQo 7 (.not aS0), 0, [])]) (.cond aT7 .ret .skip)))
def F246.g5 (X6 : IR) : IR := (.block 1 X6)
def F246.b5 : IR := F246.g5 F246.b6
def F246.b7 : IR := (.reg [.s (.bin .add .int aT5 aC1), iQm 5 0])
def F246.g4 (X5 X7 : IR) : IR := (.seq X5 X7)
def F246.b4 : IR := F246.g4 F246.b5 F246.b7
def F246.g3 (X4 : IR) : IR := (iSr [iQo 6 (.bin .lss .int aT5 aT4)] (.seq (.cond aT6 .skip (.exit 0)) X4))
def F246.b3 : IR := F246.g3 F246.b4
def F246.g2 (X3 : IR) : IR := (.loop X3)
def F246.b2 : IR := F246.g2 F246.b3
def F246.g1 (X2 : IR) : IR := (.block 0 X2)
def F246.b1 : IR := F246.g1 F246.b2
def F246.g0 (X1 : IR) : IR := (iSr [iQo 4 (.load aT1), iQo 5 (.mv aC0)] X1)
def F246.b0 : IR := F246.g0 F246.b1
def F246.res : List RV := []
def F246 : Fn := { params := [(.of 0), (.of 1), (.of 2)], res := F246.res, body := F246.b0, init := in8 }
theorem F246.ok : fnA Tryz.prog Tryz.f246 [0, 1, 2, 4, 5, 6, 7, 15] = some F246 := by kernel_rfl
abbrev F247.fr := fr5
def F247.b0 : IR := (iSr [iQo 4 (.mv aC0)] (.seq (.dreg [] [(.s (.load aT1), 0, []), (iSm 0, 0, []), (.s (.bin .mul .int aS1 aS0), 0, []), (.s (.load aT2), 0, []), (.s (.load aT3), 0, []), (iSm 0, 0, []), (.s (.bin .mul .int aS1 aS0), 0, []), (.s (.bin .add .int aS3 aS0), 0, []), (.s (.load aT1), 0, []), (.s (.bin .rem .int aS1 aS0), 0, []), (.s (.load aT1), 0, []), (.s (.bin .add .int aS1 aS0), 0, []), (.s (.load aT1), 0, []), (.s (.bin .rem .int aS1 aS0), 0, []), (.s (.bin .add .int aS11 aS0), 0, []), (iQm 4 0, 0, [])]) .ret))
def F247.res : List RV := [.t (.of 4)]
def F247 : Fn := { params := [(.of 0), (.of 1), (.of 2), (.of 3)], res := F247.res, body := F247.b0, init := in5 }
theorem F247.ok : fnA Tryz.prog Tryz.f247 [0, 1, 2, 3, 5] = some F247 := by kernel_rfl
abbrev F248.fr := fr8
def F248.b6 : IR := (iSr [.s (.iaddr 1 aT4 aT6), .s (.load aS0), iQm 3 0] (.reg [iSm 2, iSm 3, iCa 313 [aS0], .w .push none (.bslice 1 1 [(.str [])] [(0, 1, aS0)]), .w .push none (.app 1 16 aS3 aS0), iQm 2 0]))
def F248.g5 (X6 : IR) : IR := (.block 1 X6)
def F248.b5 : IR := F248.g5 F248.b6
def F248.b7 : IR := (.reg [.s (.bin .add .int aT6 aC1), iQm 6 0])
def F248.g4 (X5 X7 : IR) : IR := (.seq X5 X7)
def F248.b4 : IR := F248.g4 F248.b5 F248.b7
def F248.g3 (X4 : IR) : IR := (iSr [iQo 7 (.bin .lss .int aT6 aT5)] (.seq (.cond aT7 .skip (.exit 0)) X4))
def F248.b3 : IR := F248.g3 F248.b4
def F248.g2 (X3 : IR) : IR := (.loop X3)
def F248.b2 : IR := F248.g2 F248.b3
def F248.g1 (X2 : IR) : IR := (.block 0 X2)
def F248.b1 : IR := F248.g1 F248.b2
def F248.b8 : IR := (iSr [iSm 2, .w .push none (.call (.c (.fn 320 (.of 320) [])) [aS0, (.c (.str [32]))]), iQm 1 0] .ret)
def F248.g0 (X1 X8 : IR) : IR := (iSr [iQo 1 (.mv (.c (.str [])))] (iSr [iQo 2 (.mv (.c .nils))] (.seq (iSr [iQo 4 (.mv aT0), iQo 5 (.len aT4), iQo 6 (.mv aC0)] X1) X8)))
def F248.b0 : IR := F248.g0 F248.b1 F248.b8
def F248.res : List RV := [.t (.of 1)]
def F248 : Fn := { params := [(.of 0)], res := F248.res, body := F248.b0, init := in8 }
theorem F248.ok : fnA Tryz.prog Tryz.f248 [0, 2, 3, 5, 6, 7, 8, 9] = some F248 := by kernel_rfl
abbrev F249.fr := fr16
def F249.b7 : IR := (iSr [iSm 13, .s (.iaddr 1 aT11 aT13), .s (.load aS0), iQm 8 2, iQm 9 0] (.seq (.dreg [] [(iSm 9, 0, []), (.s (.bin .neq .int aS0 (.c (I (-1)))), 0, []), (.s (.mv aS0), 0, []), (iPt 0 (.mv aT8), 0, []), (iPt 1 (.faddr 1 aT3), 0, []), (iPt 2 (.load aS0), 0, []), (iPt 3 (.bin .quo .int aS2 aS0), 0, []), (iPt 4 (.mv aT8), 0, []), (iPt 5 (.faddr 1 aT3), 0, []), (iPt 6 (.load aS0), 0, []), (iPt 7 (.bin .rem .int aS2 aS0), 0, []), (iPt 8 (.mv aT9), 0, []), (.w .push (some (aS9, true)) (.call (.c (.fn 322 (.of 322) [])) [aT7, aS5, aS1, aS0]), 0, []), (iPt 10 (.not aS0), 0, []), (iQo 15 (.pick aS11 aS0 (.c (.bool false))), 0, [])]) (.cond aT15 (iSr [iQo 6 (.mv aC17)] .ret) .skip)))
def F249.g6 (X7 : IR) : IR := (.block 1 X7)
def F249.b6 : IR := F249.g6 F249.b7
def F249.b8 : IR := (.reg [.s (.bin .add .int aT13 aC1), iQm 13 0])
def F249.g5 (X6 X8 : IR) : IR := (.seq X6 X8)
def F249.b5 : IR := F249.g5 F249.b6 F249.b8
def F249.g4 (X5 : IR) : IR := (iSr [iQo 14 (.bin .lss .int aT13 aT12)] (.seq (.cond aT14 .skip (.exit 0)) X5))
def F249.b4 : IR := F249.g4 F249.b5
def F249.g3 (X4 : IR) : IR := (.loop X4)
def F249.b3 : IR := F249.g3 F249.b4
def F249.g2 (X3 : IR) : IR := (.block 0 X3)
def F249.b2 : IR := F249.g2 F249.b3
def F249.b9 : IR := (iSr [iQo 6 (.mv aC0)] .ret)
def F249.g1 (X2 X9 : IR) : IR := (iSr [iWl 7 (.alloc [(.int .u32 0), (.int .u32 0), (.int .u32 0), (.int .u32 0), (.int .u32 0), (.int .u32 0), (.int .u32 0), (.int .u32 0), (.int .u32 0), (.int .u32 0), (.int .u32 0), (.int .u32 0), (.int .u32 0), (.int .u32 0), (.int .u32 0), (.int .u32 0), (.int .u32 0), (.int .u32 0), (.int .u32 0), (.int .u32 0), (.int .u32 0), (.int .u32 0), (.int .u32 0), (.int .u32 0), (.int .u32 0), (.int .u32 0), (.int .u32 0), (.int .u32 0), (.int .u32 0), (.int .u32 0), (.int .u32 0), (.int .u32 0)])] (.seq (iSr [.s (.faddr 2 aT3), iQo 11 (.load aS0), iQo 12 (.len aT11), iQo 13 (.mv aC0)] X2) X9))
def F249.b1 : IR := F249.g1 F249.b2 F249.b9
def F249.g0 (X1 : IR) : IR := (iSr [iWl 3 (.box aT0), iWl 4 (.box aT1), iWl 5 (.box aT2), iQo 6 (.mv aC0)] (.seq (iSr [.s (.faddr 2 aT3), .s (.load aS0), .s (.fn 321 (.of 321) [aT4, aT5]), iWl 10 (.call (.c (.fn 127 (.of 127) [])) [aS1, aS0])] (.cond aT10 (iSr [iQo 6 (.mv aC3)] .ret) .skip)) X1))
def F249.b0 : IR := F249.g0 F249.b1
def F249.res : List RV := [.t (.of 6)]
def F249 : Fn := { params := [(.of 0), (.of 1), (.of 2)], res := F249.res, body := F249.b0, init := in16 }
theorem F249.ok : fnA Tryz.prog Tryz.f249 [0, 1, 2, 3, 4, 5, 6, 7, 8, 9, 13, 15, 16, 17, 18, 36] = some F249 := by kernel_rfl
abbrev F250.fr := fr3
def F250.b0 : IR := (iSr [iWl 1 (.box aT0), iQo 2 (.mv (.c (.bool false)))] (iSr [.s (.faddr 1 aT1), .s (.load aS0), iCa 147 [aS0], iQm 2 0] .ret))
def F250.res : List RV := [.t (.of 2)]
def F250 : Fn := { params := [(.of 0)], res := F250.res, body := F250.b0, init := in3 }
theorem F250.ok : fnA Tryz.prog Tryz.f250 [0, 1, 2] = some F250 := by kernel_rfl
abbrev F251.fr := fr3
def F251.b0 : IR := (iSr [iWl 1 (.box aT0), iQo 2 (.mv (.c (.bool false)))] (iSr [.s (.loadN 2 aT1), .w .push none (.call (.c (.fn 178 (.of 178) [])) [aS0, (.c (.str [115, 101, 109, 105, 109, 97, 103, 105, 99]))]), iQm 2 0] .ret))
def F251.res : List RV := [.t (.of 2)]
def F251 : Fn := { params := [(.of 0)], res := F251.res, body := F251.b0, init := in3 }
theorem F251.ok : fnA Tryz.prog Tryz.f251 [0, 1, 2] = some F251 := by kernel_rfl
abbrev F252.fr := fr3
def F252.b0 : IR := (iSr [iWl 1 (.box aT0), iQo 2 (.mv (.c (.bool false)))] (iSr [.s (.loadN 2 aT1), .w .push none (.call (.c (.fn 178 (.of 178) [])) [aS0, (.c (.str [109, 97, 103, 105, 99]))]), iQm 2 0] .ret))
def F252.res : List RV := [.t (.of 2)]
def F252 : Fn := { params := [(.of 0)], res := F252.res, body := F252.b0, init := in3 }
theorem F252.ok : fnA Tryz.prog Tryz.f252 [0, 1, 2] = some F252 := by kernel_rfl
abbrev F253.fr := fr3
def F253.b0 : IR := (iSr [iWl 1 (.box aT0), iQo 2 (.mv (.c (.bool false)))] (iSr [.s (.loadN 2 aT1), .w .push none (.call (.c (.fn 178 (.of 178) [])) [aS0, (.c (.str [112, 97, 110, 100, 105, 97, 103, 111, 110, 97, 108]))]), iQm 2 0] .ret))
def F253.res : List RV := [.t (.of 2)]
def F253 : Fn := { params := [(.of 0)], res := F253.res, body := F253.b0, init := in3 }
theorem F253.ok : fnA Tryz.prog Tryz.f253 [0, 1, 2] = some F253 := by kernel_rfl
abbrev F254.fr := fr3
def F254.b0 : IR := (iSr [iWl 1 (.box aT0), iQo 2 (.mv (.c (.bool false)))] (iSr [.s (.loadN 2 aT1), .w .push none (.call (.c (.fn 178 (.of 178) [])) [aS0, (.c (.str [109, 97, 103, 105, 99]))]), .s (.mv aS0), iPt 0 (.faddr 1 aT1), iPt 1 (.load aS0), iPt 2 (.len aS0), iPt 3 (.fn 324 (.of 324) [aT1]), .w .push (some (aS4, true)) (.call (.c (.fn 323 (.of 323) [])) [aS1, aS0]), .s (.pick aS5 aS0 (.c (.bool false))), iQm 2 0] .ret))
def F254.res : List RV := [.t (.of 2)]
def F254 : Fn := { params := [(.of 0)], res := F254.res, body := F254.b0, init := in3 }
theorem F254.ok : fnA Tryz.prog Tryz.f254 [0, 1, 2] = some F254 := by kernel_rfl
abbrev F255.fr := fr6
def F255.b1 : IR := (iSr [.s (.fn 325 (.of 325) [aT1]), iWl 3 (.alloc [.nilf]), .w .none none (.store 1 aT3 aS0)] (iSr [.s (.faddr 1 aT1), .s (.load aS0), .s (.len aS0), .s (.fn 326 (.of 326) [aT1, aT3]), iCa 323 [aS1, aS0], iQm 4 0] (iSr [iSm 4, .s (.mv aS0), iPt 0 (.faddr 1 aT1), iPt 1 (.load aS0), iPt 2 (.len aS0), iPt 3 (.fn 327 (.of 327) [aT1, aT3]), .w .push (some (aS4, true)) (.call (.c (.fn 323 (.of 323) [])) [aS1, aS0]), .s (.pick aS5 aS0 (.c (.bool false))), iQm 2 0] .ret)))
def F255.g0 (X1 : IR) : IR := (iSr [iWl 1 (.box aT0), iQo 2 (.mv (.c (.bool false)))] (.seq (iSr [.s (.faddr 0 aT1), .s (.load aS0), .s (.bin .rem .int aS0 aC2), .s (.bin .eql .int aS0 aC1), .s (.mv aS0), iPf 0 (.loadN 2 aT1), .w .push (some (aS1, false)) (.call (.c (.fn 178 (.of 178) [])) [aS0, (.c (.str [112, 97, 110, 100, 105, 97, 103, 111, 110, 97, 108]))]), iPf 2 (.not aS0), iQo 5 (.pick aS3 (.c (.bool true)) aS0)] (.cond aT5 (iSr [iQo 2 (.mv (.c (.bool false)))] .ret) .skip)) X1))
def F255.b0 : IR := F255.g0 F255.b1
def F255.res : List RV := [.t (.of 2)]
def F255 : Fn := { params := [(.of 0)], res := F255.res, body := F255.b0, init := in6 }
theorem F255.ok : fnA Tryz.prog Tryz.f255 [0, 1, 2, 3, 4, 13] = some F255 := by kernel_rfl
abbrev F256.fr := fr6
def F256.b7 : IR := (iSr [.s (.loadN 2 aT1), .w .push none (.call (.c (.fn 178 (.of 178) [])) [aS0, (.c (.str [109, 97, 103, 105, 99]))]), iQo 5 (.not aS0)] (.cond aT5 (iSr [iQo 2 (.mv (.c (.bool false)))] .ret) .skip))
def F256.g6 (X7 : IR) : IR := (.block 1 X7)
def F256.b6 : IR := F256.g6 F256.b7
def F256.b8 : IR := (.reg [.s (.loadN 2 aT1), iCa 328 [aS0], .w .none none (.store 2 aT1 aS0)])
def F256.g5 (X6 X8 : IR) : IR := (.seq X6 X8)
def F256.b5 : IR := F256.g5 F256.b6 F256.b8
def F256.g4 (X5 : IR) : IR := (.seq (iSr [.s (.faddr 0 aT1), .s (.load aS0), iQo 4 (.bin .geq .int aS0 aC3)] (.cond aT4 .skip (.exit 0))) X5)
def F256.b4 : IR := F256.g4 F256.b5
def F256.g3 (X4 : IR) : IR := (.loop X4)
def F256.b3 : IR := F256.g3 F256.b4
def F256.g2 (X3 : IR) : IR := (.block 0 X3)
def F256.b2 : IR := F256.g2 F256.b3
def F256.b9 : IR := (iSr [iQo 2 (.mv (.c (.bool true)))] .ret)
def F256.g1 (X2 X9 : IR) : IR := (.seq X2 X9)
def F256.b1 : IR := F256.g1 F256.b2 F256.b9
def F256.g0 (X1 : IR) : IR := (iSr [iWl 1 (.box aT0), iQo 2 (.mv (.c (.bool false)))] (.seq (iSr [.s (.faddr 0 aT1), .s (.load aS0), iQo 3 (.bin .lss .int aS0 aC5)] (.cond aT3 (iSr [iQo 2 (.mv (.c (.bool false)))] .ret) .skip)) X1))
def F256.b0 : IR := F256.g0 F256.b1
def F256.res : List RV := [.t (.of 2)]
def F256 : Fn := { params := [(.of 0)], res := F256.res, body := F256.b0, init := in6 }
theorem F256.ok : fnA Tryz.prog Tryz.f256 [0, 1, 2, 5, 8, 13] = some F256 := by kernel_rfl
abbrev F257.fr := fr3
def F257.b0 : IR := (iSr [iWl 1 (.box aT0), iQo 2 (.mv (.c (.bool false)))] (iSr [.s (.loadN 2 aT1), .w .push none (.call (.c (.fn 178 (.of 178) [])) [aS0, (.c (.str [109, 97, 103, 105, 99]))]), .s (.mv aS0), iPt 0 (.loadN 2 aT1), .w .push (some (aS1, true)) (.call (.c (.fn 179 (.of 179) [])) [aS0, aC2]), .s (.pick aS2 aS0 (.c (.bool false))), iQm 2 0] .ret))
def F257.res : List RV := [.t (.of 2)]
def F257 : Fn := { params := [(.of 0)], res := F257.res, body := F257.b0, init := in3 }
theorem F257.ok : fnA Tryz.prog Tryz.f257 [0, 1, 2] = some F257 := by kernel_rfl
abbrev F258.fr := fr8
def F258.b7 : IR := (iSr [iSm 1, iQo 7 (.bin .gtr .int aS0 aC1)] (.cond aT7 (.reg [.s (.loadN 2 aT2), .s (.loadN 2 aT2), iCa 193 [aS1, aS0], .w .none none (.store 2 aT2 aS0)]) .skip))
def F258.g6 (X7 : IR) : IR := (.seq (iSr [iSm 1, .s (.bin .and .int aS0 aC1), iQo 6 (.bin .eql .int aS0 aC1)] (.cond aT6 (.reg [.s (.loadN 2 aT4), .s (.loadN 2 aT2), iCa 193 [aS1, aS0], .w .none none (.store 2 aT4 aS0)]) .skip)) X7)
def F258.b6 : IR := F258.g6 F258.b7
def F258.g5 (X6 : IR) : IR := (.block 1 X6)
def F258.b5 : IR := F258.g5 F258.b6
def F258.b8 : IR := (.reg [iSm 1, .s (.bin .shr .int aS0 (.c (.int .u64 1))), iQm 1 0])
def F258.g4 (X5 X8 : IR) : IR := (.seq X5 X8)
def F258.b4 : IR := F258.g4 F258.b5 F258.b8
def F258.g3 (X4 : IR) : IR := (.seq (iSr [iSm 1, iQo 5 (.bin .gtr .int aS0 aC0)] (.cond aT5 .skip (.exit 0))) X4)
def F258.b3 : IR := F258.g3 F258.b4
def F258.g2 (X3 : IR) : IR := (.loop X3)
def F258.b2 : IR := F258.g2 F258.b3
def F258.g1 (X2 : IR) : IR := (.block 0 X2)
def F258.b1 : IR := F258.g1 F258.b2
def F258.b9 : IR := (iSr [.s (.loadN 2 aT4), .w .none none (.store 2 aT3 aS0)] .ret)
def F258.g0 (X1 X9 : IR) : IR := (iSr [iWl 2 (.box aT0), iWl 3 (.alloc [(I 0), .nils])] (iSr [iCa 190 [aC1], iWl 4 (.alloc [(I 0), .nils]), .w .none none (.store 2 aT4 aS0)] (.seq X1 X9)))
def F258.b0 : IR := F258.g0 F258.b1 F258.b9
def F258.res : List RV := [.cell (.of 3) (some 2)]
def F258 : Fn := { params := [(.of 0), (.of 1)], res := F258.res, body := F258.b0, init := in8 }
theorem F258.ok : fnA Tryz.prog Tryz.f258 [0, 1, 2, 4, 5, 8, 13, 18] = some F258 := by kernel_rfl
abbrev F259.fr := fr8
def F259.b2 : IR := (iSr [.s (.faddr 0 aT2), .s (.load aS0), .s (.faddr 0 aT3), .s (.load aS0), .s (.bin .lss .int aS2 aS0), iQm 6 0] (.cond aT6 (iSr [iQo 4 (.mv (.c (I (-1))))] .ret) (iSr [.s (.faddr 0 aT2), .s (.load aS0), .s (.faddr 0 aT3), .s (.load aS0), .s (.bin .gtr .int aS2 aS0), iQm 7 0] (.cond aT7 (iSr [iQo 4 (.mv aC1)] .ret) .skip))))
def F259.g1 (X2 : IR) : IR := (.block 0 X2)
def F259.b1 : IR := F259.g1 F259.b2
def F259.b3 : IR := (iSr [iQo 4 (.mv aC0)] .ret)
def F259.b4 : IR := (iSr [.s (.loadN 2 aT2), .s (.loadN 2 aT3), iCa 278 [aS1, aS0], iCa 194 [aS0], iQm 4 0] .ret)
def F259.g0 (X1 X3 X4 : IR) : IR := (iSr [iWl 2 (.box aT0), iWl 3 (.box aT1), iQo 4 (.mv aC0)] (.seq (iSr [.s (.faddr 1 aT2), .s (.load aS0), .s (.bin .eql (.nil .sl) aS0 (.c .nils)), .s (.mv aS0), iPt 0 (.faddr 1 aT3), iPt 1 (.load aS0), iPt 2 (.bin .eql (.nil .sl) aS0 (.c .nils)), iQo 5 (.pick aS3 aS0 (.c (.bool false)))] (.cond aT5 (.seq X1 X3) .skip)) X4))
def F259.b0 : IR := F259.g0 F259.b1 F259.b3 F259.b4
def F259.res : List RV := [.t (.of 4)]
def F259 : Fn := { params := [(.of 0), (.of 1)], res := F259.res, body := F259.b0, init := in8 }
theorem F259.ok : fnA Tryz.prog Tryz.f259 [0, 1, 2, 3, 4, 12, 13, 19] = some F259 := by kernel_rfl
abbrev F262.fr := fr3
def F262.b0 : IR := (iSr [iQo 2 (.mv (.c (.bool false)))] (iSr [iSm 0, iSm 1, iCa 330 [aS1, aS0], .s (.bin .geq .int aS0 aC0), iQm 2 0] .ret))
def F262.res : List RV := [.t (.of 2)]
def F262 : Fn := { params := [(.of 0), (.of 1)], res := F262.res, body := F262.b0, init := in3 }
theorem F262.ok : fnA Tryz.prog Tryz.f262 [0, 1, 4] = some F262 := by kernel_rfl
abbrev F263.fr := fr3
def F263.b0 : IR := (iSr [iQo 2 (.mv (.c (.bool false)))] (iSr [iSm 0, .s (.load aT1), iCa 113 [aS1, aS0], iQm 2 0] .ret))
def F263.res : List RV := [.t (.of 2)]
def F263 : Fn := { params := [(.of 0), (.of 1)], res := F263.res, body := F263.b0, init := in3 }
theorem F263.ok : fnA Tryz.prog Tryz.f263 [0, 1, 3] = some F263 := by kernel_rfl
abbrev F266.fr := fr6
def F266.b1 : IR := (iSr [.s (.loadN 2 aT1), iCa 267 [aS0], .s (.mv aS0), .s (.ext 0 aS0), .s (.ext 1 aS1), iQm 3 1, iQm 4 0] (iSr [iSm 3, .s (.not aS0), iSm 4, iCa 268 [aS1, aS0], .w .none none (.store 2 aT2 aS0)] .ret))
def F266.g0 (X1 : IR) : IR := (iSr [iWl 1 (.box aT0), iWl 2 (.alloc [(I 0), .nils])] (.seq (iSr [.s (.faddr 1 aT1), .s (.load aS0), .s (.bin .eql (.nil .sl) aS0 (.c .nils)), .s (.mv aS0), iPt 0 (.faddr 0 aT1), iPt 1 (.load aS0), iPt 2 (.bin .neq .int aS0 (.c (I (-9223372036854775808)))), iQo 5 (.pick aS3 aS0 (.c (.bool false)))] (.cond aT5 (iSr [.s (.faddr 0 aT1), .s (.load aS0), .s (.neg aS0), .s (.build [(I 0), .nils] [(0, 1, aS0)]), .w .none none (.store 2 aT2 aS0)] .ret) .skip)) X1))
def F266.b0 : IR := F266.g0 F266.b1
def F266.res : List RV := [.cell (.of 2) (some 2)]
def F266 : Fn := { params := [(.of 0)], res := F266.res, body := F266.b0, init := in6 }
theorem F266.ok : fnA Tryz.prog Tryz.f266 [0, 1, 2, 3, 4, 12] = some F266 := by kernel_rfl
abbrev F267.fr := fr6
def F267.b2 : IR := (iSr [.s (.faddr 1 aT1), .s (.load aS0), .s (.bin .neq (.nil .sl) aS0 (.c .nils)), iQm 4 0] (.cond aT4 (.seq (.dreg [] [(.s (.faddr 0 aT1), 0, []), (.s (.load aS0), 0, []), (.s (.bin .lss .int aS0 aC0), 0, []), (.s (.faddr 1 aT1), 0, []), (.s (.load aS0), 0, []), (iQm 2 2, 0, []), (iQm 3 0, 0, [])]) .ret) (iSr [.s (.faddr 0 aT1), .s (.load aS0), .s (.bin .eql .int aS0 aC0), iQm 5 0] (.cond aT5 (iSr [iQo 2 (.mv (.c (.bool false))), iQo 3 (.mv (.c .nils))] .ret) .skip))))
def F267.g1 (X2 : IR) : IR := (.block 0 X2)
def F267.b1 : IR := F267.g1 F267.b2
def F267.b3 : IR := (.seq (.dreg [] [(.s (.faddr 0 aT1), 2, []), (.s (.load aS0), 2, []), (.s (.bin .lss .int aS0 aC0), 2, []), (.s (.faddr 0 aT1), 0, []), (.s (.load aS0), 0, []), (iCa 275 [aS0], 0, []), (iQm 2 3, 1, []), (.w .push none (.bslice 1 1 [(.int .u64 0)] [(0, 1, aS0)]), 0, []), (iQm 3 0, 0, [])]) .ret)
def F267.g0 (X1 X3 : IR) : IR := (iSr [iWl 1 (.box aT0), iQo 2 (.mv (.c (.bool false))), iQo 3 (.mv (.c .nils))] (.seq X1 X3))
def F267.b0 : IR := F267.g0 F267.b1 F267.b3
def F267.res : List RV := [.t (.of 2), .t (.of 3)]
def F267 : Fn := { params := [(.of 0)], res := F267.res, body := F267.b0, init := in6 }
theorem F267.ok : fnA Tryz.prog Tryz.f267 [0, 1, 2, 3, 4, 13] = some F267 := by kernel_rfl
abbrev F268.fr := fr7
def F268.b2 : IR := (iSr [iSm 1, .s (.len aS0), .s (.bin .eql .int aS0 aC0), iQm 3 0] (.cond aT3 (iSr [.s (.build [(I 0), .nils] []), .w .none none (.store 2 aT2 aS0)] .ret) (iSr [iSm 1, .s (.len aS0), .s (.bin .eql .int aS0 aC1), .s (.mv aS0), iPt 0 (.mv aT1), iPt 1 (.iaddr 1 aS0 aC0), iPt 2 (.load aS0), iPt 3 (.bin .leq .int aS0 (.c (.int .u64 9223372036854775807))), .s (.pick aS4 aS0 (.c (.bool false))), .s (.mv aS0), iPt 0 (.mv aT0), .s (.pick aS1 aS0 (.c (.bool false))), iQm 4 0] (.cond aT4 (iSr [iSm 1, .s (.iaddr 1 aS0 aC0), .s (.load aS0), .s (.conv .i64 aS0), .s (.neg aS0), .s (.build [(I 0), .nils] [(0, 1, aS0)]), .w .none none (.store 2 aT2 aS0)] .ret) (iSr [iSm 1, .s (.len aS0), .s (.bin .eql .int aS0 aC1), .s (.mv aS0), iPt 0 (.mv aT1), iPt 1 (.iaddr 1 aS0 aC0), iPt 2 (.load aS0), iPt 3 (.bin .leq .int aS0 (.c (.int .u64 9223372036854775807))), .s (.pick aS4 aS0 (.c (.bool false))), iQm 5 0] (.cond aT5 (iSr [iSm 1, .s (.iaddr 1 aS0 aC0), .s (.load aS0), .s (.conv .i64 aS0), .s (.build [(I 0), .nils] [(0, 1, aS0)]), .w .none none (.store 2 aT2 aS0)] .ret) (iSr [iSm 0, iQm 6 0] (.cond aT6 (iSr [iSm 1, .s (.build [(I 0), .nils] [(0, 1, (.c (I (-1)))), (1, 1, aS0)]), .w .none none (.store 2 aT2 aS0)] .ret) .skip))))))))
def F268.g1 (X2 : IR) : IR := (.block 0 X2)
def F268.b1 : IR := F268.g1 F268.b2
def F268.b3 : IR := (iSr [iSm 1, .s (.build [(I 0), .nils] [(0, 1, aC1), (1, 1, aS0)]), .w .none none (.store 2 aT2 aS0)] .ret)
def F268.g0 (X1 X3 : IR) : IR := (iSr [iWl 2 (.alloc [(I 0), .nils])] (.seq X1 X3))
def F268.b0 : IR := F268.g0 F268.b1 F268.b3
def F268.res : List RV := [.cell (.of 2) (some 2)]
def F268 : Fn := { params := [(.of 0), (.of 1)], res := F268.res, body := F268.b0, init := in7 }
theorem F268.ok : fnA Tryz.prog Tryz.f268 [0, 1, 4, 5, 10, 29, 44] = some F268 := by kernel_rfl
abbrev F269.fr := fr12
def F269.b8 : IR := (.reg [iSm 3, iSm 5, iSm 0, iSm 5, .s (.iaddr 1 aS1 aS0), .s (.load aS0), iSm 6, iSm 4, iCa 331 [aS2, aS1, aS0], .s (.mv aS0), .s (.ext 0 aS0), .s (.ext 1 aS1), .s (.iaddr 1 aS11 aS10), .w .none none (.store 1 aS0 aS2), iQm 4 1])
def F269.g7 (X8 : IR) : IR := (iSr [iSm 9, iQm 5 0] (iSr [iQo 6 (.mv (.c (.int .u64 0)))] (.seq (iSr [iSm 5, iSm 1, .s (.len aS0), iQo 11 (.bin .lss .int aS2 aS0)] (.cond aT11 (.reg [iSm 1, iSm 5, .s (.iaddr 1 aS1 aS0), .s (.load aS0), iQm 6 0]) .skip)) X8)))
def F269.b7 : IR := F269.g7 F269.b8
def F269.g6 (X7 : IR) : IR := (.block 1 X7)
def F269.b6 : IR := F269.g6 F269.b7
def F269.b9 : IR := (.reg [.s (.bin .add .int aT9 aC1), iQm 9 0])
def F269.g5 (X6 X9 : IR) : IR := (.seq X6 X9)
def F269.b5 : IR := F269.g5 F269.b6 F269.b9
def F269.g4 (X5 : IR) : IR := (iSr [iQo 10 (.bin .lss .int aT9 aT8)] (.seq (.cond aT10 .skip (.exit 0)) X5))
def F269.b4 : IR := F269.g4 F269.b5
def F269.g3 (X4 : IR) : IR := (.loop X4)
def F269.b3 : IR := F269.g3 F269.b4
def F269.g2 (X3 : IR) : IR := (.block 0 X3)
def F269.b2 : IR := F269.g2 F269.b3
def F269.b10 : IR := (iSr [iSm 3, iSm 0, .s (.len aS0), iSm 4, .s (.iaddr 1 aS3 aS1), .w .none none (.store 1 aS0 aS1)] (iSr [iSm 3, iCa 332 [aS0], iQm 2 0] .ret))
def F269.g1 (X2 X10 : IR) : IR := (iSr [iSm 0, .s (.len aS0), .s (.bin .add .int aS0 aC1), .w .push none (.mkslice 1 8 [(.int .u64 0)] aS0 aS0), iQm 3 0] (iSr [iQo 4 (.mv (.c (.int .u64 0)))] (.seq (iSr [iSm 0, iQo 8 (.len aS0), iQo 9 (.mv aC0)] X2) X10)))
def F269.b1 : IR := F269.g1 F269.b2 F269.b10
def F269.g0 (X1 : IR) : IR := (iSr [iQo 2 (.mv (.c .nils))] (.seq (iSr [iSm 0, .s (.len aS0), iSm 1, .s (.len aS0), iQo 7 (.bin .lss .int aS2 aS0)] (.cond aT7 (.reg [iSm 1, iSm 0, iQm 0 1, iQm 1 0]) .skip)) X1))
def F269.b0 : IR := F269.g0 F269.b1
def F269.res : List RV := [.t (.of 2)]
def F269 : Fn := { params := [(.of 0), (.of 1)], res := F269.res, body := F269.b0, init := in12 }
theorem F269.ok : fnA Tryz.prog Tryz.f269 [0, 1, 4, 5, 6, 7, 8, 13, 21, 22, 23, 28] = some F269 := by kernel_rfl
abbrev F270.fr := fr9
def F270.b1 : IR := (iSr [iQo 2 (.mv aC1)] .ret)
def F270.b9 : IR := (iSr [iQo 2 (.mv aC1)] .ret)
def F270.g8 (X9 : IR) : IR := (.seq (.dreg [] [(iSm 0, 0, []), (iSm 3, 0, []), (.s (.iaddr 1 aS1 aS0), 0, []), (.s (.load aS0), 0, []), (iSm 1, 0, []), (iSm 3, 0, []), (.s (.iaddr 1 aS1 aS0), 0, []), (.s (.load aS0), 0, []), (iQo 7 (.bin .neq .int aS4 aS0), 0, [])]) (.cond aT7 (.seq (.seq (.dreg [] [(iSm 0, 0, []), (iSm 3, 0, []), (.s (.iaddr 1 aS1 aS0), 0, []), (.s (.load aS0), 0, []), (iSm 1, 0, []), (iSm 3, 0, []), (.s (.iaddr 1 aS1 aS0), 0, []), (.s (.load aS0), 0, []), (iQo 8 (.bin .lss .int aS4 aS0), 0, [])]) (.cond aT8 (iSr [iQo 2 (.mv (.c (I (-1))))] .ret) .skip)) X9) .skip))
def F270.b8 : IR := F270.g8 F270.b9
def F270.g7 (X8 : IR) : IR := (.block 1 X8)
def F270.b7 : IR := F270.g7 F270.b8
def F270.b10 : IR := (.reg [iSm 3, .s (.bin .sub .int aS0 aC1), iQm 3 0])
def F270.g6 (X7 X10 : IR) : IR := (.seq X7 X10)
def F270.b6 : IR := F270.g6 F270.b7 F270.b10
def F270.g5 (X6 : IR) : IR := (.seq (iSr [iSm 3, iQo 6 (.bin .geq .int aS0 aC0)] (.cond aT6 .skip (.exit 0))) X6)
def F270.b5 : IR := F270.g5 F270.b6
def F270.g4 (X5 : IR) : IR := (.loop X5)
def F270.b4 : IR := F270.g4 F270.b5
def F270.g3 (X4 : IR) : IR := (.block 0 X4)
def F270.b3 : IR := F270.g3 F270.b4
def F270.b11 : IR := (iSr [iQo 2 (.mv aC0)] .ret)
def F270.g2 (X3 X11 : IR) : IR := (.seq (iSr [iSm 0, .s (.len aS0), .s (.bin .sub .int aS0 aC1), iQm 3 0] X3) X11)
def F270.b2 : IR := F270.g2 F270.b3 F270.b11
def F270.g0 (X1 X2 : IR) : IR := (iSr [iQo 2 (.mv aC0)] (.seq (iSr [iSm 0, .s (.len aS0), iSm 1, .s (.len aS0), iQo 4 (.bin .neq .int aS2 aS0)] (.cond aT4 (.seq (iSr [iSm 0, .s (.len aS0), iSm 1, .s (.len aS0), iQo 5 (.bin .lss .int aS2 aS0)] (.cond aT5 (iSr [iQo 2 (.mv (.c (I (-1))))] .ret) .skip)) X1) .skip)) X2))
def F270.b0 : IR := F270.g0 F270.b1 F270.b2
def F270.res : List RV := [.t (.of 2)]
def F270 : Fn := { params := [(.of 0), (.of 1)], res := F270.res, body := F270.b0, init := in9 }
theorem F270.ok : fnA Tryz.prog Tryz.f270 [0, 1, 4, 5, 10, 15, 20, 31, 40] = some F270 := by kernel_rfl
abbrev F271.fr := fr11
def F271.b7 : IR := (.reg [iSm 3, iSm 5, iSm 0, iSm 5, .s (.iaddr 1 aS1 aS0), .s (.load aS0), iSm 6, iSm 4, iCa 333 [aS2, aS1, aS0], .s (.mv aS0), .s (.ext 0 aS0), .s (.ext 1 aS1), .s (.iaddr 1 aS11 aS10), .w .none none (.store 1 aS0 aS2), iQm 4 1])
def F271.g6 (X7 : IR) : IR := (iSr [iSm 8, iQm 5 0] (iSr [iQo 6 (.mv (.c (.int .u64 0)))] (.seq (iSr [iSm 5, iSm 1, .s (.len aS0), iQo 10 (.bin .lss .int aS2 aS0)] (.cond aT10 (.reg [iSm 1, iSm 5, .s (.iaddr 1 aS1 aS0), .s (.load aS0), iQm 6 0]) .skip)) X7)))
def F271.b6 : IR := F271.g6 F271.b7
def F271.g5 (X6 : IR) : IR := (.block 1 X6)
def F271.b5 : IR := F271.g5 F271.b6
def F271.b8 : IR := (.reg [.s (.bin .add .int aT8 aC1), iQm 8 0])
def F271.g4 (X5 X8 : IR) : IR := (.seq X5 X8)
def F271.b4 : IR := F271.g4 F271.b5 F271.b8
def F271.g3 (X4 : IR) : IR := (iSr [iQo 9 (.bin .lss .int aT8 aT7)] (.seq (.cond aT9 .skip (.exit 0)) X4))
def F271.b3 : IR := F271.g3 F271.b4
def F271.g2 (X3 : IR) : IR := (.loop X3)
def F271.b2 : IR := F271.g2 F271.b3
def F271.g1 (X2 : IR) : IR := (.block 0 X2)
def F271.b1 : IR := F271.g1 F271.b2
def F271.b9 : IR := (iSr [iSm 3, iCa 332 [aS0], iQm 2 0] .ret)
def F271.g0 (X1 X9 : IR) : IR := (iSr [iQo 2 (.mv (.c .nils))] (iSr [iSm 0, .s (.len aS0), .w .push none (.mkslice 1 8 [(.int .u64 0)] aS0 aS0), iQm 3 0] (iSr [iQo 4 (.mv (.c (.int .u64 0)))] (.seq (iSr [iSm 0, iQo 7 (.len aS0), iQo 8 (.mv aC0)] X1) X9))))
def F271.b0 : IR := F271.g0 F271.b1 F271.b9
def F271.res : List RV := [.t (.of 2)]
def F271 : Fn := { params := [(.of 0), (.of 1)], res := F271.res, body := F271.b0, init := in11 }
theorem F271.ok : fnA Tryz.prog Tryz.f271 [0, 1, 4, 5, 6, 7, 8, 13, 14, 15, 20] = some F271 := by kernel_rfl
abbrev F274.fr := fr12
def F274.b0 : IR := (iSr [iQo 2 (.mv (.c (.int .u64 0))), iQo 3 (.mv (.c (.int .u64 0)))] (iSr [iSm 0, .s (.bin .and .int aS0 (.c (.int .u64 4294967295))), iQm 4 0] (iSr [iSm 0, .s (.bin .shr .int aS0 (.c (.int .u64 32))), iQm 5 0] (iSr [iSm 1, .s (.bin .and .int aS0 (.c (.int .u64 4294967295))), iQm 6 0] (iSr [iSm 1, .s (.bin .shr .int aS0 (.c (.int .u64 32))), iQm 7 0] (iSr [iSm 4, iSm 6, .s (.bin .mul .int aS1 aS0), iQm 8 0] (iSr [iSm 5, iSm 6, .s (.bin .mul .int aS1 aS0), iSm 8, .s (.bin .shr .int aS0 (.c (.int .u64 32))), .s (.bin .add .int aS2 aS0), iQm 9 0] (iSr [iSm 9, .s (.bin .and .int aS0 (.c (.int .u64 4294967295))), iQm 10 0] (iSr [iSm 9, .s (.bin .shr .int aS0 (.c (.int .u64 32))), iQm 11 0] (iSr [iSm 10, iSm 4, iSm 7, .s (.bin .mul .int aS1 aS0), .s (.bin .add .int aS3 aS0), iQm 10 0] (iSr [iSm 5, iSm 7, .s (.bin .mul .int aS1 aS0), iSm 11, .s (.bin .add .int aS1 aS0), iSm 10, .s (.bin .shr .int aS0 (.c (.int .u64 32))), .s (.bin .add .int aS2 aS0), iQm 2 0] (iSr [iSm 0, iSm 1, .s (.bin .mul .int aS1 aS0), iQm 3 0] .ret))))))))))))
def F274.res : List RV := [.t (.of 2), .t (.of 3)]
def F274 : Fn := { params := [(.of 0), (.of 1)], res := F274.res, body := F274.b0, init := in12 }
theorem F274.ok : fnA Tryz.prog Tryz.f274 [0, 1, 4, 5, 6, 7, 8, 9, 10, 11, 12, 13] = some F274 := by kernel_rfl
abbrev F275.fr := fr3
def F275.b1 : IR := (iSr [iSm 0, .s (.conv .u64 aS0), iQm 1 0] .ret)
def F275.g0 (X1 : IR) : IR := (iSr [iQo 1 (.mv (.c (.int .u64 0)))] (.seq (iSr [iSm 0, iQo 2 (.bin .lss .int aS0 aC0)] (.cond aT2 (iSr [iSm 0, .s (.neg aS0), .s (.conv .u64 aS0), iQm 1 0] .ret) .skip)) X1))
def F275.b0 : IR := F275.g0 F275.b1
def F275.res : List RV := [.t (.of 1)]
def F275 : Fn := { params := [(.of 0)], res := F275.res, body := F275.b0, init := in3 }
theorem F275.ok : fnA Tryz.prog Tryz.f275 [0, 2, 4] = some F275 := by kernel_rfl
abbrev F276.fr := fr20
def F276.b12 : IR := (iSr [iSm 18, .s (.iaddr 1 aT16 aT18), .s (.load aS0), iQm 7 2, iQm 8 0] (iSr [iSm 5, iSm 8, iCa 274 [aS1, aS0], .s (.mv aS0), .s (.ext 0 aS0), .s (.ext 1 aS1), iQm 9 1, iQm 10 0] (iSr [iQo 11 (.mv (.c (.int .u64 0)))] (iSr [iSm 10, iSm 3, iSm 4, iSm 7, .s (.bin .add .int aS1 aS0), .s (.iaddr 1 aS3 aS0), .s (.load aS0), iCa 331 [aS6, aS0, (.c (.int .u64 0))], .s (.mv aS0), .s (.ext 0 aS0), .s (.ext 1 aS1), iQm 10 1, iQm 11 0] (iSr [iSm 9, iSm 11, .s (.bin .add .int aS1 aS0), iQm 9 0] (iSr [iSm 10, iSm 6, iCa 331 [aS1, aS0, (.c (.int .u64 0))], .s (.mv aS0), .s (.ext 0 aS0), .s (.ext 1 aS1), iQm 10 1, iQm 11 0] (.reg [iSm 3, iSm 4, iSm 7, .s (.bin .add .int aS1 aS0), iSm 10, iSm 9, iSm 11, .s (.bin .add .int aS1 aS0), .s (.iaddr 1 aS7 aS4), .w .none none (.store 1 aS0 aS4), iQm 6 1])))))))
def F276.g11 (X12 : IR) : IR := (.block 3 X12)
def F276.b11 : IR := F276.g11 F276.b12
def F276.b13 : IR := (.reg [.s (.bin .add .int aT18 aC1), iQm 18 0])
def F276.g10 (X11 X13 : IR) : IR := (.seq X11 X13)
def F276.b10 : IR := F276.g10 F276.b11 F276.b13
def F276.g9 (X10 : IR) : IR := (iSr [iQo 19 (.bin .lss .int aT18 aT17)] (.seq (.cond aT19 .skip (.exit 2)) X10))
def F276.b9 : IR := F276.g9 F276.b10
def F276.g8 (X9 : IR) : IR := (.loop X9)
def F276.b8 : IR := F276.g8 F276.b9
def F276.g7 (X8 : IR) : IR := (.block 2 X8)
def F276.b7 : IR := F276.g7 F276.b8
def F276.b14 : IR := (.reg [iSm 3, iSm 4, iSm 1, .s (.len aS0), .s (.bin .add .int aS2 aS0), iSm 6, .s (.iaddr 1 aS5 aS1), .w .none none (.store 1 aS0 aS1)])
def F276.g6 (X7 X14 : IR) : IR := (iSr [iSm 14, .s (.iaddr 1 aT12 aT14), .s (.load aS0), iQm 4 2, iQm 5 0] (iSr [iQo 6 (.mv (.c (.int .u64 0)))] (.seq (iSr [iQo 16 (.mv aT1), iQo 17 (.len aT16), iQo 18 (.mv aC0)] X7) X14)))
def F276.b6 : IR := F276.g6 F276.b7 F276.b14
def F276.g5 (X6 : IR) : IR := (.block 1 X6)
def F276.b5 : IR := F276.g5 F276.b6
def F276.b15 : IR := (.reg [.s (.bin .add .int aT14 aC1), iQm 14 0])
def F276.g4 (X5 X15 : IR) : IR := (.seq X5 X15)
def F276.b4 : IR := F276.g4 F276.b5 F276.b15
def F276.g3 (X4 : IR) : IR := (iSr [iQo 15 (.bin .lss .int aT14 aT13)] (.seq (.cond aT15 .skip (.exit 0)) X4))
def F276.b3 : IR := F276.g3 F276.b4
def F276.g2 (X3 : IR) : IR := (.loop X3)
def F276.b2 : IR := F276.g2 F276.b3
def F276.g1 (X2 : IR) : IR := (.block 0 X2)
def F276.b1 : IR := F276.g1 F276.b2
def F276.b16 : IR := (iSr [iSm 3, iCa 332 [aS0], iQm 2 0] .ret)
def F276.g0 (X1 X16 : IR) : IR := (iSr [iQo 2 (.mv (.c .nils))] (iSr [iSm 0, .s (.len aS0), iSm 1, .s (.len aS0), .s (.bin .add .int aS2 aS0), .w .push none (.mkslice 1 8 [(.int .u64 0)] aS0 aS0), iQm 3 0] (.seq (iSr [iQo 12 (.mv aT0), iQo 13 (.len aT12), iQo 14 (.mv aC0)] X1) X16)))
def F276.b0 : IR := F276.g0 F276.b1 F276.b16
def F276.res : List RV := [.t (.of 2)]
def F276 : Fn := { params := [(.of 0), (.of 1)], res := F276.res, body := F276.b0, init := in20 }
theorem F276.ok : fnA Tryz.prog Tryz.f276 [0, 1, 4, 5, 6, 7, 8, 9, 10, 11, 12, 13, 20, 21, 22, 23, 27, 28, 29, 30] = some F276 := by kernel_rfl
abbrev F278.fr := fr5
def F278.b0 : IR := (iSr [iWl 2 (.box aT0), iWl 3 (.box aT1), iWl 4 (.alloc [(I 0), .nils])] (.seq (.dreg [] [(.s (.loadN 2 aT2), 1, []), (.s (.loadN 2 aT3), 0, []), (iCa 266 [aS0], 0, []), (iCa 191 [aS2, aS0], 0, []), (.w .none none (.store 2 aT4 aS0), 0, [])]) .ret))
def F278.res : List RV := [.cell (.of 4) (some 2)]
def F278 : Fn := { params := [(.of 0), (.of 1)], res := F278.res, body := F278.b0, init := in5 }
theorem F278.ok : fnA Tryz.prog Tryz.f278 [0, 1, 2, 3, 4] = some F278 := by kernel_rfl
abbrev F280.fr := fr2
def F280.b1 : IR := (iSr [iSm 0, iCa 348 [aS0], iQm 1 0] .ret)
def F280.g0 (X1 : IR) : IR := (iSr [iQo 1 (.mv aC0)] (.seq (.cond (.c (.bool false)) (iSr [iSm 0, .s (.conv .u32 aS0), iCa 347 [aS0], iQm 1 0] .ret) .skip) X1))
def F280.b0 : IR := F280.g0 F280.b1
def F280.res : List RV := [.t (.of 1)]
def F280 : Fn := { params := [(.of 0)], res := F280.res, body := F280.b0, init := in2 }
theorem F280.ok : fnA Tryz.prog Tryz.f280 [0, 2] = some F280 := by kernel_rfl
abbrev F285.fr := fr23
def F285.b10 : IR := (iSr [iSm 0, iSm 1, iSm 2, iSm 7, iCa 359 [aS3, aS2, aS1, aS0], .s (.mv aS0), .s (.ext 0 aS0), .s (.ext 1 aS1), iQm 10 1, iQm 11 0] (iSr [iSm 11, iQm 5 0] (iSr [iSm 10, iSm 1, .s (.bin .sub .int aS1 aS0), iSm 2, iSm 10, .s (.bin .sub .int aS1 aS0), iQm 12 3, iQm 13 0] (iSr [iSm 6, .s (.bin .quo .int aS0 aC8), iQm 14 0] (iSr [iSm 12, iSm 13, iQo 22 (.bin .lss .int aS1 aS0)] (.cond aT22 (iSr [iSm 12, iSm 14, .s (.bin .geq .int aS1 aS0), iQm 4 0] (iSr [iSm 0, iSm 1, iSm 10, iSm 3, iCa 285 [aS3, aS2, aS1, aS0]] (.reg [iSm 10, .s (.bin .add .int aS0 aC1), iQm 1 0]))) (iSr [iSm 13, iSm 14, .s (.bin .geq .int aS1 aS0), iQm 4 0] (iSr [iSm 0, iSm 10, .s (.bin .add .int aS0 aC1), iSm 2, iSm 3, iCa 285 [aS4, aS2, aS1, aS0]] (.reg [iSm 10, iQm 2 0])))))))))
def F285.g9 (X10 : IR) : IR := (.seq (.seq (.dreg [] [(iSm 1, 0, []), (.s (.bin .gtr .int aS0 aC0), 0, []), (.s (.mv aS0), 0, []), (iPt 0 (.mv aT0), 0, []), (iPt 1 (.mv aT1), 0, []), (iPt 2 (.bin .sub .int aS0 aC1), 0, []), (iPt 3 (.iaddr 1 aS2 aS0), 0, []), (iPt 4 (.load aS0), 0, []), (iPt 5 (.mv aT0), 0, []), (iPt 6 (.mv aT7), 0, []), (iPt 7 (.iaddr 1 aS1 aS0), 0, []), (iPt 8 (.load aS0), 0, []), (.w .push (some (aS9, true)) (.call (.c (.fn 357 (.of 357) [])) [aS4, aS0]), 0, []), (iPt 10 (.not aS0), 0, []), (iQo 21 (.pick aS11 aS0 (.c (.bool false))), 0, [])]) (.cond aT21 (iSr [iSm 0, iSm 1, iSm 2, iSm 7, iCa 358 [aS3, aS2, aS1, aS0], iQm 9 0] (iSr [iSm 9, iQm 1 0] (.exit 1))) .skip)) X10)
def F285.b9 : IR := F285.g9 F285.b10
def F285.g8 (X9 : IR) : IR := (.seq (iSr [iSm 4, .s (.mv aS0), iPt 0 (.mv aT5), .s (.pick aS1 aS0 (.c (.bool false))), .s (.mv aS0), iPt 0 (.mv aT8), iPt 1 (.bin .eql .int aS0 aC1), iQo 19 (.pick aS2 aS0 (.c (.bool false)))] (.cond aT19 (iSr [iSm 0, iSm 1, iSm 2, iWl 20 (.call (.c (.fn 356 (.of 356) [])) [aS2, aS1, aS0])] (.cond aT20 .ret .skip)) .skip)) X9)
def F285.b8 : IR := F285.g8 F285.b9
def F285.g7 (X8 : IR) : IR := (iSr [iSm 0, iSm 1, iSm 2, iCa 354 [aS2, aS1, aS0], .s (.mv aS0), .s (.ext 0 aS0), .s (.ext 1 aS1), iQm 7 1, iQm 8 0] (.seq (iSr [iSm 8, iQo 18 (.bin .eql .int aS0 aC2)] (.cond aT18 (iSr [iSm 0, iSm 1, iSm 2, iCa 355 [aS2, aS1, aS0]] (iSr [iSm 2, .s (.bin .sub .int aS0 aC1), iSm 7, iSm 1, .s (.bin .sub .int aS1 aS0), .s (.bin .sub .int aS3 aS0), iQm 7 0] (.reg [iQo 8 (.mv aC1)]))) .skip)) X8))
def F285.b7 : IR := F285.g7 F285.b8
def F285.g6 (X7 : IR) : IR := (.seq (iSr [iSm 4, iQo 17 (.not aS0)] (.cond aT17 (iSr [iSm 0, iSm 1, iSm 2, iCa 353 [aS2, aS1, aS0]] (.reg [iSm 3, .s (.bin .sub .int aS0 aC1), iQm 3 0])) .skip)) X7)
def F285.b6 : IR := F285.g6 F285.b7
def F285.g5 (X6 : IR) : IR := (.seq (iSr [iSm 3, iQo 16 (.bin .eql .int aS0 aC0)] (.cond aT16 (iSr [iSm 0, iSm 1, iSm 2, iCa 352 [aS2, aS1, aS0]] .ret) .skip)) X6)
def F285.b5 : IR := F285.g5 F285.b6
def F285.g4 (X5 : IR) : IR := (iSr [iSm 2, iSm 1, .s (.bin .sub .int aS1 aS0), iQm 6 0] (.seq (iSr [iSm 6, iQo 15 (.bin .leq .int aS0 aC12)] (.cond aT15 (iSr [iSm 0, iSm 1, iSm 2, iCa 351 [aS2, aS1, aS0]] .ret) .skip)) X5))
def F285.b4 : IR := F285.g4 F285.b5
def F285.g3 (X4 : IR) : IR := (.block 1 X4)
def F285.b3 : IR := F285.g3 F285.b4
def F285.g2 (X3 : IR) : IR := (.loop X3)
def F285.b2 : IR := F285.g2 F285.b3
def F285.g1 (X2 : IR) : IR := (.block 0 X2)
def F285.b1 : IR := F285.g1 F285.b2
def F285.g0 (X1 : IR) : IR := (iSr [iQo 4 (.mv (.c (.bool true)))] (iSr [iQo 5 (.mv (.c (.bool true)))] X1))
def F285.b0 : IR := F285.g0 F285.b1
def F285.res : List RV := []
def F285 : Fn := { params := [(.of 0), (.of 1), (.of 2), (.of 3)], res := F285.res, body := F285.b0, init := in23 }
theorem F285.ok : fnA Tryz.prog Tryz.f285 [0, 1, 2, 3, 8, 9, 10, 11, 12, 13, 14, 15, 16, 17, 18, 23, 29, 35, 50, 68, 72, 87, 113] = some F285 := by kernel_rfl
abbrev F311.fr := fr2
def F311.b0 : IR := (iSr [iQo 1 (.mv (.c .nils))] (iSr [iSm 0, iCa 381 [(.c .nils), aS0], iQm 1 0] .ret))
def F311.res : List RV := [.t (.of 1)]
def F311 : Fn := { params := [(.of 0)], res := F311.res, body := F311.b0, init := in2 }
theorem F311.ok : fnA Tryz.prog Tryz.f311 [0, 2] = some F311 := by kernel_rfl
abbrev F312.fr := fr8
def F312.b6 : IR := (iSr [.s (.iaddr 1 aT3 aT5), .s (.load aS0), iQm 2 0] (iSr [iSm 0, iSm 2, .w .push none (.call aS1 [aS0]), iQo 7 (.not aS0)] (.cond aT7 .ret .skip)))
def F312.g5 (X6 : IR) : IR := (.block 1 X6)
def F312.b5 : IR := F312.g5 F312.b6
def F312.b7 : IR := (.reg [.s (.bin .add .int aT5 aC1), iQm 5 0])
def F312.g4 (X5 X7 : IR) : IR := (.seq X5 X7)
def F312.b4 : IR := F312.g4 F312.b5 F312.b7
def F312.g3 (X4 : IR) : IR := (iSr [iQo 6 (.bin .lss .int aT5 aT4)] (.seq (.cond aT6 .skip (.exit 0)) X4))
def F312.b3 : IR := F312.g3 F312.b4
def F312.g2 (X3 : IR) : IR := (.loop X3)
def F312.b2 : IR := F312.g2 F312.b3
def F312.g1 (X2 : IR) : IR := (.block 0 X2)
def F312.b1 : IR := F312.g1 F312.b2
def F312.g0 (X1 : IR) : IR := (iSr [iQo 3 (.load aT1), iQo 4 (.len aT3), iQo 5 (.mv aC0)] X1)
def F312.b0 : IR := F312.g0 F312.b1
def F312.res : List RV := []
def F312 : Fn := { params := [(.of 0), (.of 1)], res := F312.res, body := F312.b0, init := in8 }
theorem F312.ok : fnA Tryz.prog Tryz.f312 [0, 1, 4, 5, 6, 7, 8, 14] = some F312 := by kernel_rfl
abbrev F313.fr := fr2
def F313.b0 : IR := (iSr [iQo 1 (.mv (.c (.str [])))] (iSr [iSm 0, iCa 382 [aS0], iQm 1 0] .ret))
def F313.res : List RV := [.t (.of 1)]
def F313 : Fn := { params := [(.of 0)], res := F313.res, body := F313.b0, init := in2 }
theorem F313.ok : fnA Tryz.prog Tryz.f313 [0, 2] = some F313 := by kernel_rfl
abbrev F318.fr := fr5
def F318.b6 : IR := (iSr [iSm 0, iSm 2, .s (.bin .rem .int aS1 aS0), iQo 4 (.bin .eql .int aS0 aC0)] (.cond aT4 (iSr [iQo 1 (.mv (.c (.bool false)))] .ret) .skip))
def F318.g5 (X6 : IR) : IR := (.block 1 X6)
def F318.b5 : IR := F318.g5 F318.b6
def F318.b7 : IR := (.reg [iSm 2, .s (.bin .add .int aS0 aC1), iQm 2 0])
def F318.g4 (X5 X7 : IR) : IR := (.seq X5 X7)
def F318.b4 : IR := F318.g4 F318.b5 F318.b7
def F318.g3 (X4 : IR) : IR := (.seq (iSr [iSm 2, iSm 2, .s (.bin .mul .int aS1 aS0), iSm 0, iQo 3 (.bin .leq .int aS1 aS0)] (.cond aT3 .skip (.exit 0))) X4)
def F318.b3 : IR := F318.g3 F318.b4
def F318.g2 (X3 : IR) : IR := (.loop X3)
def F318.b2 : IR := F318.g2 F318.b3
def F318.g1 (X2 : IR) : IR := (.block 0 X2)
def F318.b1 : IR := F318.g1 F318.b2
def F318.b8 : IR := (iSr [iSm 0, .s (.bin .geq .int aS0 aC2), iQm 1 0] .ret)
def F318.g0 (X1 X8 : IR) : IR := (iSr [iQo 1 (.mv (.c (.bool false)))] (.seq (iSr [iQo 2 (.mv aC2)] X1) X8))
def F318.b0 : IR := F318.g0 F318.b1 F318.b8
def F318.res : List RV := [.t (.of 1)]
def F318 : Fn := { params := [(.of 0)], res := F318.res, body := F318.b0, init := in5 }
theorem F318.ok : fnA Tryz.prog Tryz.f318 [0, 2, 3, 8, 14] = some F318 := by kernel_rfl
end
end Go.Ev
