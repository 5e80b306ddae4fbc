import Derived.Test.YtkjkjpmahgeneaaGreatDoorIrA
import Derived.Test.YtkjkjpmahgeneaaGreatDoorEvC
import Derived.Test.YtkjkjpmahgeneaaGreatDoorProg
import Derived.KernelRfl
set_option linter.unusedSimpArgs false
set_option linter.unusedVariables false
namespace Go.Ev
open Go Go.Proofs
set_option maxRecDepth 100000
noncomputable section

abbrev jy.fr := fr9
def jy.b7 : IR := (iSr [iSm 6, iQm 3 0] (.seq (.yt [] [(iSm 0, 0, []), (iSm 3, 0, []), (.s (.zn 1 aS1 aS0), 0, []), (.s (.load aS0), 0, []), (iSm 1, 0, []), (iSm 3, 0, []), (.s (.zn 1 aS1 aS0), 0, []), (.s (.load aS0), 0, []), (iQo 8 (.bin .neq .int aS4 aS0), 0, [])]) (.cond aT8 (iSr [iQo 2 (.mv (.c (.bool false)))] .ret) .skip)))
def jy.g6 (X7 : IR) : IR := (.block 1 X7)
def jy.b6 : IR := jy.g6 jy.b7
def jy.b8 : IR := (.reg [.s (.bin .add .int aT6 aC1), iQm 6 0])
def jy.g5 (X6 X8 : IR) : IR := (.seq X6 X8)
def jy.b5 : IR := jy.g5 jy.b6 jy.b8
def jy.g4 (X5 : IR) : IR := (iSr [iQo 7 (.bin .lss .int aT6 aT5)] (.seq (.cond aT7 .skip (.exit 0)) X5))
def jy.b4 : IR := jy.g4 jy.b5
def jy.g3 (X4 : IR) : IR := (.loop X4)
def jy.b3 : IR := jy.g3 jy.b4
def jy.g2 (X3 : IR) : IR := (.block 0 X3)
def jy.b2 : IR := jy.g2 jy.b3
def jy.b9 : IR := (iSr [iQo 2 (.mv (.c (.bool true)))] .ret)
def jy.g1 (X2 X9 : IR) : IR := (.seq (iSr [iSm 0, iQo 5 (.len aS0), iQo 6 (.mv aC0)] X2) X9)
def jy.b1 : IR := jy.g1 jy.b2 jy.b9
def jy.g0 (X1 : IR) : IR := (iSr [iQo 2 (.mv (.c (.bool false)))] (.seq (iSr [iSm 0, .s (.len aS0), iSm 1, .s (.len aS0), iQo 4 (.bin .neq .int aS2 aS0)] (.cond aT4 (iSr [iQo 2 (.mv (.c (.bool false)))] .ret) .skip)) X1))
def jy.b0 : IR := jy.g0 jy.b1
def jy.res : List RV := [.t (.of 2)]
def jy : Fn := { params := [(.of 0), (.of 1)], res := jy.res, body := jy.b0, init := in9 }
theorem jy.ok : fnA Tryz.prog Tryz.f158 [0, 1, 4, 5, 10, 12, 13, 14, 24] = some jy := by kernel_rfl
abbrev qi.fr := fr9
def qi.b6 : IR := (iSr [iSm 6, .s (.zn 2 aT4 aT6), .s (.zi 2 aS0), iWl 3 (.alloc [.zf, (.bool false)]), iQm 2 2, .w .none none (.store 2 aT3 aS0)] (iSr [iSm 0, iSm 2, .s (.zi 2 aT3), .w .push none (.call aS2 [aS1, aS0]), iQo 8 (.not aS0)] (.cond aT8 .ret .skip)))
def qi.g5 (X6 : IR) : IR := (.block 1 X6)
def qi.b5 : IR := qi.g5 qi.b6
def qi.b7 : IR := (.reg [.s (.bin .add .int aT6 aC1), iQm 6 0])
def qi.g4 (X5 X7 : IR) : IR := (.seq X5 X7)
def qi.b4 : IR := qi.g4 qi.b5 qi.b7
def qi.g3 (X4 : IR) : IR := (iSr [iQo 7 (.bin .lss .int aT6 aT5)] (.seq (.cond aT7 .skip (.exit 0)) X4))
def qi.b3 : IR := qi.g3 qi.b4
def qi.g2 (X3 : IR) : IR := (.loop X3)
def qi.b2 : IR := qi.g2 qi.b3
def qi.g1 (X2 : IR) : IR := (.block 0 X2)
def qi.b1 : IR := qi.g1 qi.b2
def qi.g0 (X1 : IR) : IR := (iSr [iQo 4 (.load aT1), iQo 5 (.len aT4), iQo 6 (.mv aC0)] X1)
def qi.b0 : IR := qi.g0 qi.b1
def qi.res : List RV := []
def qi : Fn := { params := [(.of 0), (.of 1)], res := qi.res, body := qi.b0, init := in9 }
theorem qi.ok : fnA Tryz.prog Tryz.f159 [0, 1, 3, 4, 5, 6, 7, 8, 16] = some qi := by kernel_rfl
abbrev qx.fr := fr23
def qx.b10 : IR := (iSr [iSm 0, iSm 1, iSm 2, iSm 7, iCa 211 [aS3, aS2, aS1, aS0], .s (.mv aS0), .s (.ext 0 aS0), .s (.ext 1 aS1), iQm 10 1, iQm 11 0] (iSr [iSm 11, iQm 5 0] (iSr [iSm 10, iSm 1, .s (.bin .sub .int aS1 aS0), iSm 2, iSm 10, .s (.bin .sub .int aS1 aS0), iQm 12 3, iQm 13 0] (iSr [iSm 6, .s (.bin .quo .int aS0 aC8), iQm 14 0] (iSr [iSm 12, iSm 13, iQo 22 (.bin .lss .int aS1 aS0)] (.cond aT22 (iSr [iSm 12, iSm 14, .s (.bin .geq .int aS1 aS0), iQm 4 0] (iSr [iSm 0, iSm 1, iSm 10, iSm 3, iCa 160 [aS3, aS2, aS1, aS0]] (.reg [iSm 10, .s (.bin .add .int aS0 aC1), iQm 1 0]))) (iSr [iSm 13, iSm 14, .s (.bin .geq .int aS1 aS0), iQm 4 0] (iSr [iSm 0, iSm 10, .s (.bin .add .int aS0 aC1), iSm 2, iSm 3, iCa 160 [aS4, aS2, aS1, aS0]] (.reg [iSm 10, iQm 2 0])))))))))
def qx.g9 (X10 : IR) : IR := (.seq (.seq (.yt [] [(iSm 1, 0, []), (.s (.bin .gtr .int aS0 aC0), 0, []), (.s (.mv aS0), 0, []), (iPt 0 (.mv aT0), 0, []), (iPt 1 (.mv aT1), 0, []), (iPt 2 (.bin .sub .int aS0 aC1), 0, []), (iPt 3 (.zn 1 aS2 aS0), 0, []), (iPt 4 (.load aS0), 0, []), (iPt 5 (.mv aT0), 0, []), (iPt 6 (.mv aT7), 0, []), (iPt 7 (.zn 1 aS1 aS0), 0, []), (iPt 8 (.load aS0), 0, []), (.w .push (some (aS9, true)) (.call (.c (.fn 209 (.of 209) [])) [aS4, aS0]), 0, []), (iPt 10 (.not aS0), 0, []), (iQo 21 (.pick aS11 aS0 (.c (.bool false))), 0, [])]) (.cond aT21 (iSr [iSm 0, iSm 1, iSm 2, iSm 7, iCa 210 [aS3, aS2, aS1, aS0], iQm 9 0] (iSr [iSm 9, iQm 1 0] (.exit 1))) .skip)) X10)
def qx.b9 : IR := qx.g9 qx.b10
def qx.g8 (X9 : IR) : IR := (.seq (iSr [iSm 4, .s (.mv aS0), iPt 0 (.mv aT5), .s (.pick aS1 aS0 (.c (.bool false))), .s (.mv aS0), iPt 0 (.mv aT8), iPt 1 (.bin .eql .int aS0 aC1), iQo 19 (.pick aS2 aS0 (.c (.bool false)))] (.cond aT19 (iSr [iSm 0, iSm 1, iSm 2, iWl 20 (.call (.c (.fn 208 (.of 208) [])) [aS2, aS1, aS0])] (.cond aT20 .ret .skip)) .skip)) X9)
def qx.b8 : IR := qx.g8 qx.b9
def qx.g7 (X8 : IR) : IR := (iSr [iSm 0, iSm 1, iSm 2, iCa 206 [aS2, aS1, aS0], .s (.mv aS0), .s (.ext 0 aS0), .s (.ext 1 aS1), iQm 7 1, iQm 8 0] (.seq (iSr [iSm 8, iQo 18 (.bin .eql .int aS0 aC2)] (.cond aT18 (iSr [iSm 0, iSm 1, iSm 2, iCa 207 [aS2, aS1, aS0]] (iSr [iSm 2, .s (.bin .sub .int aS0 aC1), iSm 7, iSm 1, .s (.bin .sub .int aS1 aS0), .s (.bin .sub .int aS3 aS0), iQm 7 0] (.reg [iQo 8 (.mv aC1)]))) .skip)) X8))
def qx.b7 : IR := qx.g7 qx.b8
def qx.g6 (X7 : IR) : IR := (.seq (iSr [iSm 4, iQo 17 (.not aS0)] (.cond aT17 (iSr [iSm 0, iSm 1, iSm 2, iCa 205 [aS2, aS1, aS0]] (.reg [iSm 3, .s (.bin .sub .int aS0 aC1), iQm 3 0])) .skip)) X7)
def qx.b6 : IR := qx.g6 qx.b7
def qx.g5 (X6 : IR) : IR := (.seq (iSr [iSm 3, iQo 16 (.bin .eql .int aS0 aC0)] (.cond aT16 (iSr [iSm 0, iSm 1, iSm 2, iCa 204 [aS2, aS1, aS0]] .ret) .skip)) X6)
def qx.b5 : IR := qx.g5 qx.b6
def qx.g4 (X5 : IR) : IR := (iSr [iSm 2, iSm 1, .s (.bin .sub .int aS1 aS0), iQm 6 0] (.seq (iSr [iSm 6, iQo 15 (.bin .leq .int aS0 aC12)] (.cond aT15 (iSr [iSm 0, iSm 1, iSm 2, iCa 203 [aS2, aS1, aS0]] .ret) .skip)) X5))
def qx.b4 : IR := qx.g4 qx.b5
def qx.g3 (X4 : IR) : IR := (.block 1 X4)
def qx.b3 : IR := qx.g3 qx.b4
def qx.g2 (X3 : IR) : IR := (.loop X3)
def qx.b2 : IR := qx.g2 qx.b3
def qx.g1 (X2 : IR) : IR := (.block 0 X2)
def qx.b1 : IR := qx.g1 qx.b2
def qx.g0 (X1 : IR) : IR := (iSr [iQo 4 (.mv (.c (.bool true)))] (iSr [iQo 5 (.mv (.c (.bool true)))] X1))
def qx.b0 : IR := qx.g0 qx.b1
def qx.res : List RV := []
def qx : Fn := { params := [(.of 0), (.of 1), (.of 2), (.of 3)], res := qx.res, body := qx.b0, init := in23 }
theorem qx.ok : fnA Tryz.prog Tryz.f160 [0, 1, 2, 3, 8, 9, 10, 11, 12, 13, 14, 15, 16, 17, 18, 23, 29, 35, 50, 68, 72, 87, 113] = some qx := by kernel_rfl
abbrev F161.fr := fr2
def F161.b1 : IR := (iSr [iSm 0, iCa 213 [aS0], iQm 1 0] .ret)
def F161.g0 (X1 : IR) : IR := (iSr [iQo 1 (.mv aC0)] (.seq (.cond (.c (.bool false)) (iSr [iSm 0, .s (.conv .u32 aS0), iCa 212 [aS0], iQm 1 0] .ret) .skip) X1))
def F161.b0 : IR := F161.g0 F161.b1
def F161.res : List RV := [.t (.of 1)]
def F161 : Fn := { params := [(.of 0)], res := F161.res, body := F161.b0, init := in2 }
theorem F161.ok : fnA Tryz.prog Tryz.f161 [0, 2] = some F161 := by kernel_rfl
abbrev cu.fr := fr8
def cu.b2 : IR := (iSr [iQo 4 (.mv (.c (I (-1))))] .ret)
def cu.g1 (X2 : IR) : IR := (.seq (iSr [.s (.zx 1 aT2), iQo 7 (.load aS0)] (.cond aT7 (iSr [iQo 4 (.mv aC1)] .ret) .skip)) X2)
def cu.b1 : IR := cu.g1 cu.b2
def cu.g0 (X1 : IR) : IR := (iSr [iWl 2 (.box aT0), iWl 3 (.box aT1), iQo 4 (.mv aC0)] (.seq (iSr [.s (.zx 0 aT2), .s (.load aS0), .s (.zx 0 aT3), .s (.load aS0), iCa 201 [aS2, aS0], iQm 5 0] (iSr [iSm 5, .s (.bin .neq .int aS0 aC0), .s (.mv aS0), iPf 0 (.zx 1 aT2), iPf 1 (.load aS0), iPf 2 (.zx 1 aT3), iPf 3 (.load aS0), iPf 4 (.bin .eql .bool aS2 aS0), iQo 6 (.pick aS5 (.c (.bool true)) aS0)] (.cond aT6 (iSr [iSm 5, iQm 4 0] .ret) .skip))) X1))
def cu.b0 : IR := cu.g0 cu.b1
def cu.res : List RV := [.t (.of 4)]
def cu : Fn := { params := [(.of 0), (.of 1)], res := cu.res, body := cu.b0, init := in8 }
theorem cu.ok : fnA Tryz.prog Tryz.f162 [0, 1, 2, 3, 4, 5, 19, 22] = some cu := by kernel_rfl
abbrev ug.fr := fr7
def ug.b6 : IR := (iSr [iSm 5, iQm 3 0] (.reg [.s (.zx 0 aT2), .s (.load aS0), iSm 3, iSm 3, .s (.zn 1 aS2 aS1), .w .none none (.store 1 aS0 aS1)]))
def ug.g5 (X6 : IR) : IR := (.block 1 X6)
def ug.b5 : IR := ug.g5 ug.b6
def ug.b7 : IR := (.reg [.s (.bin .add .int aT5 aC1), iQm 5 0])
def ug.g4 (X5 X7 : IR) : IR := (.seq X5 X7)
def ug.b4 : IR := ug.g4 ug.b5 ug.b7
def ug.g3 (X4 : IR) : IR := (iSr [iQo 6 (.bin .lss .int aT5 aT4)] (.seq (.cond aT6 .skip (.exit 0)) X4))
def ug.b3 : IR := ug.g3 ug.b4
def ug.g2 (X3 : IR) : IR := (.loop X3)
def ug.b2 : IR := ug.g2 ug.b3
def ug.g1 (X2 : IR) : IR := (.block 0 X2)
def ug.b1 : IR := ug.g1 ug.b2
def ug.b8 : IR := (iSr [.s (.zi 2 aT2), .w .none none (.store 2 aT1 aS0)] .ret)
def ug.g0 (X1 X8 : IR) : IR := (iSr [iWl 1 (.alloc [.zf, (.bool false)])] (iSr [iSm 0, .w .push none (.um 1 8 [(I 0)] aS0 aS0), .s (.build [.zf, (.bool false)] [(0, 1, aS0)]), iWl 2 (.alloc [.zf, (.bool false)]), .w .none none (.store 2 aT2 aS0)] (.seq (iSr [.s (.zx 0 aT2), .s (.load aS0), iQo 4 (.len aS0), iQo 5 (.mv aC0)] X1) X8)))
def ug.b0 : IR := ug.g0 ug.b1 ug.b8
def ug.res : List RV := [.cell (.of 1) (some 2)]
def ug : Fn := { params := [(.of 0)], res := ug.res, body := ug.b0, init := in7 }
theorem ug.ok : fnA Tryz.prog Tryz.f163 [0, 2, 3, 4, 10, 11, 12] = some ug := by kernel_rfl
abbrev bJ.fr := fr8
def bJ.b6 : IR := (iSr [.s (.zn 1 aT3 aT5), .s (.load aS0), iQm 2 0] (iSr [iSm 2, iQo 7 (.bin .neq .int aS0 aC0)] (.cond aT7 (iSr [iSm 2, iQm 1 0] .ret) .skip)))
def bJ.g5 (X6 : IR) : IR := (.block 1 X6)
def bJ.b5 : IR := bJ.g5 bJ.b6
def bJ.b7 : IR := (.reg [.s (.bin .add .int aT5 aC1), iQm 5 0])
def bJ.g4 (X5 X7 : IR) : IR := (.seq X5 X7)
def bJ.b4 : IR := bJ.g4 bJ.b5 bJ.b7
def bJ.g3 (X4 : IR) : IR := (iSr [iQo 6 (.bin .lss .int aT5 aT4)] (.seq (.cond aT6 .skip (.exit 0)) X4))
def bJ.b3 : IR := bJ.g3 bJ.b4
def bJ.g2 (X3 : IR) : IR := (.loop X3)
def bJ.b2 : IR := bJ.g2 bJ.b3
def bJ.g1 (X2 : IR) : IR := (.block 0 X2)
def bJ.b1 : IR := bJ.g1 bJ.b2
def bJ.b8 : IR := (iSr [iQo 1 (.mv aC0)] .ret)
def bJ.g0 (X1 X8 : IR) : IR := (iSr [iQo 1 (.mv aC0)] (.seq (iSr [iQo 3 (.mv aT0), iQo 4 (.len aT3), iQo 5 (.mv aC0)] X1) X8))
def bJ.b0 : IR := bJ.g0 bJ.b1 bJ.b8
def bJ.res : List RV := [.t (.of 1)]
def bJ : Fn := { params := [(.of 0)], res := bJ.res, body := bJ.b0, init := in8 }
theorem bJ.ok : fnA Tryz.prog Tryz.f165 [0, 2, 4, 5, 6, 7, 8, 12] = some bJ := by kernel_rfl
abbrev F166.fr := fr6
def F166.b0 : IR := (iSr [iWl 3 (.box aT0), iWl 4 (.box aT1), iQo 5 (.mv aC0)] (iSr [iSm 2, .s (.fn 215 (.of 215) [aT3, aT4]), iCa 136 [aS1, aS0], iCa 167 [aS0, aC3], iQm 5 0] .ret))
def F166.res : List RV := [.t (.of 5)]
def F166 : Fn := { params := [(.of 0), (.of 1), (.of 2)], res := F166.res, body := F166.b0, init := in6 }
theorem F166.ok : fnA Tryz.prog Tryz.f166 [0, 1, 2, 3, 4, 6] = some F166 := by kernel_rfl
abbrev F167.fr := fr4
def F167.b1 : IR := (iSr [iQo 2 (.mv aC0)] .ret)
def F167.g0 (X1 : IR) : IR := (iSr [iQo 2 (.mv aC0)] (.seq (iSr [iQo 3 (.mv aT0)] (.cond aT3 (iSr [iSm 1, iQm 2 0] .ret) .skip)) X1))
def F167.b0 : IR := F167.g0 F167.b1
def F167.res : List RV := [.t (.of 2)]
def F167 : Fn := { params := [(.of 0), (.of 1)], res := F167.res, body := F167.b0, init := in4 }
theorem F167.ok : fnA Tryz.prog Tryz.f167 [0, 1, 4, 5] = some F167 := by kernel_rfl
abbrev vw.fr := fr14
def vw.b7 : IR := (iSr [iSm 11, .s (.zn 1 aT9 aT11), .s (.load aS0), iQm 5 2, iQm 6 0] (iSr [iSm 6, .s (.bin .lss .int aS0 aC0), .s (.mv aS0), iPf 0 (.mv aT6), iPf 1 (.zx 0 aT2), iPf 2 (.load aS0), iPf 3 (.bin .geq .int aS2 aS0), .s (.pick aS4 (.c (.bool true)) aS0), iCa 167 [aS0, aC10], iSm 5, .s (.bin .gtr .int aS0 aC0), .s (.mv aS0), iPt 0 (.load aT4), iPt 1 (.mv aT5), iPt 2 (.bin .sub .int aS0 aC1), iPt 3 (.zn 1 aS2 aS0), iPt 4 (.load aS0), iPt 5 (.mv aT6), iPt 6 (.bin .geq .int aS1 aS0), .s (.pick aS7 aS0 (.c (.bool false))), iCa 167 [aS0, aC11], .w .push none (.zy 1 2 [(I 0)] [(0, 1, aS12), (1, 1, aS0)]), iCa 165 [aS0], iQm 7 0] (iSr [iSm 7, iQo 13 (.bin .neq .int aS0 aC0)] (.cond fK (iSr [iSm 7, iQm 3 0] .ret) .skip))))
def vw.g6 (X7 : IR) : IR := (.block 1 X7)
def vw.b6 : IR := vw.g6 vw.b7
def vw.b8 : IR := (.reg [.s (.bin .add .int aT11 aC1), iQm 11 0])
def vw.g5 (X6 X8 : IR) : IR := (.seq X6 X8)
def vw.b5 : IR := vw.g5 vw.b6 vw.b8
def vw.g4 (X5 : IR) : IR := (iSr [iQo 12 (.bin .lss .int aT11 bW)] (.seq (.cond aT12 .skip (.exit 0)) X5))
def vw.b4 : IR := vw.g4 vw.b5
def vw.g3 (X4 : IR) : IR := (.loop X4)
def vw.b3 : IR := vw.g3 vw.b4
def vw.g2 (X3 : IR) : IR := (.block 0 X3)
def vw.b2 : IR := vw.g2 vw.b3
def vw.b9 : IR := (iSr [.s (.zx 1 aT2), .s (.load aS0), iSm 1, .s (.slice 1 aS1 none (some aS0) none), .s (.fn 217 (.of 217) [aT4]), iCa 216 [aS1, aS0], iCa 167 [aS0, aC9], iQm 3 0] .ret)
def vw.g1 (X2 X9 : IR) : IR := (.seq (iSr [iQo 9 (.load aT4), iQo 10 (.len aT9), iQo 11 (.mv aC0)] X2) X9)
def vw.b1 : IR := vw.g1 vw.b2 vw.b9
def vw.g0 (X1 : IR) : IR := (iSr [iWl 2 (.box aT0), iQo 3 (.mv aC0)] (iSr [.s (.zx 1 aT2), .s (.load aS0), iSm 1, .s (.zn 1 aS1 aS0), .s (.load aS0), iWl 4 (.alloc [.zf]), .w .none none (.store 1 aT4 aS0)] (.seq (iSr [.s (.load aT4), .s (.len aS0), iQo 8 (.bin .eql .int aS0 aC0)] (.cond aT8 (iSr [iQo 3 (.mv aC12)] .ret) .skip)) X1)))
def vw.b0 : IR := vw.g0 vw.b1
def vw.res : List RV := [.t (.of 3)]
def vw : Fn := { params := [(.of 0), (.of 1)], res := vw.res, body := vw.b0, init := in14 }
theorem vw.ok : fnA Tryz.prog Tryz.f168 [0, 1, 2, 4, 5, 6, 7, 8, 16, 17, 18, 19, 20, 48] = some vw := by kernel_rfl
abbrev bK.fr := fr10
def bK.b6 : IR := (iSr [.s (.zn 1 aT6 aT8), .s (.load aS0), iQm 5 0] (.reg [iSm 4, iSm 0, iSm 5, .s (.zn 1 aS1 aS0), .s (.load aS0), .w .push none (.zy 1 1 [(I 0)] [(0, 1, aS0)]), .w .push none (.app 1 8 aS5 aS0), iQm 4 0]))
def bK.g5 (X6 : IR) : IR := (.block 1 X6)
def bK.b5 : IR := bK.g5 bK.b6
def bK.b7 : IR := (.reg [.s (.bin .add .int aT8 aC1), iQm 8 0])
def bK.g4 (X5 X7 : IR) : IR := (.seq X5 X7)
def bK.b4 : IR := bK.g4 bK.b5 bK.b7
def bK.g3 (X4 : IR) : IR := (iSr [iQo 9 (.bin .lss .int aT8 aT7)] (.seq (.cond aT9 .skip (.exit 0)) X4))
def bK.b3 : IR := bK.g3 bK.b4
def bK.g2 (X3 : IR) : IR := (.loop X3)
def bK.b2 : IR := bK.g2 bK.b3
def bK.g1 (X2 : IR) : IR := (.block 0 X2)
def bK.b1 : IR := bK.g1 bK.b2
def bK.b8 : IR := (iSr [iSm 4, iCa 91 [aS0]] (.seq (.yt [] [(.s (.load aT2), 1, []), (iSm 4, 0, []), (.s (.build [.zf, (.bool false)] [(0, 1, aS0)]), 0, []), (iCa 123 [aS0], 0, []), (.s (.look .str (.bool false) false aS3 aS0), 0, []), (iQm 3 0, 0, [])]) .ret))
def bK.g0 (X1 X8 : IR) : IR := (iSr [iQo 3 (.mv (.c (.bool false)))] (iSr [iQo 4 (.mv (.c .zf))] (.seq (iSr [iQo 6 (.mv aT1), iQo 7 (.len aT6), iQo 8 (.mv aC0)] X1) X8)))
def bK.b0 : IR := bK.g0 bK.b1 bK.b8
def bK.res : List RV := [.t (.of 3)]
def bK : Fn := { params := [(.of 0), (.of 1), (.of 2)], res := bK.res, body := bK.b0, init := in10 }
theorem bK.ok : fnA Tryz.prog Tryz.f169 [0, 1, 2, 5, 6, 8, 9, 10, 11, 12] = some bK := by kernel_rfl
abbrev F174.fr := fr6
def F174.b2 : IR := (iSr [.s (.zx 1 aT1), .s (.load aS0), .s (.bin .neq (.nil .sl) aS0 (.c .zf)), iQm 4 0] (.cond aT4 (.seq (.yt [] [(.s (.zx 0 aT1), 0, []), (.s (.load aS0), 0, []), (.s (.bin .lss .int aS0 aC0), 0, []), (.s (.zx 1 aT1), 0, []), (.s (.load aS0), 0, []), (iQm 2 2, 0, []), (iQm 3 0, 0, [])]) .ret) (iSr [.s (.zx 0 aT1), .s (.load aS0), .s (.bin .eql .int aS0 aC0), iQm 5 0] (.cond aT5 (iSr [iQo 2 (.mv (.c (.bool false))), iQo 3 (.mv (.c .zf))] .ret) .skip))))
def F174.g1 (X2 : IR) : IR := (.block 0 X2)
def F174.b1 : IR := F174.g1 F174.b2
def F174.b3 : IR := (.seq (.yt [] [(.s (.zx 0 aT1), 2, []), (.s (.load aS0), 2, []), (.s (.bin .lss .int aS0 aC0), 2, []), (.s (.zx 0 aT1), 0, []), (.s (.load aS0), 0, []), (iCa 220 [aS0], 0, []), (iQm 2 3, 1, []), (.w .push none (.zy 1 1 [(.int .u64 0)] [(0, 1, aS0)]), 0, []), (iQm 3 0, 0, [])]) .ret)
def F174.g0 (X1 X3 : IR) : IR := (iSr [iWl 1 (.box aT0), iQo 2 (.mv (.c (.bool false))), iQo 3 (.mv (.c .zf))] (.seq X1 X3))
def F174.b0 : IR := F174.g0 F174.b1 F174.b3
def F174.res : List RV := [.t (.of 2), .t (.of 3)]
def F174 : Fn := { params := [(.of 0)], res := F174.res, body := F174.b0, init := in6 }
theorem F174.ok : fnA Tryz.prog Tryz.f174 [0, 1, 2, 3, 4, 13] = some F174 := by kernel_rfl
abbrev F179.fr := fr14
def F179.b1 : IR := (iSr [iSm 6, .s (.conv .i64 aS0), .s (.build [(I 0), .zf] [(0, 1, aS0)]), .w .none none (.store 2 aT4 aS0)] .ret)
def F179.b2 : IR := (iSr [.s (.zi 2 aT2), iCa 174 [aS0], .s (.mv aS0), .s (.ext 0 aS0), .s (.ext 1 aS1), iQm 7 1, iQm 8 0] (iSr [.s (.zi 2 aT3), iCa 174 [aS0], .s (.mv aS0), .s (.ext 0 aS0), .s (.ext 1 aS1), iQm 9 1, iQm 10 0] (iSr [iSm 7, iSm 9, .s (.bin .neq .bool aS1 aS0), iSm 8, iSm 10, iCa 225 [aS1, aS0], iCa 175 [aS3, aS0], .w .none none (.store 2 aT4 aS0)] .ret)))
def F179.g0 (X1 X2 : IR) : IR := (iSr [iWl 2 (.box aT0), iWl 3 (.box aT1), iWl 4 (.alloc [(I 0), .zf])] (.seq (iSr [.s (.zx 1 aT2), .s (.load aS0), .s (.bin .eql (.nil .sl) aS0 (.c .zf)), .s (.mv aS0), iPt 0 (.zx 1 aT3), iPt 1 (.load aS0), iPt 2 (.bin .eql (.nil .sl) aS0 (.c .zf)), iQo 11 (.pick aS3 aS0 (.c (.bool false)))] (.cond aT11 (.seq (.yt [] [(.s (.zx 0 aT2), 0, []), (.s (.load aS0), 0, []), (.s (.zx 0 aT3), 1, []), (.s (.load aS0), 1, []), (iCa 220 [aS2], 0, []), (iCa 220 [aS1], 0, []), (iCa 224 [aS1, aS0], 0, []), (.s (.mv aS0), 0, []), (.s (.ext 0 aS0), 0, []), (.s (.ext 1 aS1), 0, []), (iQm 5 1, 0, []), (iQm 6 0, 0, [])]) (iSr [iSm 5, .s (.bin .eql .int aS0 (.c (.int .u64 0))), .s (.mv aS0), iPt 0 (.mv aT6), iPt 1 (.bin .leq .int aS0 (.c (.int .u64 9223372036854775807))), iQo 12 (.pick aS2 aS0 (.c (.bool false)))] (.cond aT12 (.seq (iSr [.s (.zx 0 aT2), .s (.load aS0), .s (.bin .lss .int aS0 aC0), .s (.zx 0 aT3), .s (.load aS0), .s (.bin .lss .int aS0 aC0), iQo 13 (.bin .neq .bool aS3 aS0)] (.cond fK (iSr [iSm 6, .s (.conv .i64 aS0), .s (.neg aS0), .s (.build [(I 0), .zf] [(0, 1, aS0)]), .w .none none (.store 2 aT4 aS0)] .ret) .skip)) X1) .skip))) .skip)) X2))
def F179.b0 : IR := F179.g0 F179.b1 F179.b2
def F179.res : List RV := [.cell (.of 4) (some 2)]
def F179 : Fn := { params := [(.of 0), (.of 1)], res := F179.res, body := F179.b0, init := in14 }
theorem F179.ok : fnA Tryz.prog Tryz.f179 [0, 1, 2, 3, 4, 5, 6, 7, 8, 9, 10, 18, 34, 41] = some F179 := by kernel_rfl
abbrev F180.fr := fr3
def F180.b0 : IR := (iSr [iWl 1 (.box aT0), iQo 2 (.mv aC0)] (iSr [.s (.zx 0 aT1), .s (.load aS0), .s (.minmax false aC1 [aS0]), .s (.minmax true (.c (I (-1))) [aS0]), iQm 2 0] .ret))
def F180.res : List RV := [.t (.of 2)]
def F180 : Fn := { params := [(.of 0)], res := F180.res, body := F180.b0, init := in3 }
theorem F180.ok : fnA Tryz.prog Tryz.f180 [0, 1, 2] = some F180 := by kernel_rfl
abbrev F182.fr := fr18
def F182.b1 : IR := (iSr [iSm 6, .s (.build [(I 0), .zf] [(0, 1, aS0)]), iSm 7, .s (.build [(I 0), .zf] [(0, 1, aS0)]), .w .none none (.store 2 aT4 aS2), .w .none none (.store 2 aT5 aS0)] .ret)
def F182.b3 : IR := (.seq (.yt [] [(.s (.zi 2 fK), 0, []), (.s (.zi 2 aT14), 1, []), (.w .none none (.store 2 aT4 aS1), 0, []), (.w .none none (.store 2 aT5 aS0), 0, [])]) .ret)
def F182.g2 (X3 : IR) : IR := (iSr [.s (.zi 2 aT2), iCa 174 [aS0], .s (.mv aS0), .s (.ext 0 aS0), .s (.ext 1 aS1), iQm 8 1, iQm 9 0] (iSr [.s (.zi 2 aT3), iCa 174 [aS0], .s (.mv aS0), .s (.ext 0 aS0), .s (.ext 1 aS1), .s (.mv aS1), iQm 10 1] (iSr [iSm 9, iSm 10, iCa 226 [aS1, aS0], .s (.mv aS0), .s (.ext 0 aS0), .s (.ext 1 aS1), iQm 11 1, iQm 12 0] (iSr [iSm 8, iSm 11, iCa 175 [aS1, aS0], iSm 8, iSm 12, iCa 175 [aS1, aS0], iWl 13 (.alloc [(I 0), .zf]), iWl 14 (.alloc [(I 0), .zf]), .w .none none (.store 2 fK aS3), .w .none none (.store 2 aT14 aS0)] (.seq (iSr [.s (.zi 2 aT14), iCa 180 [aS0], iQo 17 (.bin .lss .int aS0 aC0)] (.cond aT17 (.yt [] [(.s (.zi 2 fK), 1, []), (.s (.zi 2 aT14), 2, []), (.s (.zi 2 aT3), 2, []), (iCa 110 [aC1], 0, []), (iCa 227 [aS3, aS0], 0, []), (iCa 111 [aS3, aS2], 0, []), (.w .none none (.store 2 fK aS1), 0, []), (.w .none none (.store 2 aT14 aS0), 0, [])]) .skip)) X3)))))
def F182.b2 : IR := F182.g2 F182.b3
def F182.g0 (X1 X2 : IR) : IR := (iSr [iWl 2 (.box aT0), iWl 3 (.box aT1), iWl 4 (.alloc [(I 0), .zf]), iWl 5 (.alloc [(I 0), .zf])] (.seq (iSr [.s (.zx 1 aT2), .s (.load aS0), .s (.bin .eql (.nil .sl) aS0 (.c .zf)), .s (.mv aS0), iPt 0 (.zx 1 aT3), iPt 1 (.load aS0), iPt 2 (.bin .eql (.nil .sl) aS0 (.c .zf)), .s (.pick aS3 aS0 (.c (.bool false))), .s (.mv aS0), iPt 0 (.zx 0 aT2), iPt 1 (.load aS0), iPt 2 (.bin .neq .int aS0 (.c (I (-9223372036854775808)))), iQo 15 (.pick aS3 aS0 (.c (.bool false)))] (.cond aT15 (.seq (.yt [] [(.s (.zx 0 aT2), 0, []), (.s (.load aS0), 0, []), (.s (.zx 0 aT3), 0, []), (.s (.load aS0), 0, []), (.s (.bin .quo .int aS2 aS0), 0, []), (.s (.zx 0 aT2), 0, []), (.s (.load aS0), 0, []), (.s (.zx 0 aT3), 0, []), (.s (.load aS0), 0, []), (.s (.bin .rem .int aS2 aS0), 0, []), (iQm 6 5, 0, []), (iQm 7 0, 0, [])]) (.seq (iSr [iSm 7, iQo 16 (.bin .lss .int aS0 aC0)] (.cond aT16 (.yt [] [(iSm 6, 0, []), (.s (.bin .sub .int aS0 aC1), 0, []), (iSm 7, 0, []), (.s (.zx 0 aT3), 0, []), (.s (.load aS0), 0, []), (.s (.bin .add .int aS2 aS0), 0, []), (iQm 6 4, 0, []), (iQm 7 0, 0, [])]) .skip)) X1)) .skip)) X2))
def F182.b0 : IR := F182.g0 F182.b1 F182.b2
def F182.res : List RV := [.cell (.of 4) (some 2), .cell (.of 5) (some 2)]
def F182 : Fn := { params := [(.of 0), (.of 1)], res := F182.res, body := F182.b0, init := in18 }
theorem F182.ok : fnA Tryz.prog Tryz.f182 [0, 1, 2, 3, 4, 5, 6, 7, 8, 9, 11, 12, 13, 14, 15, 28, 40, 75] = some F182 := by kernel_rfl
abbrev F183.fr := fr3
def F183.b0 : IR := (iSr [iWl 1 (.box aT0), iQo 2 (.mv (.c (.bool false)))] (iSr [.s (.zi 2 aT1), iCa 228 [aS0], .s (.bin .gtr .int aS0 aC1800), .s (.mv aS0), iPt 0 (.zi 2 aT1), .w .push (some (aS1, true)) (.call (.c (.fn 185 (.of 185) [])) [aS0]), .w .push (some (aS2, true)) (.call (.c (.fn 229 (.of 229) [])) [aS0, (.c (.str [45]))]), iPt 3 (.slen aS0), iPt 4 (.bin .gtr .int aS0 aC600), .s (.pick aS5 aS0 (.c (.bool false))), iQm 2 0] .ret))
def F183.res : List RV := [.t (.of 2)]
def F183 : Fn := { params := [(.of 0)], res := F183.res, body := F183.b0, init := in3 }
theorem F183.ok : fnA Tryz.prog Tryz.f183 [0, 1, 2] = some F183 := by kernel_rfl
abbrev F184.fr := fr3
def F184.b0 : IR := (iSr [iWl 1 (.box aT0), iQo 2 (.mv (.c (.bool false)))] (iSr [.s (.zx 2 aT1), .s (.zx 1 aS0), .s (.load aS0), .s (.bin .eql (.nil .sl) aS0 (.c .zf)), .s (.mv aS0), iPt 0 (.zx 2 aT1), iPt 1 (.zx 0 aS0), iPt 2 (.load aS0), iPt 3 (.bin .eql .int aS0 aC1), .s (.pick aS4 aS0 (.c (.bool false))), iQm 2 0] .ret))
def F184.res : List RV := [.t (.of 2)]
def F184 : Fn := { params := [(.of 0)], res := F184.res, body := F184.b0, init := in3 }
theorem F184.ok : fnA Tryz.prog Tryz.f184 [0, 1, 2] = some F184 := by kernel_rfl
abbrev jo.fr := fr18
def jo.b8 : IR := (iSr [iSm 6, iSm 9, .w .push none (.zy 1 1 [(.str [])] [(0, 1, aS0)]), .w .push none (.app 1 16 aS2 aS0), iQm 6 0] (.reg [iSm 7, iQm 4 0]))
def jo.g7 (X8 : IR) : IR := (.seq (iSr [iSm 7, .s (.len aS0), iQo 15 (.bin .gtr .int aS0 aC0)] (.cond aT15 (.reg [iSm 9, .s (.slen aS0), .s (.bin .sub .int aC18 aS0), .w .push none (.call (.c (.fn 232 (.of 232) [])) [(.c (.str [48])), aS0]), iSm 9, .s (.bin .add .str aS1 aS0), iQm 9 0]) .skip)) X8)
def jo.b7 : IR := jo.g7 jo.b8
def jo.g6 (X7 : IR) : IR := (iSr [iSm 4, iSm 5, iCa 226 [aS1, aS0], .s (.mv aS0), .s (.ext 0 aS0), .s (.ext 1 aS1), iQm 7 1, iQm 8 0] (iSr [iQo 9 (.mv (.c (.str [48])))] (.seq (iSr [iSm 8, .s (.len aS0), iQo 14 (.bin .gtr .int aS0 aC0)] (.cond aT14 (.reg [iSm 8, .s (.zn 1 aS0 aC0), .s (.load aS0), iCa 231 [aS0, aC10], iQm 9 0]) .skip)) X7)))
def jo.b6 : IR := jo.g6 jo.b7
def jo.g5 (X6 : IR) : IR := (.block 1 X6)
def jo.b5 : IR := jo.g5 jo.b6
def jo.g4 (X5 : IR) : IR := (.seq (iSr [iSm 4, .s (.len aS0), iQo 13 (.bin .gtr .int aS0 aC0)] (.cond fK .skip (.exit 0))) X5)
def jo.b4 : IR := jo.g4 jo.b5
def jo.g3 (X4 : IR) : IR := (.loop X4)
def jo.b3 : IR := jo.g3 jo.b4
def jo.g2 (X3 : IR) : IR := (.block 0 X3)
def jo.b2 : IR := jo.g2 jo.b3
def jo.b16 : IR := (.reg [iSm 6, iSm 11, .s (.zn 1 aS1 aS0), .s (.load aS0), iCa 233 [bW, aS0]])
def jo.g15 (X16 : IR) : IR := (.block 3 X16)
def jo.b15 : IR := jo.g15 jo.b16
def jo.b17 : IR := (.reg [iSm 11, .s (.bin .sub .int aS0 aC1), iQm 11 0])
def jo.g14 (X15 X17 : IR) : IR := (.seq X15 X17)
def jo.b14 : IR := jo.g14 jo.b15 jo.b17
def jo.g13 (X14 : IR) : IR := (.seq (iSr [iSm 11, iQo 17 (.bin .geq .int aS0 aC0)] (.cond aT17 .skip (.exit 2))) X14)
def jo.b13 : IR := jo.g13 jo.b14
def jo.g12 (X13 : IR) : IR := (.loop X13)
def jo.b12 : IR := jo.g12 jo.b13
def jo.g11 (X12 : IR) : IR := (.block 2 X12)
def jo.b11 : IR := jo.g11 jo.b12
def jo.b18 : IR := (iSr [iCa 234 [bW], iQm 2 0] .ret)
def jo.g10 (X11 X18 : IR) : IR := (.seq (iSr [iSm 6, .s (.len aS0), .s (.bin .sub .int aS0 aC1), iQm 11 0] X11) X18)
def jo.b10 : IR := jo.g10 jo.b11 jo.b18
def jo.g9 (X10 : IR) : IR := (iSr [iWl 10 (.alloc [.nilp, .zf])] (.seq (iSr [iQo 16 (.mv aT3)] (.cond aT16 (.reg [.w .push none (.call (.c (.fn 233 (.of 233) [])) [bW, (.c (.str [45]))])]) .skip)) X10))
def jo.b9 : IR := jo.g9 jo.b10
def jo.g1 (X2 X9 : IR) : IR := (iSr [.s (.zi 2 aT1), iCa 174 [aS0], .s (.mv aS0), .s (.ext 0 aS0), .s (.ext 1 aS1), iQm 3 1, iQm 4 0] (iSr [.w .push none (.zy 1 1 [(.int .u64 0)] [(0, 1, (.c (.int .u64 1000000000000000000)))]), iQm 5 0] (iSr [iQo 6 (.mv (.c .zf))] (.seq X2 X9))))
def jo.b1 : IR := jo.g1 jo.b2 jo.b9
def jo.g0 (X1 : IR) : IR := (iSr [iWl 1 (.box aT0), iQo 2 (.mv (.c (.str [])))] (.seq (iSr [.s (.zx 1 aT1), .s (.load aS0), iQo 12 (.bin .eql (.nil .sl) aS0 (.c .zf))] (.cond aT12 (iSr [.s (.zx 0 aT1), .s (.load aS0), iCa 230 [aS0], iQm 2 0] .ret) .skip)) X1))
def jo.b0 : IR := jo.g0 jo.b1
def jo.res : List RV := [.t (.of 2)]
def jo : Fn := { params := [(.of 0)], res := jo.res, body := jo.b0, init := in18 }
theorem jo.ok : fnA Tryz.prog Tryz.f185 [0, 1, 2, 3, 4, 5, 6, 7, 8, 9, 10, 11, 14, 26, 35, 42, 54, 60] = some jo := by kernel_rfl
abbrev gy.fr := fr8
def gy.b6 : IR := (iSr [iSm 5, iQm 3 0] (iSr [iSm 1, iSm 0, iSm 3, .s (.zn 1 aS1 aS0), .s (.load aS0), iWl 7 (.call aS4 [aS0])] (.cond aT7 (iSr [iSm 3, iQm 2 0] .ret) .skip)))
def gy.g5 (X6 : IR) : IR := (.block 1 X6)
def gy.b5 : IR := gy.g5 gy.b6
def gy.b7 : IR := (.reg [.s (.bin .add .int aT5 aC1), iQm 5 0])
def gy.g4 (X5 X7 : IR) : IR := (.seq X5 X7)
def gy.b4 : IR := gy.g4 gy.b5 gy.b7
def gy.g3 (X4 : IR) : IR := (iSr [iQo 6 (.bin .lss .int aT5 aT4)] (.seq (.cond aT6 .skip (.exit 0)) X4))
def gy.b3 : IR := gy.g3 gy.b4
def gy.g2 (X3 : IR) : IR := (.loop X3)
def gy.b2 : IR := gy.g2 gy.b3
def gy.g1 (X2 : IR) : IR := (.block 0 X2)
def gy.b1 : IR := gy.g1 gy.b2
def gy.b8 : IR := (iSr [iQo 2 (.mv (.c (I (-1))))] .ret)
def gy.g0 (X1 X8 : IR) : IR := (iSr [iQo 2 (.mv aC0)] (.seq (iSr [iSm 0, iQo 4 (.len aS0), iQo 5 (.mv aC0)] X1) X8))
def gy.b0 : IR := gy.g0 gy.b1 gy.b8
def gy.res : List RV := [.t (.of 2)]
def gy : Fn := { params := [(.of 0), (.of 1)], res := gy.res, body := gy.b0, init := in8 }
theorem gy.ok : fnA Tryz.prog Tryz.f197 [0, 1, 4, 5, 7, 8, 9, 16] = some gy := by kernel_rfl
abbrev jf.fr := fr10
def jf.b8 : IR := (.reg [iSm 2, iSm 3, .s (.zn 1 aS1 aS0), .w .none none (.store 1 aS0 (.c (.bool true)))])
def jf.g7 (X8 : IR) : IR := (iSr [.s (.zn 1 aT5 aT7), .s (.load aS0), iQm 3 0] (.seq (iSr [iSm 3, .s (.bin .lss .int aS0 aC0), .s (.mv aS0), iPf 0 (.mv aT3), iPf 1 (.mv aT0), iPf 2 (.len aS0), iPf 3 (.bin .geq .int aS2 aS0), .s (.pick aS4 (.c (.bool true)) aS0), .s (.mv aS0), iPf 0 (.mv aT2), iPf 1 (.mv aT3), iPf 2 (.zn 1 aS1 aS0), iPf 3 (.load aS0), iQo 9 (.pick aS4 (.c (.bool true)) aS0)] (.cond aT9 (iSr [iQo 1 (.mv aC14)] .ret) .skip)) X8))
def jf.b7 : IR := jf.g7 jf.b8
def jf.g6 (X7 : IR) : IR := (.block 1 X7)
def jf.b6 : IR := jf.g6 jf.b7
def jf.b9 : IR := (.reg [.s (.bin .add .int aT7 aC1), iQm 7 0])
def jf.g5 (X6 X9 : IR) : IR := (.seq X6 X9)
def jf.b5 : IR := jf.g5 jf.b6 jf.b9
def jf.g4 (X5 : IR) : IR := (iSr [iQo 8 (.bin .lss .int aT7 aT6)] (.seq (.cond aT8 .skip (.exit 0)) X5))
def jf.b4 : IR := jf.g4 jf.b5
def jf.g3 (X4 : IR) : IR := (.loop X4)
def jf.b3 : IR := jf.g3 jf.b4
def jf.g2 (X3 : IR) : IR := (.block 0 X3)
def jf.b2 : IR := jf.g2 jf.b3
def jf.b10 : IR := (iSr [iQo 1 (.mv aC0)] .ret)
def jf.g1 (X2 X10 : IR) : IR := (iSr [iSm 0, .s (.len aS0), .w .push none (.um 1 1 [(.bool false)] aS0 aS0), iQm 2 0] (.seq (iSr [iQo 5 (.mv aT0), iQo 6 (.len aT5), iQo 7 (.mv aC0)] X2) X10))
def jf.b1 : IR := jf.g1 jf.b2 jf.b10
def jf.g0 (X1 : IR) : IR := (iSr [iQo 1 (.mv aC0)] (.seq (iSr [iSm 0, .s (.len aS0), iQo 4 (.bin .gtr .int aS0 aC256)] (.cond aT4 (iSr [iQo 1 (.mv aC5)] .ret) .skip)) X1))
def jf.b0 : IR := jf.g0 jf.b1
def jf.res : List RV := [.t (.of 1)]
def jf : Fn := { params := [(.of 0)], res := jf.res, body := jf.b0, init := in10 }
theorem jf.ok : fnA Tryz.prog Tryz.f198 [0, 2, 3, 5, 8, 12, 13, 14, 15, 31] = some jf := by kernel_rfl
abbrev F200.fr := fr3
def F200.b0 : IR := (iSr [iSm 0, .s (.len aS0), iQm 2 0] (.reg [iSm 0, iSm 2, iSm 2, .s (.conv .u64 aS0), iCa 161 [aS0], iSm 1, iCa 243 [aS5, aC0, aS4, aS1, aS0]]))
def F200.res : List RV := []
def F200 : Fn := { params := [(.of 0), (.of 1)], res := F200.res, body := F200.b0, init := in3 }
theorem F200.ok : fnA Tryz.prog Tryz.f200 [0, 1, 4] = some F200 := by kernel_rfl
abbrev jm.fr := fr14
def jm.b7 : IR := (iSr [iSm 1, iSm 3, .s (.zn 1 aS1 aS0), .s (.load aS0), iQm 5 0] (iSr [iSm 4, iSm 5, iCa 244 [aS1, aS0], iQm 6 0] (iSr [iSm 6, iQo 12 (.bin .neq .int aS0 aC0)] (.cond aT12 (iSr [iSm 6, iQm 2 0] .ret) .skip))))
def jm.g6 (X7 : IR) : IR := (iSr [iSm 9, .s (.zn 1 aT7 aT9), .s (.load aS0), iQm 3 2, iQm 4 0] (.seq (iSr [iSm 3, iSm 1, .s (.len aS0), iQo 11 (.bin .geq .int aS2 aS0)] (.cond aT11 (iSr [iQo 2 (.mv aC1)] .ret) .skip)) X7))
def jm.b6 : IR := jm.g6 jm.b7
def jm.g5 (X6 : IR) : IR := (.block 1 X6)
def jm.b5 : IR := jm.g5 jm.b6
def jm.b8 : IR := (.reg [.s (.bin .add .int aT9 aC1), iQm 9 0])
def jm.g4 (X5 X8 : IR) : IR := (.seq X5 X8)
def jm.b4 : IR := jm.g4 jm.b5 jm.b8
def jm.g3 (X4 : IR) : IR := (iSr [iQo 10 (.bin .lss .int aT9 aT8)] (.seq (.cond bW .skip (.exit 0)) X4))
def jm.b3 : IR := jm.g3 jm.b4
def jm.g2 (X3 : IR) : IR := (.loop X3)
def jm.b2 : IR := jm.g2 jm.b3
def jm.g1 (X2 : IR) : IR := (.block 0 X2)
def jm.b1 : IR := jm.g1 jm.b2
def jm.b10 : IR := (iSr [iQo 2 (.mv aC0)] .ret)
def jm.g9 (X10 : IR) : IR := (.seq (iSr [iSm 0, .s (.len aS0), iSm 1, .s (.len aS0), iQo 13 (.bin .lss .int aS2 aS0)] (.cond fK (iSr [iQo 2 (.mv (.c (I (-1))))] .ret) .skip)) X10)
def jm.b9 : IR := jm.g9 jm.b10
def jm.g0 (X1 X9 : IR) : IR := (iSr [iQo 2 (.mv aC0)] (.seq (iSr [iQo 7 (.mv aT0), iQo 8 (.len aT7), iQo 9 (.mv aC0)] X1) X9))
def jm.b0 : IR := jm.g0 jm.b1 jm.b9
def jm.res : List RV := [.t (.of 2)]
def jm : Fn := { params := [(.of 0), (.of 1)], res := jm.res, body := jm.b0, init := in14 }
theorem jm.ok : fnA Tryz.prog Tryz.f201 [0, 1, 4, 5, 6, 7, 8, 9, 10, 11, 12, 19, 28, 35] = some jm := by kernel_rfl
abbrev zh.fr := fr11
def zh.b13 : IR := (.seq (.yt [] [(iSm 1, 0, []), (iSm 4, 0, []), (iSm 5, 0, []), (.s (.zn 1 aS1 aS0), 0, []), (.s (.load aS0), 0, []), (iSm 4, 0, []), (iSm 5, 0, []), (.s (.bin .sub .int aS0 aC1), 0, []), (.s (.zn 1 aS2 aS0), 0, []), (.s (.load aS0), 0, []), (.w .push none (.call aS9 [aS5, aS0]), 0, []), (iQo 10 (.not aS0), 0, [])]) (.cond bW (iSr [iSm 0, iSm 3, iSm 4, iSm 5, .s (.zn 1 aS1 aS0), .s (.load aS0), .s (.zn 1 aS5 aS4), .w .none none (.store 1 aS0 aS1)] (.reg [iSm 3, .s (.bin .add .int aS0 aC1), iQm 3 0])) .skip))
def zh.g12 (X13 : IR) : IR := (.block 3 X13)
def zh.b12 : IR := zh.g12 zh.b13
def zh.b14 : IR := (.reg [iSm 5, .s (.bin .add .int aS0 aC1), iQm 5 0])
def zh.g11 (X12 X14 : IR) : IR := (.seq X12 X14)
def zh.b11 : IR := zh.g11 zh.b12 zh.b14
def zh.g10 (X11 : IR) : IR := (.seq (iSr [iSm 5, iSm 4, .s (.len aS0), iQo 9 (.bin .lss .int aS2 aS0)] (.cond aT9 .skip (.exit 2))) X11)
def zh.b10 : IR := zh.g10 zh.b11
def zh.g9 (X10 : IR) : IR := (.loop X10)
def zh.b9 : IR := zh.g9 zh.b10
def zh.g8 (X9 : IR) : IR := (.block 2 X9)
def zh.b8 : IR := zh.g8 zh.b9
def zh.b15 : IR := (iSr [iSm 0, iSm 3, .s (.slice 1 aS1 (some aS0) none none), .w .none none (.clr 1 [.zf] aS0)] (iSr [iSm 0, iSm 3, .s (.slice 1 aS1 none (some aS0) none), iQm 2 0] .ret))
def zh.g7 (X8 X15 : IR) : IR := (.seq (.yt [] [(iSm 1, 0, []), (iSm 0, 0, []), (iSm 3, 0, []), (.s (.zn 1 aS1 aS0), 0, []), (.s (.load aS0), 0, []), (iSm 0, 0, []), (iSm 3, 0, []), (.s (.bin .sub .int aS0 aC1), 0, []), (.s (.zn 1 aS2 aS0), 0, []), (.s (.load aS0), 0, []), (iWl 8 (.call aS9 [aS5, aS0]), 0, [])]) (.cond aT8 (iSr [iSm 0, iSm 3, .s (.slice 1 aS1 (some aS0) none none), iQm 4 0] (.seq (iSr [iQo 5 (.mv aC1)] X8) X15)) .skip))
def zh.b7 : IR := zh.g7 zh.b8 zh.b15
def zh.g6 (X7 : IR) : IR := (.block 1 X7)
def zh.b6 : IR := zh.g6 zh.b7
def zh.b16 : IR := (.reg [iSm 3, .s (.bin .add .int aS0 aC1), iQm 3 0])
def zh.g5 (X6 X16 : IR) : IR := (.seq X6 X16)
def zh.b5 : IR := zh.g5 zh.b6 zh.b16
def zh.g4 (X5 : IR) : IR := (.seq (iSr [iSm 3, iSm 0, .s (.len aS0), iQo 7 (.bin .lss .int aS2 aS0)] (.cond aT7 .skip (.exit 0))) X5)
def zh.b4 : IR := zh.g4 zh.b5
def zh.g3 (X4 : IR) : IR := (.loop X4)
def zh.b3 : IR := zh.g3 zh.b4
def zh.g2 (X3 : IR) : IR := (.block 0 X3)
def zh.b2 : IR := zh.g2 zh.b3
def zh.b17 : IR := (iSr [iSm 0, iQm 2 0] .ret)
def zh.g1 (X2 X17 : IR) : IR := (.seq (iSr [iQo 3 (.mv aC1)] X2) X17)
def zh.b1 : IR := zh.g1 zh.b2 zh.b17
def zh.g0 (X1 : IR) : IR := (iSr [iQo 2 (.mv (.c .zf))] (.seq (iSr [iSm 0, .s (.len aS0), iQo 6 (.bin .lss .int aS0 aC2)] (.cond aT6 (iSr [iSm 0, iQm 2 0] .ret) .skip)) X1))
def zh.b0 : IR := zh.g0 zh.b1
def zh.res : List RV := [.t (.of 2)]
def zh : Fn := { params := [(.of 0), (.of 1)], res := zh.res, body := zh.b0, init := in11 }
theorem zh.ok : fnA Tryz.prog Tryz.f202 [0, 1, 4, 5, 6, 7, 10, 15, 28, 35, 49] = some zh := by kernel_rfl
abbrev ku.fr := fr7
def ku.b12 : IR := (.yt [] [(iSm 0, 0, []), (iSm 4, 0, []), (iSm 0, 1, []), (iSm 4, 1, []), (.s (.bin .sub .int aS0 aC1), 1, []), (iSm 0, 0, []), (iSm 4, 0, []), (.s (.bin .sub .int aS0 aC1), 0, []), (.s (.zn 1 aS2 aS0), 0, []), (.s (.load aS0), 0, []), (iSm 0, 0, []), (iSm 4, 0, []), (.s (.zn 1 aS1 aS0), 0, []), (.s (.load aS0), 0, []), (.s (.zn 1 aS13 aS12), 0, []), (.w .none none (.store 1 aS0 aS5), 0, []), (.s (.zn 1 aS12 aS10), 0, []), (.w .none none (.store 1 aS0 aS2), 0, [])])
def ku.g11 (X12 : IR) : IR := (.block 3 X12)
def ku.b11 : IR := ku.g11 ku.b12
def ku.b13 : IR := (.reg [iSm 4, .s (.bin .sub .int aS0 aC1), iQm 4 0])
def ku.g10 (X11 X13 : IR) : IR := (.seq X11 X13)
def ku.b10 : IR := ku.g10 ku.b11 ku.b13
def ku.g9 (X10 : IR) : IR := (.seq (.seq (.yt [] [(iSm 4, 0, []), (iSm 1, 0, []), (.s (.bin .gtr .int aS1 aS0), 0, []), (.s (.mv aS0), 0, []), (iPt 0 (.mv aT0), 0, []), (iPt 1 (.mv aT4), 0, []), (iPt 2 (.zn 1 aS1 aS0), 0, []), (iPt 3 (.load aS0), 0, []), (iPt 4 (.mv aT0), 0, []), (iPt 5 (.mv aT4), 0, []), (iPt 6 (.bin .sub .int aS0 aC1), 0, []), (iPt 7 (.zn 1 aS2 aS0), 0, []), (iPt 8 (.load aS0), 0, []), (.w .push (some (aS9, true)) (.call (.c (.fn 209 (.of 209) [])) [aS5, aS0]), 0, []), (iQo 6 (.pick aS10 aS0 (.c (.bool false))), 0, [])]) (.cond aT6 .skip (.exit 2))) X10)
def ku.b9 : IR := ku.g9 ku.b10
def ku.g8 (X9 : IR) : IR := (.loop X9)
def ku.b8 : IR := ku.g8 ku.b9
def ku.g7 (X8 : IR) : IR := (.block 2 X8)
def ku.b7 : IR := ku.g7 ku.b8
def ku.g6 (X7 : IR) : IR := (iSr [iSm 3, iQm 4 0] X7)
def ku.b6 : IR := ku.g6 ku.b7
def ku.g5 (X6 : IR) : IR := (.block 1 X6)
def ku.b5 : IR := ku.g5 ku.b6
def ku.b14 : IR := (.reg [iSm 3, .s (.bin .add .int aS0 aC1), iQm 3 0])
def ku.g4 (X5 X14 : IR) : IR := (.seq X5 X14)
def ku.b4 : IR := ku.g4 ku.b5 ku.b14
def ku.g3 (X4 : IR) : IR := (.seq (iSr [iSm 3, iSm 2, iQo 5 (.bin .lss .int aS1 aS0)] (.cond aT5 .skip (.exit 0))) X4)
def ku.b3 : IR := ku.g3 ku.b4
def ku.g2 (X3 : IR) : IR := (.loop X3)
def ku.b2 : IR := ku.g2 ku.b3
def ku.g1 (X2 : IR) : IR := (.block 0 X2)
def ku.b1 : IR := ku.g1 ku.b2
def ku.g0 (X1 : IR) : IR := (iSr [iSm 1, .s (.bin .add .int aS0 aC1), iQm 3 0] X1)
def ku.b0 : IR := ku.g0 ku.b1
def ku.res : List RV := []
def ku : Fn := { params := [(.of 0), (.of 1), (.of 2)], res := ku.res, body := ku.b0, init := in7 }
theorem ku.ok : fnA Tryz.prog Tryz.f203 [0, 1, 2, 6, 7, 12, 30] = some ku := by kernel_rfl
abbrev F209.fr := fr3
def F209.b0 : IR := (iSr [iQo 2 (.mv (.c (.bool false)))] (iSr [iSm 0, iCa 250 [aS0], .s (.mv aS0), iPt 0 (.mv aT1), .w .push (some (aS1, true)) (.call (.c (.fn 250 (.of 250) [])) [aS0]), iPt 2 (.not aS0), .s (.pick aS3 aS0 (.c (.bool false))), .s (.mv aS0), iPf 0 (.mv aT0), iPf 1 (.mv aT1), iPf 2 (.bin .lss .int aS1 aS0), .s (.pick aS3 (.c (.bool true)) aS0), iQm 2 0] .ret))
def F209.res : List RV := [.t (.of 2)]
def F209 : Fn := { params := [(.of 0), (.of 1)], res := F209.res, body := F209.b0, init := in3 }
theorem F209.ok : fnA Tryz.prog Tryz.f209 [0, 1, 4] = some F209 := by kernel_rfl
abbrev F213.fr := fr5
def F213.b3 : IR := (iSr [iSm 1, iSm 0, .s (.conv .u8 aS0), .s (.sidx (.c (.str [0, 1, 2, 2, 3, 3, 3, 3, 4, 4, 4, 4, 4, 4, 4, 4, 5, 5, 5, 5, 5, 5, 5, 5, 5, 5, 5, 5, 5, 5, 5, 5, 6, 6, 6, 6, 6, 6, 6, 6, 6, 6, 6, 6, 6, 6, 6, 6, 6, 6, 6, 6, 6, 6, 6, 6, 6, 6, 6, 6, 6, 6, 6, 6, 7, 7, 7, 7, 7, 7, 7, 7, 7, 7, 7, 7, 7, 7, 7, 7, 7, 7, 7, 7, 7, 7, 7, 7, 7, 7, 7, 7, 7, 7, 7, 7, 7, 7, 7, 7, 7, 7, 7, 7, 7, 7, 7, 7, 7, 7, 7, 7, 7, 7, 7, 7, 7, 7, 7, 7, 7, 7, 7, 7, 7, 7, 7, 7, 8, 8, 8, 8, 8, 8, 8, 8, 8, 8, 8, 8, 8, 8, 8, 8, 8, 8, 8, 8, 8, 8, 8, 8, 8, 8, 8, 8, 8, 8, 8, 8, 8, 8, 8, 8, 8, 8, 8, 8, 8, 8, 8, 8, 8, 8, 8, 8, 8, 8, 8, 8, 8, 8, 8, 8, 8, 8, 8, 8, 8, 8, 8, 8, 8, 8, 8, 8, 8, 8, 8, 8, 8, 8, 8, 8, 8, 8, 8, 8, 8, 8, 8, 8, 8, 8, 8, 8, 8, 8, 8, 8, 8, 8, 8, 8, 8, 8, 8, 8, 8, 8, 8, 8, 8, 8, 8, 8, 8, 8, 8, 8, 8, 8, 8, 8, 8, 8, 8, 8, 8, 8, 8, 8, 8, 8, 8, 8])) aS0), .s (.conv .i64 aS0), .s (.bin .add .int aS4 aS0), iQm 1 0] .ret)
def F213.g2 (X3 : IR) : IR := (.seq (iSr [iSm 0, iQo 4 (.bin .geq .int aS0 (.c (.int .u64 256)))] (.cond aT4 (iSr [iSm 0, .s (.bin .shr .int aS0 (.c (.int .u64 8))), iQm 0 0] (.reg [iSm 1, .s (.bin .add .int aS0 aC8), iQm 1 0])) .skip)) X3)
def F213.b2 : IR := F213.g2 F213.b3
def F213.g1 (X2 : IR) : IR := (.seq (iSr [iSm 0, iQo 3 (.bin .geq .int aS0 (.c (.int .u64 65536)))] (.cond aT3 (iSr [iSm 0, .s (.bin .shr .int aS0 (.c (.int .u64 16))), iQm 0 0] (.reg [iSm 1, .s (.bin .add .int aS0 aC16), iQm 1 0])) .skip)) X2)
def F213.b1 : IR := F213.g1 F213.b2
def F213.g0 (X1 : IR) : IR := (iSr [iQo 1 (.mv aC0)] (.seq (iSr [iSm 0, iQo 2 (.bin .geq .int aS0 (.c (.int .u64 4294967296)))] (.cond aT2 (iSr [iSm 0, .s (.bin .shr .int aS0 (.c (.int .u64 32))), iQm 0 0] (.reg [iQo 1 (.mv aC32)])) .skip)) X1))
def F213.b0 : IR := F213.g0 F213.b1
def F213.res : List RV := [.t (.of 1)]
def F213 : Fn := { params := [(.of 0)], res := F213.res, body := F213.b0, init := in5 }
theorem F213.ok : fnA Tryz.prog Tryz.f213 [0, 2, 4, 8, 14] = some F213 := by kernel_rfl
abbrev F215.fr := fr4
def F215.b0 : IR := (iSr [iQo 3 (.mv (.c (.bool false)))] (iSr [iSm 0, .s (.load aT1), .s (.bin .lss .int aS1 aS0), .s (.mv aS0), iPf 0 (.mv aT0), iPf 1 (.load aT2), iPf 2 (.bin .gtr .int aS1 aS0), .s (.pick aS3 (.c (.bool true)) aS0), iQm 3 0] .ret))
def F215.res : List RV := [.t (.of 3)]
def F215 : Fn := { params := [(.of 0), (.of 1), (.of 2)], res := F215.res, body := F215.b0, init := in4 }
theorem F215.ok : fnA Tryz.prog Tryz.f215 [0, 1, 2, 4] = some F215 := by kernel_rfl
abbrev F216.fr := fr3
def F216.b0 : IR := (iSr [iQo 2 (.mv (.c (.bool false)))] (iSr [iSm 0, iSm 1, iCa 259 [aS1, aS0], .s (.bin .geq .int aS0 aC0), iQm 2 0] .ret))
def F216.res : List RV := [.t (.of 2)]
def F216 : Fn := { params := [(.of 0), (.of 1)], res := F216.res, body := F216.b0, init := in3 }
theorem F216.ok : fnA Tryz.prog Tryz.f216 [0, 1, 4] = some F216 := by kernel_rfl
abbrev F217.fr := fr3
def F217.b0 : IR := (iSr [iQo 2 (.mv (.c (.bool false)))] (iSr [iSm 0, .s (.load aT1), iCa 158 [aS1, aS0], iQm 2 0] .ret))
def F217.res : List RV := [.t (.of 2)]
def F217 : Fn := { params := [(.of 0), (.of 1)], res := F217.res, body := F217.b0, init := in3 }
theorem F217.ok : fnA Tryz.prog Tryz.f217 [0, 1, 3] = some F217 := by kernel_rfl
abbrev F220.fr := fr3
def F220.b1 : IR := (iSr [iSm 0, .s (.conv .u64 aS0), iQm 1 0] .ret)
def F220.g0 (X1 : IR) : IR := (iSr [iQo 1 (.mv (.c (.int .u64 0)))] (.seq (iSr [iSm 0, iQo 2 (.bin .lss .int aS0 aC0)] (.cond aT2 (iSr [iSm 0, .s (.neg aS0), .s (.conv .u64 aS0), iQm 1 0] .ret) .skip)) X1))
def F220.b0 : IR := F220.g0 F220.b1
def F220.res : List RV := [.t (.of 1)]
def F220 : Fn := { params := [(.of 0)], res := F220.res, body := F220.b0, init := in3 }
theorem F220.ok : fnA Tryz.prog Tryz.f220 [0, 2, 4] = some F220 := by kernel_rfl
abbrev F224.fr := fr12
def F224.b0 : IR := (iSr [iQo 2 (.mv (.c (.int .u64 0))), iQo 3 (.mv (.c (.int .u64 0)))] (iSr [iSm 0, .s (.bin .and .int aS0 (.c (.int .u64 4294967295))), iQm 4 0] (iSr [iSm 0, .s (.bin .shr .int aS0 (.c (.int .u64 32))), iQm 5 0] (iSr [iSm 1, .s (.bin .and .int aS0 (.c (.int .u64 4294967295))), iQm 6 0] (iSr [iSm 1, .s (.bin .shr .int aS0 (.c (.int .u64 32))), iQm 7 0] (iSr [iSm 4, iSm 6, .s (.bin .mul .int aS1 aS0), iQm 8 0] (iSr [iSm 5, iSm 6, .s (.bin .mul .int aS1 aS0), iSm 8, .s (.bin .shr .int aS0 (.c (.int .u64 32))), .s (.bin .add .int aS2 aS0), iQm 9 0] (iSr [iSm 9, .s (.bin .and .int aS0 (.c (.int .u64 4294967295))), iQm 10 0] (iSr [iSm 9, .s (.bin .shr .int aS0 (.c (.int .u64 32))), iQm 11 0] (iSr [iSm 10, iSm 4, iSm 7, .s (.bin .mul .int aS1 aS0), .s (.bin .add .int aS3 aS0), iQm 10 0] (iSr [iSm 5, iSm 7, .s (.bin .mul .int aS1 aS0), iSm 11, .s (.bin .add .int aS1 aS0), iSm 10, .s (.bin .shr .int aS0 (.c (.int .u64 32))), .s (.bin .add .int aS2 aS0), iQm 2 0] (iSr [iSm 0, iSm 1, .s (.bin .mul .int aS1 aS0), iQm 3 0] .ret))))))))))))
def F224.res : List RV := [.t (.of 2), .t (.of 3)]
def F224 : Fn := { params := [(.of 0), (.of 1)], res := F224.res, body := F224.b0, init := in12 }
theorem F224.ok : fnA Tryz.prog Tryz.f224 [0, 1, 4, 5, 6, 7, 8, 9, 10, 11, 12, 13] = some F224 := by kernel_rfl
abbrev F228.fr := fr5
def F228.b1 : IR := (iSr [iSm 3, .s (.len aS0), .s (.bin .sub .int aS0 aC1), .s (.bin .mul .int aC64 aS0), iSm 3, iSm 3, .s (.len aS0), .s (.bin .sub .int aS0 aC1), .s (.zn 1 aS3 aS0), .s (.load aS0), iCa 213 [aS0], .s (.bin .add .int aS7 aS0), iQm 2 0] .ret)
def F228.g0 (X1 : IR) : IR := (iSr [iWl 1 (.box aT0), iQo 2 (.mv aC0)] (iSr [.s (.zi 2 aT1), iCa 174 [aS0], .s (.mv aS0), .s (.ext 0 aS0), .s (.ext 1 aS1), .s (.mv aS1), iQm 3 1] (.seq (iSr [iSm 3, .s (.len aS0), iQo 4 (.bin .eql .int aS0 aC0)] (.cond aT4 (iSr [iQo 2 (.mv aC0)] .ret) .skip)) X1)))
def F228.b0 : IR := F228.g0 F228.b1
def F228.res : List RV := [.t (.of 2)]
def F228 : Fn := { params := [(.of 0)], res := F228.res, body := F228.b0, init := in5 }
theorem F228.ok : fnA Tryz.prog Tryz.f228 [0, 1, 2, 4, 12] = some F228 := by kernel_rfl
abbrev F230.fr := fr2
def F230.b0 : IR := (iSr [iQo 1 (.mv (.c (.str [])))] (iSr [iSm 0, iCa 265 [aS0], iQm 1 0] .ret))
def F230.res : List RV := [.t (.of 1)]
def F230 : Fn := { params := [(.of 0)], res := F230.res, body := F230.b0, init := in2 }
theorem F230.ok : fnA Tryz.prog Tryz.f230 [0, 2] = some F230 := by kernel_rfl
abbrev qy.fr := fr24
def qy.b10 : IR := (iSr [iSm 0, iSm 1, iSm 2, iSm 8, iSm 4, iCa 280 [aS4, aS3, aS2, aS1, aS0], .s (.mv aS0), .s (.ext 0 aS0), .s (.ext 1 aS1), iQm 11 1, iQm 12 0] (iSr [iSm 12, iQm 6 0] (iSr [iSm 11, iSm 1, .s (.bin .sub .int aS1 aS0), iSm 2, iSm 11, .s (.bin .sub .int aS1 aS0), iQm 13 3, iQm 14 0] (iSr [iSm 7, .s (.bin .quo .int aS0 aC8), iQm 15 0] (iSr [iSm 13, iSm 14, iQo 23 (.bin .lss .int aS1 aS0)] (.cond aT23 (iSr [iSm 13, iSm 15, .s (.bin .geq .int aS1 aS0), iQm 5 0] (iSr [iSm 0, iSm 1, iSm 11, iSm 3, iSm 4, iCa 243 [aS4, aS3, aS2, aS1, aS0]] (.reg [iSm 11, .s (.bin .add .int aS0 aC1), iQm 1 0]))) (iSr [iSm 14, iSm 15, .s (.bin .geq .int aS1 aS0), iQm 5 0] (iSr [iSm 0, iSm 11, .s (.bin .add .int aS0 aC1), iSm 2, iSm 3, iSm 4, iCa 243 [aS5, aS3, aS2, aS1, aS0]] (.reg [iSm 11, iQm 2 0])))))))))
def qy.g9 (X10 : IR) : IR := (.seq (.seq (.yt [] [(iSm 1, 0, []), (.s (.bin .gtr .int aS0 aC0), 0, []), (.s (.mv aS0), 0, []), (iPt 0 (.mv aT4), 0, []), (iPt 1 (.mv aT0), 0, []), (iPt 2 (.mv aT1), 0, []), (iPt 3 (.bin .sub .int aS0 aC1), 0, []), (iPt 4 (.zn 1 aS2 aS0), 0, []), (iPt 5 (.load aS0), 0, []), (iPt 6 (.mv aT0), 0, []), (iPt 7 (.mv aT8), 0, []), (iPt 8 (.zn 1 aS1 aS0), 0, []), (iPt 9 (.load aS0), 0, []), (.w .push (some (aS10, true)) (.call aS9 [aS4, aS0]), 0, []), (iPt 11 (.bin .lss .int aS0 aC0), 0, []), (iPt 12 (.not aS0), 0, []), (iQo 22 (.pick aS13 aS0 (.c (.bool false))), 0, [])]) (.cond aT22 (iSr [iSm 0, iSm 1, iSm 2, iSm 8, iSm 4, iCa 279 [aS4, aS3, aS2, aS1, aS0], iQm 10 0] (iSr [iSm 10, iQm 1 0] (.exit 1))) .skip)) X10)
def qy.b9 : IR := qy.g9 qy.b10
def qy.g8 (X9 : IR) : IR := (.seq (iSr [iSm 5, .s (.mv aS0), iPt 0 (.mv aT6), .s (.pick aS1 aS0 (.c (.bool false))), .s (.mv aS0), iPt 0 (.mv aT9), iPt 1 (.bin .eql .int aS0 aC1), iQo 20 (.pick aS2 aS0 (.c (.bool false)))] (.cond aT20 (iSr [iSm 0, iSm 1, iSm 2, iSm 4, iWl 21 (.call (.c (.fn 278 (.of 278) [])) [aS3, aS2, aS1, aS0])] (.cond aT21 .ret .skip)) .skip)) X9)
def qy.b8 : IR := qy.g8 qy.b9
def qy.g7 (X8 : IR) : IR := (iSr [iSm 0, iSm 1, iSm 2, iSm 4, iCa 276 [aS3, aS2, aS1, aS0], .s (.mv aS0), .s (.ext 0 aS0), .s (.ext 1 aS1), iQm 8 1, iQm 9 0] (.seq (iSr [iSm 9, iQo 19 (.bin .eql .int aS0 aC2)] (.cond aT19 (iSr [iSm 0, iSm 1, iSm 2, iSm 4, iCa 277 [aS3, aS2, aS1, aS0]] (iSr [iSm 2, .s (.bin .sub .int aS0 aC1), iSm 8, iSm 1, .s (.bin .sub .int aS1 aS0), .s (.bin .sub .int aS3 aS0), iQm 8 0] (.reg [iQo 9 (.mv aC1)]))) .skip)) X8))
def qy.b7 : IR := qy.g7 qy.b8
def qy.g6 (X7 : IR) : IR := (.seq (iSr [iSm 5, iQo 18 (.not aS0)] (.cond aT18 (iSr [iSm 0, iSm 1, iSm 2, iSm 4, iCa 275 [aS3, aS2, aS1, aS0]] (.reg [iSm 3, .s (.bin .sub .int aS0 aC1), iQm 3 0])) .skip)) X7)
def qy.b6 : IR := qy.g6 qy.b7
def qy.g5 (X6 : IR) : IR := (.seq (iSr [iSm 3, iQo 17 (.bin .eql .int aS0 aC0)] (.cond aT17 (iSr [iSm 0, iSm 1, iSm 2, iSm 4, iCa 274 [aS3, aS2, aS1, aS0]] .ret) .skip)) X6)
def qy.b5 : IR := qy.g5 qy.b6
def qy.g4 (X5 : IR) : IR := (iSr [iSm 2, iSm 1, .s (.bin .sub .int aS1 aS0), iQm 7 0] (.seq (iSr [iSm 7, iQo 16 (.bin .leq .int aS0 aC12)] (.cond aT16 (iSr [iSm 0, iSm 1, iSm 2, iSm 4, iCa 273 [aS3, aS2, aS1, aS0]] .ret) .skip)) X5))
def qy.b4 : IR := qy.g4 qy.b5
def qy.g3 (X4 : IR) : IR := (.block 1 X4)
def qy.b3 : IR := qy.g3 qy.b4
def qy.g2 (X3 : IR) : IR := (.loop X3)
def qy.b2 : IR := qy.g2 qy.b3
def qy.g1 (X2 : IR) : IR := (.block 0 X2)
def qy.b1 : IR := qy.g1 qy.b2
def qy.g0 (X1 : IR) : IR := (iSr [iQo 5 (.mv (.c (.bool true)))] (iSr [iQo 6 (.mv (.c (.bool true)))] X1))
def qy.b0 : IR := qy.g0 qy.b1
def qy.res : List RV := []
def qy : Fn := { params := [(.of 0), (.of 1), (.of 2), (.of 3), (.of 4)], res := qy.res, body := qy.b0, init := in24 }
theorem qy.ok : fnA Tryz.prog Tryz.f243 [0, 1, 2, 3, 4, 10, 11, 12, 13, 14, 15, 16, 17, 18, 19, 20, 25, 32, 39, 56, 75, 80, 97, 125] = some qy := by kernel_rfl
abbrev bZ.fr := fr10
def bZ.b1 : IR := (iSr [iQo 2 (.mv (.c (I (-1))))] .ret)
def bZ.b5 : IR := (iSr [iQo 2 (.mv aC0)] .ret)
def bZ.g4 (X5 : IR) : IR := (.seq (iSr [iSm 0, iSm 1, iQo 9 (.bin .gtr .int aS1 aS0)] (.cond aT9 (iSr [iQo 2 (.mv aC1)] .ret) .skip)) X5)
def bZ.b4 : IR := bZ.g4 bZ.b5
def bZ.g3 (X4 : IR) : IR := (.seq (iSr [iSm 0, iSm 1, iQo 8 (.bin .lss .int aS1 aS0)] (.cond aT8 (iSr [iQo 2 (.mv (.c (I (-1))))] .ret) .skip)) X4)
def bZ.b3 : IR := bZ.g3 bZ.b4
def bZ.g2 (X3 : IR) : IR := (.seq (iSr [iQo 7 (.mv aT4)] (.cond aT7 (iSr [iQo 2 (.mv aC1)] .ret) .skip)) X3)
def bZ.b2 : IR := bZ.g2 bZ.b3
def bZ.g0 (X1 X2 : IR) : IR := (iSr [iQo 2 (.mv aC0)] (iSr [iSm 0, iCa 250 [aS0], iQm 3 0] (iSr [iSm 1, iCa 250 [aS0], iQm 4 0] (.seq (iSr [iQo 5 (.mv aT3)] (.cond aT5 (.seq (iSr [iQo 6 (.mv aT4)] (.cond aT6 (iSr [iQo 2 (.mv aC0)] .ret) .skip)) X1) .skip)) X2))))
def bZ.b0 : IR := bZ.g0 bZ.b1 bZ.b2
def bZ.res : List RV := [.t (.of 2)]
def bZ : Fn := { params := [(.of 0), (.of 1)], res := bZ.res, body := bZ.b0, init := in10 }
theorem bZ.ok : fnA Tryz.prog Tryz.f244 [0, 1, 4, 5, 6, 11, 12, 13, 16, 19] = some bZ := by kernel_rfl
abbrev F250.fr := fr2
def F250.b0 : IR := (iSr [iQo 1 (.mv (.c (.bool false)))] (iSr [iSm 0, iSm 0, .s (.bin .neq .int aS1 aS0), iQm 1 0] .ret))
def F250.res : List RV := [.t (.of 1)]
def F250 : Fn := { params := [(.of 0)], res := F250.res, body := F250.b0, init := in2 }
theorem F250.ok : fnA Tryz.prog Tryz.f250 [0, 2] = some F250 := by kernel_rfl
abbrev bM.fr := fr8
def bM.b6 : IR := (iSr [iSm 5, iQm 3 0] (iSr [iSm 1, iSm 0, iSm 3, .s (.zn 1 aS1 aS0), .s (.load aS0), iWl 7 (.call aS4 [aS0])] (.cond aT7 (iSr [iSm 3, iQm 2 0] .ret) .skip)))
def bM.g5 (X6 : IR) : IR := (.block 1 X6)
def bM.b5 : IR := bM.g5 bM.b6
def bM.b7 : IR := (.reg [.s (.bin .add .int aT5 aC1), iQm 5 0])
def bM.g4 (X5 X7 : IR) : IR := (.seq X5 X7)
def bM.b4 : IR := bM.g4 bM.b5 bM.b7
def bM.g3 (X4 : IR) : IR := (iSr [iQo 6 (.bin .lss .int aT5 aT4)] (.seq (.cond aT6 .skip (.exit 0)) X4))
def bM.b3 : IR := bM.g3 bM.b4
def bM.g2 (X3 : IR) : IR := (.loop X3)
def bM.b2 : IR := bM.g2 bM.b3
def bM.g1 (X2 : IR) : IR := (.block 0 X2)
def bM.b1 : IR := bM.g1 bM.b2
def bM.b8 : IR := (iSr [iQo 2 (.mv (.c (I (-1))))] .ret)
def bM.g0 (X1 X8 : IR) : IR := (iSr [iQo 2 (.mv aC0)] (.seq (iSr [iSm 0, iQo 4 (.len aS0), iQo 5 (.mv aC0)] X1) X8))
def bM.b0 : IR := bM.g0 bM.b1 bM.b8
def bM.res : List RV := [.t (.of 2)]
def bM : Fn := { params := [(.of 0), (.of 1)], res := bM.res, body := bM.b0, init := in8 }
theorem bM.ok : fnA Tryz.prog Tryz.f259 [0, 1, 4, 5, 7, 8, 9, 16] = some bM := by kernel_rfl
abbrev F265.fr := fr2
def F265.b0 : IR := (iSr [iQo 1 (.mv (.c (.str [])))] (iSr [iSm 0, iCa 286 [aS0, aC10], iQm 1 0] .ret))
def F265.res : List RV := [.t (.of 1)]
def F265 : Fn := { params := [(.of 0)], res := F265.res, body := F265.b0, init := in2 }
theorem F265.ok : fnA Tryz.prog Tryz.f265 [0, 2] = some F265 := by kernel_rfl
abbrev qc.fr := fr8
def qc.b12 : IR := (.yt [] [(iSm 0, 0, []), (iSm 5, 0, []), (iSm 0, 1, []), (iSm 5, 1, []), (.s (.bin .sub .int aS0 aC1), 1, []), (iSm 0, 0, []), (iSm 5, 0, []), (.s (.bin .sub .int aS0 aC1), 0, []), (.s (.zn 1 aS2 aS0), 0, []), (.s (.load aS0), 0, []), (iSm 0, 0, []), (iSm 5, 0, []), (.s (.zn 1 aS1 aS0), 0, []), (.s (.load aS0), 0, []), (.s (.zn 1 aS13 aS12), 0, []), (.w .none none (.store 1 aS0 aS5), 0, []), (.s (.zn 1 aS12 aS10), 0, []), (.w .none none (.store 1 aS0 aS2), 0, [])])
def qc.g11 (X12 : IR) : IR := (.block 3 X12)
def qc.b11 : IR := qc.g11 qc.b12
def qc.b13 : IR := (.reg [iSm 5, .s (.bin .sub .int aS0 aC1), iQm 5 0])
def qc.g10 (X11 X13 : IR) : IR := (.seq X11 X13)
def qc.b10 : IR := qc.g10 qc.b11 qc.b13
def qc.g9 (X10 : IR) : IR := (.seq (.seq (.yt [] [(iSm 5, 0, []), (iSm 1, 0, []), (.s (.bin .gtr .int aS1 aS0), 0, []), (.s (.mv aS0), 0, []), (iPt 0 (.mv aT3), 0, []), (iPt 1 (.mv aT0), 0, []), (iPt 2 (.mv aT5), 0, []), (iPt 3 (.zn 1 aS1 aS0), 0, []), (iPt 4 (.load aS0), 0, []), (iPt 5 (.mv aT0), 0, []), (iPt 6 (.mv aT5), 0, []), (iPt 7 (.bin .sub .int aS0 aC1), 0, []), (iPt 8 (.zn 1 aS2 aS0), 0, []), (iPt 9 (.load aS0), 0, []), (.w .push (some (aS10, true)) (.call aS9 [aS5, aS0]), 0, []), (iPt 11 (.bin .lss .int aS0 aC0), 0, []), (iQo 7 (.pick aS12 aS0 (.c (.bool false))), 0, [])]) (.cond aT7 .skip (.exit 2))) X10)
def qc.b9 : IR := qc.g9 qc.b10
def qc.g8 (X9 : IR) : IR := (.loop X9)
def qc.b8 : IR := qc.g8 qc.b9
def qc.g7 (X8 : IR) : IR := (.block 2 X8)
def qc.b7 : IR := qc.g7 qc.b8
def qc.g6 (X7 : IR) : IR := (iSr [iSm 4, iQm 5 0] X7)
def qc.b6 : IR := qc.g6 qc.b7
def qc.g5 (X6 : IR) : IR := (.block 1 X6)
def qc.b5 : IR := qc.g5 qc.b6
def qc.b14 : IR := (.reg [iSm 4, .s (.bin .add .int aS0 aC1), iQm 4 0])
def qc.g4 (X5 X14 : IR) : IR := (.seq X5 X14)
def qc.b4 : IR := qc.g4 qc.b5 qc.b14
def qc.g3 (X4 : IR) : IR := (.seq (iSr [iSm 4, iSm 2, iQo 6 (.bin .lss .int aS1 aS0)] (.cond aT6 .skip (.exit 0))) X4)
def qc.b3 : IR := qc.g3 qc.b4
def qc.g2 (X3 : IR) : IR := (.loop X3)
def qc.b2 : IR := qc.g2 qc.b3
def qc.g1 (X2 : IR) : IR := (.block 0 X2)
def qc.b1 : IR := qc.g1 qc.b2
def qc.g0 (X1 : IR) : IR := (iSr [iSm 1, .s (.bin .add .int aS0 aC1), iQm 4 0] X1)
def qc.b0 : IR := qc.g0 qc.b1
def qc.res : List RV := []
def qc : Fn := { params := [(.of 0), (.of 1), (.of 2), (.of 3)], res := qc.res, body := qc.b0, init := in8 }
theorem qc.ok : fnA Tryz.prog Tryz.f273 [0, 1, 2, 3, 8, 9, 14, 34] = some qc := by kernel_rfl
abbrev F286.fr := fr11
def F286.b3 : IR := (iSr [iSm 5, .s (.bin .add .int aC1 aS0), .s (.aslice 1 24 aT3 (some aC1) (some aS0) none), .s (.b2s aS0), iQm 2 0] .ret)
def F286.g2 (X3 : IR) : IR := (iSr [iSm 4, iCa 288 [aS0], iQm 5 0] (iSr [iSm 5, .s (.bin .add .int aC1 aS0), .s (.aslice 1 24 aT3 (some aC1) (some aS0) none), iSm 4, iCa 289 [aS1, aS0]] (.seq (iSr [iSm 0, iQo 10 (.bin .lss .int aS0 aC0)] (.cond bW (iSr [.s (.aaddr 1 24 aT3 aC0), .w .none none (.store 1 aS0 (.c (.int .u8 45)))] (iSr [iSm 5, .s (.bin .add .int aC1 aS0), .s (.aslice 1 24 aT3 none (some aS0) none), .s (.b2s aS0), iQm 2 0] .ret)) .skip)) X3)))
def F286.b2 : IR := F286.g2 F286.b3
def F286.g1 (X2 : IR) : IR := (iSr [iWl 3 (.alloc [(.int .u8 0), (.int .u8 0), (.int .u8 0), (.int .u8 0), (.int .u8 0), (.int .u8 0), (.int .u8 0), (.int .u8 0), (.int .u8 0), (.int .u8 0), (.int .u8 0), (.int .u8 0), (.int .u8 0), (.int .u8 0), (.int .u8 0), (.int .u8 0), (.int .u8 0), (.int .u8 0), (.int .u8 0), (.int .u8 0), (.int .u8 0), (.int .u8 0), (.int .u8 0), (.int .u8 0)])] (iSr [iSm 0, .s (.conv .u64 aS0), iQm 4 0] (.seq (iSr [iSm 0, iQo 9 (.bin .lss .int aS0 aC0)] (.cond aT9 (.reg [iSm 4, .s (.neg aS0), iQm 4 0]) .skip)) X2)))
def F286.b1 : IR := F286.g1 F286.b2
def F286.b4 : IR := (iSr [iSm 0, .s (.conv .u64 aS0), iSm 1, iSm 0, .s (.bin .lss .int aS0 aC0), iCa 290 [(.c .zf), aS3, aS2, aS0, (.c (.bool false))], .s (.mv aS0), .s (.ext 0 aS0), .s (.ext 1 aS1), .s (.mv aS1), iQm 6 1] (iSr [iSm 6, iQm 2 0] .ret))
def F286.g0 (X1 X4 : IR) : IR := (iSr [iQo 2 (.mv (.c (.str [])))] (.seq (iSr [iSm 1, iQo 7 (.bin .eql .int aS0 aC10)] (.cond aT7 (.seq (iSr [iSm 0, .s (.bin .leq .int aC0 aS0), .s (.mv aS0), iPt 0 (.mv aT0), iPt 1 (.bin .lss .int aS0 aC100), iQo 8 (.pick aS2 aS0 (.c (.bool false)))] (.cond aT8 (iSr [iSm 0, iCa 287 [aS0], iQm 2 0] .ret) .skip)) X1) .skip)) X4))
def F286.b0 : IR := F286.g0 F286.b1 F286.b4
def F286.res : List RV := [.t (.of 2)]
def F286 : Fn := { params := [(.of 0), (.of 1)], res := F286.res, body := F286.b0, init := in11 }
theorem F286.ok : fnA Tryz.prog Tryz.f286 [0, 1, 4, 5, 6, 7, 9, 11, 17, 23, 34] = some F286 := by kernel_rfl
end
end Go.Ev
