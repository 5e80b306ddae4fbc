import Derived.Test.YtkjkjpmahgeneaaGreatDoorIrA
import Derived.Test.YtkjkjpmahgeneaaGreatDoorEvC
import Derived.Test.YtkjkjpmahgeneaaGreatDoorProg
import Derived.KernelRfl
set_option linter.unusedSimpArgs false
set_option linter.unusedVariables false
namespace Go.Ev
open Go Go.Proofs
set_option maxRecDepth 100000
noncomputable section

abbrev wu.fr := fr9
def wu.b7 : IR := (iSr [iSm 6, iQm 3 0] (.seq (.yg [] [(iSm 0, 0, []), (iSm 3, 0, []), (.s (.zk 1 aS1 aS0), 0, []), (.s (.load aS0), 0, []), (iSm 1, 0, []), (iSm 3, 0, []), (.s (.zk 1 aS1 aS0), 0, []), (.s (.load aS0), 0, []), (iQo 8 (.bin .neq .int aS4 aS0), 0, [])]) (.cond aT8 (iSr [iQo 2 (.mv (.c (.bool false)))] .ret) .skip)))
def wu.g6 (X7 : IR) : IR := (.block 1 X7)
def wu.b6 : IR := wu.g6 wu.b7
def wu.b8 : IR := (.reg [.s (.bin .add .int aT6 aC1), iQm 6 0])
def wu.g5 (X6 X8 : IR) : IR := (.seq X6 X8)
def wu.b5 : IR := wu.g5 wu.b6 wu.b8
def wu.g4 (X5 : IR) : IR := (iSr [iQo 7 (.bin .lss .int aT6 aT5)] (.seq (.cond aT7 .skip (.exit 0)) X5))
def wu.b4 : IR := wu.g4 wu.b5
def wu.g3 (X4 : IR) : IR := (.loop X4)
def wu.b3 : IR := wu.g3 wu.b4
def wu.g2 (X3 : IR) : IR := (.block 0 X3)
def wu.b2 : IR := wu.g2 wu.b3
def wu.b9 : IR := (iSr [iQo 2 (.mv (.c (.bool true)))] .ret)
def wu.g1 (X2 X9 : IR) : IR := (.seq (iSr [iSm 0, iQo 5 (.len aS0), iQo 6 (.mv aC0)] X2) X9)
def wu.b1 : IR := wu.g1 wu.b2 wu.b9
def wu.g0 (X1 : IR) : IR := (iSr [iQo 2 (.mv (.c (.bool false)))] (.seq (iSr [iSm 0, .s (.len aS0), iSm 1, .s (.len aS0), iQo 4 (.bin .neq .int aS2 aS0)] (.cond aT4 (iSr [iQo 2 (.mv (.c (.bool false)))] .ret) .skip)) X1))
def wu.b0 : IR := wu.g0 wu.b1
def wu.res : List RV := [.t (.of 2)]
def wu : Fn := { params := [(.of 0), (.of 1)], res := wu.res, body := wu.b0, init := in9 }
theorem wu.ok : fnA Tryz.prog Tryz.f158 [0, 1, 4, 5, 10, 12, 13, 14, 24] = some wu := by kernel_rfl
abbrev uq.fr := fr9
def uq.b6 : IR := (iSr [iSm 6, .s (.zk 2 aT4 aT6), .s (.zi 2 aS0), iWl 3 (.alloc [.zf, (.bool false)]), iQm 2 2, .w .none none (.store 2 aT3 aS0)] (iSr [iSm 0, iSm 2, .s (.zi 2 aT3), .w .push none (.call aS2 [aS1, aS0]), iQo 8 (.not aS0)] (.cond aT8 .ret .skip)))
def uq.g5 (X6 : IR) : IR := (.block 1 X6)
def uq.b5 : IR := uq.g5 uq.b6
def uq.b7 : IR := (.reg [.s (.bin .add .int aT6 aC1), iQm 6 0])
def uq.g4 (X5 X7 : IR) : IR := (.seq X5 X7)
def uq.b4 : IR := uq.g4 uq.b5 uq.b7
def uq.g3 (X4 : IR) : IR := (iSr [iQo 7 (.bin .lss .int aT6 aT5)] (.seq (.cond aT7 .skip (.exit 0)) X4))
def uq.b3 : IR := uq.g3 uq.b4
def uq.g2 (X3 : IR) : IR := (.loop X3)
def uq.b2 : IR := uq.g2 uq.b3
def uq.g1 (X2 : IR) : IR := (.block 0 X2)
def uq.b1 : IR := uq.g1 uq.b2
def uq.g0 (X1 : IR) : IR := (iSr [iQo 4 (.load aT1), iQo 5 (.len aT4), iQo 6 (.mv aC0)] X1)
def uq.b0 : IR := uq.g0 uq.b1
def uq.res : List RV := []
def uq : Fn := { params := [(.of 0), (.of 1)], res := uq.res, body := uq.b0, init := in9 }
theorem uq.ok : fnA Tryz.prog Tryz.f159 [0, 1, 3, 4, 5, 6, 7, 8, 16] = some uq := by kernel_rfl
abbrev qf.fr := fr23
def qf.b10 : IR := (iSr [iSm 0, iSm 1, iSm 2, iSm 7, iCa 211 [aS3, aS2, aS1, aS0], .s (.mv aS0), .s (.ext 0 aS0), .s (.ext 1 aS1), iQm 10 1, iQm 11 0] (iSr [iSm 11, iQm 5 0] (iSr [iSm 10, iSm 1, .s (.bin .sub .int aS1 aS0), iSm 2, iSm 10, .s (.bin .sub .int aS1 aS0), iQm 12 3, iQm 13 0] (iSr [iSm 6, .s (.bin .quo .int aS0 aC8), iQm 14 0] (iSr [iSm 12, iSm 13, iQo 22 (.bin .lss .int aS1 aS0)] (.cond aT22 (iSr [iSm 12, iSm 14, .s (.bin .geq .int aS1 aS0), iQm 4 0] (iSr [iSm 0, iSm 1, iSm 10, iSm 3, iCa 160 [aS3, aS2, aS1, aS0]] (.reg [iSm 10, .s (.bin .add .int aS0 aC1), iQm 1 0]))) (iSr [iSm 13, iSm 14, .s (.bin .geq .int aS1 aS0), iQm 4 0] (iSr [iSm 0, iSm 10, .s (.bin .add .int aS0 aC1), iSm 2, iSm 3, iCa 160 [aS4, aS2, aS1, aS0]] (.reg [iSm 10, iQm 2 0])))))))))
def qf.g9 (X10 : IR) : IR := (.seq (.seq (.yg [] [(iSm 1, 0, []), (.s (.bin .gtr .int aS0 aC0), 0, []), (.s (.mv aS0), 0, []), (iPt 0 (.mv aT0), 0, []), (iPt 1 (.mv aT1), 0, []), (iPt 2 (.bin .sub .int aS0 aC1), 0, []), (iPt 3 (.zk 1 aS2 aS0), 0, []), (iPt 4 (.load aS0), 0, []), (iPt 5 (.mv aT0), 0, []), (iPt 6 (.mv aT7), 0, []), (iPt 7 (.zk 1 aS1 aS0), 0, []), (iPt 8 (.load aS0), 0, []), (.w .push (some (aS9, true)) (.call (.c (.fn 209 (.of 209) [])) [aS4, aS0]), 0, []), (iPt 10 (.not aS0), 0, []), (iQo 21 (.pick aS11 aS0 (.c (.bool false))), 0, [])]) (.cond aT21 (iSr [iSm 0, iSm 1, iSm 2, iSm 7, iCa 210 [aS3, aS2, aS1, aS0], iQm 9 0] (iSr [iSm 9, iQm 1 0] (.exit 1))) .skip)) X10)
def qf.b9 : IR := qf.g9 qf.b10
def qf.g8 (X9 : IR) : IR := (.seq (iSr [iSm 4, .s (.mv aS0), iPt 0 (.mv aT5), .s (.pick aS1 aS0 (.c (.bool false))), .s (.mv aS0), iPt 0 (.mv aT8), iPt 1 (.bin .eql .int aS0 aC1), iQo 19 (.pick aS2 aS0 (.c (.bool false)))] (.cond aT19 (iSr [iSm 0, iSm 1, iSm 2, iWl 20 (.call (.c (.fn 208 (.of 208) [])) [aS2, aS1, aS0])] (.cond aT20 .ret .skip)) .skip)) X9)
def qf.b8 : IR := qf.g8 qf.b9
def qf.g7 (X8 : IR) : IR := (iSr [iSm 0, iSm 1, iSm 2, iCa 206 [aS2, aS1, aS0], .s (.mv aS0), .s (.ext 0 aS0), .s (.ext 1 aS1), iQm 7 1, iQm 8 0] (.seq (iSr [iSm 8, iQo 18 (.bin .eql .int aS0 aC2)] (.cond aT18 (iSr [iSm 0, iSm 1, iSm 2, iCa 207 [aS2, aS1, aS0]] (iSr [iSm 2, .s (.bin .sub .int aS0 aC1), iSm 7, iSm 1, .s (.bin .sub .int aS1 aS0), .s (.bin .sub .int aS3 aS0), iQm 7 0] (.reg [iQo 8 (.mv aC1)]))) .skip)) X8))
def qf.b7 : IR := qf.g7 qf.b8
def qf.g6 (X7 : IR) : IR := (.seq (iSr [iSm 4, iQo 17 (.not aS0)] (.cond aT17 (iSr [iSm 0, iSm 1, iSm 2, iCa 205 [aS2, aS1, aS0]] (.reg [iSm 3, .s (.bin .sub .int aS0 aC1), iQm 3 0])) .skip)) X7)
def qf.b6 : IR := qf.g6 qf.b7
def qf.g5 (X6 : IR) : IR := (.seq (iSr [iSm 3, iQo 16 (.bin .eql .int aS0 aC0)] (.cond aT16 (iSr [iSm 0, iSm 1, iSm 2, iCa 204 [aS2, aS1, aS0]] .ret) .skip)) X6)
def qf.b5 : IR := qf.g5 qf.b6
def qf.g4 (X5 : IR) : IR := (iSr [iSm 2, iSm 1, .s (.bin .sub .int aS1 aS0), iQm 6 0] (.seq (iSr [iSm 6, iQo 15 (.bin .leq .int aS0 aC12)] (.cond aT15 (iSr [iSm 0, iSm 1, iSm 2, iCa 203 [aS2, aS1, aS0]] .ret) .skip)) X5))
def qf.b4 : IR := qf.g4 qf.b5
def qf.g3 (X4 : IR) : IR := (.block 1 X4)
def qf.b3 : IR := qf.g3 qf.b4
def qf.g2 (X3 : IR) : IR := (.loop X3)
def qf.b2 : IR := qf.g2 qf.b3
def qf.g1 (X2 : IR) : IR := (.block 0 X2)
def qf.b1 : IR := qf.g1 qf.b2
def qf.g0 (X1 : IR) : IR := (iSr [iQo 4 (.mv (.c (.bool true)))] (iSr [iQo 5 (.mv (.c (.bool true)))] X1))
def qf.b0 : IR := qf.g0 qf.b1
def qf.res : List RV := []
def qf : Fn := { params := [(.of 0), (.of 1), (.of 2), (.of 3)], res := qf.res, body := qf.b0, init := in23 }
theorem qf.ok : fnA Tryz.prog Tryz.f160 [0, 1, 2, 3, 8, 9, 10, 11, 12, 13, 14, 15, 16, 17, 18, 23, 29, 35, 50, 68, 72, 87, 113] = some qf := by kernel_rfl
abbrev F161.fr := fr2
def F161.b1 : IR := (iSr [iSm 0, iCa 213 [aS0], iQm 1 0] .ret)
def F161.g0 (X1 : IR) : IR := (iSr [iQo 1 (.mv aC0)] (.seq (.cond (.c (.bool false)) (iSr [iSm 0, .s (.conv .u32 aS0), iCa 212 [aS0], iQm 1 0] .ret) .skip) X1))
def F161.b0 : IR := F161.g0 F161.b1
def F161.res : List RV := [.t (.of 1)]
def F161 : Fn := { params := [(.of 0)], res := F161.res, body := F161.b0, init := in2 }
theorem F161.ok : fnA Tryz.prog Tryz.f161 [0, 2] = some F161 := by kernel_rfl
abbrev bg.fr := fr8
def bg.b2 : IR := (iSr [iQo 4 (.mv (.c (I (-1))))] .ret)
def bg.g1 (X2 : IR) : IR := (.seq (iSr [.s (.zn 1 aT2), iQo 7 (.load aS0)] (.cond aT7 (iSr [iQo 4 (.mv aC1)] .ret) .skip)) X2)
def bg.b1 : IR := bg.g1 bg.b2
def bg.g0 (X1 : IR) : IR := (iSr [iWl 2 (.box aT0), iWl 3 (.box aT1), iQo 4 (.mv aC0)] (.seq (iSr [.s (.zn 0 aT2), .s (.load aS0), .s (.zn 0 aT3), .s (.load aS0), iCa 201 [aS2, aS0], iQm 5 0] (iSr [iSm 5, .s (.bin .neq .int aS0 aC0), .s (.mv aS0), iPf 0 (.zn 1 aT2), iPf 1 (.load aS0), iPf 2 (.zn 1 aT3), iPf 3 (.load aS0), iPf 4 (.bin .eql .bool aS2 aS0), iQo 6 (.pick aS5 (.c (.bool true)) aS0)] (.cond aT6 (iSr [iSm 5, iQm 4 0] .ret) .skip))) X1))
def bg.b0 : IR := bg.g0 bg.b1
def bg.res : List RV := [.t (.of 4)]
def bg : Fn := { params := [(.of 0), (.of 1)], res := bg.res, body := bg.b0, init := in8 }
theorem bg.ok : fnA Tryz.prog Tryz.f162 [0, 1, 2, 3, 4, 5, 19, 22] = some bg := by kernel_rfl
abbrev jv.fr := fr7
def jv.b6 : IR := (iSr [iSm 5, iQm 3 0] (.reg [.s (.zn 0 aT2), .s (.load aS0), iSm 3, iSm 3, .s (.zk 1 aS2 aS1), .w .none none (.store 1 aS0 aS1)]))
def jv.g5 (X6 : IR) : IR := (.block 1 X6)
def jv.b5 : IR := jv.g5 jv.b6
def jv.b7 : IR := (.reg [.s (.bin .add .int aT5 aC1), iQm 5 0])
def jv.g4 (X5 X7 : IR) : IR := (.seq X5 X7)
def jv.b4 : IR := jv.g4 jv.b5 jv.b7
def jv.g3 (X4 : IR) : IR := (iSr [iQo 6 (.bin .lss .int aT5 aT4)] (.seq (.cond aT6 .skip (.exit 0)) X4))
def jv.b3 : IR := jv.g3 jv.b4
def jv.g2 (X3 : IR) : IR := (.loop X3)
def jv.b2 : IR := jv.g2 jv.b3
def jv.g1 (X2 : IR) : IR := (.block 0 X2)
def jv.b1 : IR := jv.g1 jv.b2
def jv.b8 : IR := (iSr [.s (.zi 2 aT2), .w .none none (.store 2 aT1 aS0)] .ret)
def jv.g0 (X1 X8 : IR) : IR := (iSr [iWl 1 (.alloc [.zf, (.bool false)])] (iSr [iSm 0, .w .push none (.jf 1 8 [(I 0)] aS0 aS0), .s (.build [.zf, (.bool false)] [(0, 1, aS0)]), iWl 2 (.alloc [.zf, (.bool false)]), .w .none none (.store 2 aT2 aS0)] (.seq (iSr [.s (.zn 0 aT2), .s (.load aS0), iQo 4 (.len aS0), iQo 5 (.mv aC0)] X1) X8)))
def jv.b0 : IR := jv.g0 jv.b1 jv.b8
def jv.res : List RV := [.cell (.of 1) (some 2)]
def jv : Fn := { params := [(.of 0)], res := jv.res, body := jv.b0, init := in7 }
theorem jv.ok : fnA Tryz.prog Tryz.f163 [0, 2, 3, 4, 10, 11, 12] = some jv := by kernel_rfl
abbrev vw.fr := fr8
def vw.b6 : IR := (iSr [.s (.zk 1 aT3 aT5), .s (.load aS0), iQm 2 0] (iSr [iSm 2, iQo 7 (.bin .neq .int aS0 aC0)] (.cond aT7 (iSr [iSm 2, iQm 1 0] .ret) .skip)))
def vw.g5 (X6 : IR) : IR := (.block 1 X6)
def vw.b5 : IR := vw.g5 vw.b6
def vw.b7 : IR := (.reg [.s (.bin .add .int aT5 aC1), iQm 5 0])
def vw.g4 (X5 X7 : IR) : IR := (.seq X5 X7)
def vw.b4 : IR := vw.g4 vw.b5 vw.b7
def vw.g3 (X4 : IR) : IR := (iSr [iQo 6 (.bin .lss .int aT5 aT4)] (.seq (.cond aT6 .skip (.exit 0)) X4))
def vw.b3 : IR := vw.g3 vw.b4
def vw.g2 (X3 : IR) : IR := (.loop X3)
def vw.b2 : IR := vw.g2 vw.b3
def vw.g1 (X2 : IR) : IR := (.block 0 X2)
def vw.b1 : IR := vw.g1 vw.b2
def vw.b8 : IR := (iSr [iQo 1 (.mv aC0)] .ret)
def vw.g0 (X1 X8 : IR) : IR := (iSr [iQo 1 (.mv aC0)] (.seq (iSr [iQo 3 (.mv aT0), iQo 4 (.len aT3), iQo 5 (.mv aC0)] X1) X8))
def vw.b0 : IR := vw.g0 vw.b1 vw.b8
def vw.res : List RV := [.t (.of 1)]
def vw : Fn := { params := [(.of 0)], res := vw.res, body := vw.b0, init := in8 }
theorem vw.ok : fnA Tryz.prog Tryz.f165 [0, 2, 4, 5, 6, 7, 8, 12] = some vw := by kernel_rfl
abbrev F166.fr := fr6
def F166.b0 : IR := (iSr [iWl 3 (.box aT0), iWl 4 (.box aT1), iQo 5 (.mv aC0)] (iSr [iSm 2, .s (.fn 215 (.of 215) [aT3, aT4]), iCa 136 [aS1, aS0], iCa 167 [aS0, aC3], iQm 5 0] .ret))
def F166.res : List RV := [.t (.of 5)]
def F166 : Fn := { params := [(.of 0), (.of 1), (.of 2)], res := F166.res, body := F166.b0, init := in6 }
theorem F166.ok : fnA Tryz.prog Tryz.f166 [0, 1, 2, 3, 4, 6] = some F166 := by kernel_rfl
abbrev F167.fr := fr4
def F167.b1 : IR := (iSr [iQo 2 (.mv aC0)] .ret)
def F167.g0 (X1 : IR) : IR := (iSr [iQo 2 (.mv aC0)] (.seq (iSr [iQo 3 (.mv aT0)] (.cond aT3 (iSr [iSm 1, iQm 2 0] .ret) .skip)) X1))
def F167.b0 : IR := F167.g0 F167.b1
def F167.res : List RV := [.t (.of 2)]
def F167 : Fn := { params := [(.of 0), (.of 1)], res := F167.res, body := F167.b0, init := in4 }
theorem F167.ok : fnA Tryz.prog Tryz.f167 [0, 1, 4, 5] = some F167 := by kernel_rfl
abbrev wz.fr := fr14
def wz.b7 : IR := (iSr [iSm 11, .s (.zk 1 aT9 aT11), .s (.load aS0), iQm 5 2, iQm 6 0] (iSr [iSm 6, .s (.bin .lss .int aS0 aC0), .s (.mv aS0), iPf 0 (.mv aT6), iPf 1 (.zn 0 aT2), iPf 2 (.load aS0), iPf 3 (.bin .geq .int aS2 aS0), .s (.pick aS4 (.c (.bool true)) aS0), iCa 167 [aS0, aC10], iSm 5, .s (.bin .gtr .int aS0 aC0), .s (.mv aS0), iPt 0 (.load aT4), iPt 1 (.mv aT5), iPt 2 (.bin .sub .int aS0 aC1), iPt 3 (.zk 1 aS2 aS0), iPt 4 (.load aS0), iPt 5 (.mv aT6), iPt 6 (.bin .geq .int aS1 aS0), .s (.pick aS7 aS0 (.c (.bool false))), iCa 167 [aS0, aC11], .w .push none (.zy 1 2 [(I 0)] [(0, 1, aS12), (1, 1, aS0)]), iCa 165 [aS0], iQm 7 0] (iSr [iSm 7, iQo 13 (.bin .neq .int aS0 aC0)] (.cond bK (iSr [iSm 7, iQm 3 0] .ret) .skip))))
def wz.g6 (X7 : IR) : IR := (.block 1 X7)
def wz.b6 : IR := wz.g6 wz.b7
def wz.b8 : IR := (.reg [.s (.bin .add .int aT11 aC1), iQm 11 0])
def wz.g5 (X6 X8 : IR) : IR := (.seq X6 X8)
def wz.b5 : IR := wz.g5 wz.b6 wz.b8
def wz.g4 (X5 : IR) : IR := (iSr [iQo 12 (.bin .lss .int aT11 mr)] (.seq (.cond aT12 .skip (.exit 0)) X5))
def wz.b4 : IR := wz.g4 wz.b5
def wz.g3 (X4 : IR) : IR := (.loop X4)
def wz.b3 : IR := wz.g3 wz.b4
def wz.g2 (X3 : IR) : IR := (.block 0 X3)
def wz.b2 : IR := wz.g2 wz.b3
def wz.b9 : IR := (iSr [.s (.zn 1 aT2), .s (.load aS0), iSm 1, .s (.slice 1 aS1 none (some aS0) none), .s (.fn 217 (.of 217) [aT4]), iCa 216 [aS1, aS0], iCa 167 [aS0, aC9], iQm 3 0] .ret)
def wz.g1 (X2 X9 : IR) : IR := (.seq (iSr [iQo 9 (.load aT4), iQo 10 (.len aT9), iQo 11 (.mv aC0)] X2) X9)
def wz.b1 : IR := wz.g1 wz.b2 wz.b9
def wz.g0 (X1 : IR) : IR := (iSr [iWl 2 (.box aT0), iQo 3 (.mv aC0)] (iSr [.s (.zn 1 aT2), .s (.load aS0), iSm 1, .s (.zk 1 aS1 aS0), .s (.load aS0), iWl 4 (.alloc [.zf]), .w .none none (.store 1 aT4 aS0)] (.seq (iSr [.s (.load aT4), .s (.len aS0), iQo 8 (.bin .eql .int aS0 aC0)] (.cond aT8 (iSr [iQo 3 (.mv aC12)] .ret) .skip)) X1)))
def wz.b0 : IR := wz.g0 wz.b1
def wz.res : List RV := [.t (.of 3)]
def wz : Fn := { params := [(.of 0), (.of 1)], res := wz.res, body := wz.b0, init := in14 }
theorem wz.ok : fnA Tryz.prog Tryz.f168 [0, 1, 2, 4, 5, 6, 7, 8, 16, 17, 18, 19, 20, 48] = some wz := by kernel_rfl
abbrev dh.fr := fr10
def dh.b6 : IR := (iSr [.s (.zk 1 aT6 aT8), .s (.load aS0), iQm 5 0] (.reg [iSm 4, iSm 0, iSm 5, .s (.zk 1 aS1 aS0), .s (.load aS0), .w .push none (.zy 1 1 [(I 0)] [(0, 1, aS0)]), .w .push none (.app 1 8 aS5 aS0), iQm 4 0]))
def dh.g5 (X6 : IR) : IR := (.block 1 X6)
def dh.b5 : IR := dh.g5 dh.b6
def dh.b7 : IR := (.reg [.s (.bin .add .int aT8 aC1), iQm 8 0])
def dh.g4 (X5 X7 : IR) : IR := (.seq X5 X7)
def dh.b4 : IR := dh.g4 dh.b5 dh.b7
def dh.g3 (X4 : IR) : IR := (iSr [iQo 9 (.bin .lss .int aT8 aT7)] (.seq (.cond aT9 .skip (.exit 0)) X4))
def dh.b3 : IR := dh.g3 dh.b4
def dh.g2 (X3 : IR) : IR := (.loop X3)
def dh.b2 : IR := dh.g2 dh.b3
def dh.g1 (X2 : IR) : IR := (.block 0 X2)
def dh.b1 : IR := dh.g1 dh.b2
def dh.b8 : IR := (iSr [iSm 4, iCa 91 [aS0]] (.seq (.yg [] [(.s (.load aT2), 1, []), (iSm 4, 0, []), (.s (.build [.zf, (.bool false)] [(0, 1, aS0)]), 0, []), (iCa 123 [aS0], 0, []), (.s (.look .str (.bool false) false aS3 aS0), 0, []), (iQm 3 0, 0, [])]) .ret))
def dh.g0 (X1 X8 : IR) : IR := (iSr [iQo 3 (.mv (.c (.bool false)))] (iSr [iQo 4 (.mv (.c .zf))] (.seq (iSr [iQo 6 (.mv aT1), iQo 7 (.len aT6), iQo 8 (.mv aC0)] X1) X8)))
def dh.b0 : IR := dh.g0 dh.b1 dh.b8
def dh.res : List RV := [.t (.of 3)]
def dh : Fn := { params := [(.of 0), (.of 1), (.of 2)], res := dh.res, body := dh.b0, init := in10 }
theorem dh.ok : fnA Tryz.prog Tryz.f169 [0, 1, 2, 5, 6, 8, 9, 10, 11, 12] = some dh := by kernel_rfl
abbrev F174.fr := fr6
def F174.b2 : IR := (iSr [.s (.zn 1 aT1), .s (.load aS0), .s (.bin .neq (.nil .sl) aS0 (.c .zf)), iQm 4 0] (.cond aT4 (.seq (.yg [] [(.s (.zn 0 aT1), 0, []), (.s (.load aS0), 0, []), (.s (.bin .lss .int aS0 aC0), 0, []), (.s (.zn 1 aT1), 0, []), (.s (.load aS0), 0, []), (iQm 2 2, 0, []), (iQm 3 0, 0, [])]) .ret) (iSr [.s (.zn 0 aT1), .s (.load aS0), .s (.bin .eql .int aS0 aC0), iQm 5 0] (.cond aT5 (iSr [iQo 2 (.mv (.c (.bool false))), iQo 3 (.mv (.c .zf))] .ret) .skip))))
def F174.g1 (X2 : IR) : IR := (.block 0 X2)
def F174.b1 : IR := F174.g1 F174.b2
def F174.b3 : IR := (.seq (.yg [] [(.s (.zn 0 aT1), 2, []), (.s (.load aS0), 2, []), (.s (.bin .lss .int aS0 aC0), 2, []), (.s (.zn 0 aT1), 0, []), (.s (.load aS0), 0, []), (iCa 220 [aS0], 0, []), (iQm 2 3, 1, []), (.w .push none (.zy 1 1 [(.int .u64 0)] [(0, 1, aS0)]), 0, []), (iQm 3 0, 0, [])]) .ret)
def F174.g0 (X1 X3 : IR) : IR := (iSr [iWl 1 (.box aT0), iQo 2 (.mv (.c (.bool false))), iQo 3 (.mv (.c .zf))] (.seq X1 X3))
def F174.b0 : IR := F174.g0 F174.b1 F174.b3
def F174.res : List RV := [.t (.of 2), .t (.of 3)]
def F174 : Fn := { params := [(.of 0)], res := F174.res, body := F174.b0, init := in6 }
theorem F174.ok : fnA Tryz.prog Tryz.f174 [0, 1, 2, 3, 4, 13] = some F174 := by kernel_rfl
abbrev F179.fr := fr14
def F179.b1 : IR := (iSr [iSm 6, .s (.conv .i64 aS0), .s (.build [(I 0), .zf] [(0, 1, aS0)]), .w .none none (.store 2 aT4 aS0)] .ret)
def F179.b2 : IR := (iSr [.s (.zi 2 aT2), iCa 174 [aS0], .s (.mv aS0), .s (.ext 0 aS0), .s (.ext 1 aS1), iQm 7 1, iQm 8 0] (iSr [.s (.zi 2 aT3), iCa 174 [aS0], .s (.mv aS0), .s (.ext 0 aS0), .s (.ext 1 aS1), iQm 9 1, iQm 10 0] (iSr [iSm 7, iSm 9, .s (.bin .neq .bool aS1 aS0), iSm 8, iSm 10, iCa 225 [aS1, aS0], iCa 175 [aS3, aS0], .w .none none (.store 2 aT4 aS0)] .ret)))
def F179.g0 (X1 X2 : IR) : IR := (iSr [iWl 2 (.box aT0), iWl 3 (.box aT1), iWl 4 (.alloc [(I 0), .zf])] (.seq (iSr [.s (.zn 1 aT2), .s (.load aS0), .s (.bin .eql (.nil .sl) aS0 (.c .zf)), .s (.mv aS0), iPt 0 (.zn 1 aT3), iPt 1 (.load aS0), iPt 2 (.bin .eql (.nil .sl) aS0 (.c .zf)), iQo 11 (.pick aS3 aS0 (.c (.bool false)))] (.cond aT11 (.seq (.yg [] [(.s (.zn 0 aT2), 0, []), (.s (.load aS0), 0, []), (.s (.zn 0 aT3), 1, []), (.s (.load aS0), 1, []), (iCa 220 [aS2], 0, []), (iCa 220 [aS1], 0, []), (iCa 224 [aS1, aS0], 0, []), (.s (.mv aS0), 0, []), (.s (.ext 0 aS0), 0, []), (.s (.ext 1 aS1), 0, []), (iQm 5 1, 0, []), (iQm 6 0, 0, [])]) (iSr [iSm 5, .s (.bin .eql .int aS0 (.c (.int .u64 0))), .s (.mv aS0), iPt 0 (.mv aT6), iPt 1 (.bin .leq .int aS0 (.c (.int .u64 9223372036854775807))), iQo 12 (.pick aS2 aS0 (.c (.bool false)))] (.cond aT12 (.seq (iSr [.s (.zn 0 aT2), .s (.load aS0), .s (.bin .lss .int aS0 aC0), .s (.zn 0 aT3), .s (.load aS0), .s (.bin .lss .int aS0 aC0), iQo 13 (.bin .neq .bool aS3 aS0)] (.cond bK (iSr [iSm 6, .s (.conv .i64 aS0), .s (.neg aS0), .s (.build [(I 0), .zf] [(0, 1, aS0)]), .w .none none (.store 2 aT4 aS0)] .ret) .skip)) X1) .skip))) .skip)) X2))
def F179.b0 : IR := F179.g0 F179.b1 F179.b2
def F179.res : List RV := [.cell (.of 4) (some 2)]
def F179 : Fn := { params := [(.of 0), (.of 1)], res := F179.res, body := F179.b0, init := in14 }
theorem F179.ok : fnA Tryz.prog Tryz.f179 [0, 1, 2, 3, 4, 5, 6, 7, 8, 9, 10, 18, 34, 41] = some F179 := by kernel_rfl
abbrev F180.fr := fr3
def F180.b0 : IR := (iSr [iWl 1 (.box aT0), iQo 2 (.mv aC0)] (iSr [.s (.zn 0 aT1), .s (.load aS0), .s (.minmax false aC1 [aS0]), .s (.minmax true (.c (I (-1))) [aS0]), iQm 2 0] .ret))
def F180.res : List RV := [.t (.of 2)]
def F180 : Fn := { params := [(.of 0)], res := F180.res, body := F180.b0, init := in3 }
theorem F180.ok : fnA Tryz.prog Tryz.f180 [0, 1, 2] = some F180 := by kernel_rfl
abbrev F182.fr := fr18
def F182.b1 : IR := (iSr [iSm 6, .s (.build [(I 0), .zf] [(0, 1, aS0)]), iSm 7, .s (.build [(I 0), .zf] [(0, 1, aS0)]), .w .none none (.store 2 aT4 aS2), .w .none none (.store 2 aT5 aS0)] .ret)
def F182.b3 : IR := (.seq (.yg [] [(.s (.zi 2 bK), 0, []), (.s (.zi 2 aT14), 1, []), (.w .none none (.store 2 aT4 aS1), 0, []), (.w .none none (.store 2 aT5 aS0), 0, [])]) .ret)
def F182.g2 (X3 : IR) : IR := (iSr [.s (.zi 2 aT2), iCa 174 [aS0], .s (.mv aS0), .s (.ext 0 aS0), .s (.ext 1 aS1), iQm 8 1, iQm 9 0] (iSr [.s (.zi 2 aT3), iCa 174 [aS0], .s (.mv aS0), .s (.ext 0 aS0), .s (.ext 1 aS1), .s (.mv aS1), iQm 10 1] (iSr [iSm 9, iSm 10, iCa 226 [aS1, aS0], .s (.mv aS0), .s (.ext 0 aS0), .s (.ext 1 aS1), iQm 11 1, iQm 12 0] (iSr [iSm 8, iSm 11, iCa 175 [aS1, aS0], iSm 8, iSm 12, iCa 175 [aS1, aS0], iWl 13 (.alloc [(I 0), .zf]), iWl 14 (.alloc [(I 0), .zf]), .w .none none (.store 2 bK aS3), .w .none none (.store 2 aT14 aS0)] (.seq (iSr [.s (.zi 2 aT14), iCa 180 [aS0], iQo 17 (.bin .lss .int aS0 aC0)] (.cond aT17 (.yg [] [(.s (.zi 2 bK), 1, []), (.s (.zi 2 aT14), 2, []), (.s (.zi 2 aT3), 2, []), (iCa 110 [aC1], 0, []), (iCa 227 [aS3, aS0], 0, []), (iCa 111 [aS3, aS2], 0, []), (.w .none none (.store 2 bK aS1), 0, []), (.w .none none (.store 2 aT14 aS0), 0, [])]) .skip)) X3)))))
def F182.b2 : IR := F182.g2 F182.b3
def F182.g0 (X1 X2 : IR) : IR := (iSr [iWl 2 (.box aT0), iWl 3 (.box aT1), iWl 4 (.alloc [(I 0), .zf]), iWl 5 (.alloc [(I 0), .zf])] (.seq (iSr [.s (.zn 1 aT2), .s (.load aS0), .s (.bin .eql (.nil .sl) aS0 (.c .zf)), .s (.mv aS0), iPt 0 (.zn 1 aT3), iPt 1 (.load aS0), iPt 2 (.bin .eql (.nil .sl) aS0 (.c .zf)), .s (.pick aS3 aS0 (.c (.bool false))), .s (.mv aS0), iPt 0 (.zn 0 aT2), iPt 1 (.load aS0), iPt 2 (.bin .neq .int aS0 (.c (I (-9223372036854775808)))), iQo 15 (.pick aS3 aS0 (.c (.bool false)))] (.cond aT15 (.seq (.yg [] [(.s (.zn 0 aT2), 0, []), (.s (.load aS0), 0, []), (.s (.zn 0 aT3), 0, []), (.s (.load aS0), 0, []), (.s (.bin .quo .int aS2 aS0), 0, []), (.s (.zn 0 aT2), 0, []), (.s (.load aS0), 0, []), (.s (.zn 0 aT3), 0, []), (.s (.load aS0), 0, []), (.s (.bin .rem .int aS2 aS0), 0, []), (iQm 6 5, 0, []), (iQm 7 0, 0, [])]) (.seq (iSr [iSm 7, iQo 16 (.bin .lss .int aS0 aC0)] (.cond aT16 (.yg [] [(iSm 6, 0, []), (.s (.bin .sub .int aS0 aC1), 0, []), (iSm 7, 0, []), (.s (.zn 0 aT3), 0, []), (.s (.load aS0), 0, []), (.s (.bin .add .int aS2 aS0), 0, []), (iQm 6 4, 0, []), (iQm 7 0, 0, [])]) .skip)) X1)) .skip)) X2))
def F182.b0 : IR := F182.g0 F182.b1 F182.b2
def F182.res : List RV := [.cell (.of 4) (some 2), .cell (.of 5) (some 2)]
def F182 : Fn := { params := [(.of 0), (.of 1)], res := F182.res, body := F182.b0, init := in18 }
theorem F182.ok : fnA Tryz.prog Tryz.f182 [0, 1, 2, 3, 4, 5, 6, 7, 8, 9, 11, 12, 13, 14, 15, 28, 40, 75] = some F182 := by kernel_rfl
abbrev F183.fr := fr3
def F183.b0 : IR := (iSr [iWl 1 (.box aT0), iQo 2 (.mv (.c (.bool false)))] (iSr [.s (.zi 2 aT1), iCa 228 [aS0], .s (.bin .gtr .int aS0 aC1800), .s (.mv aS0), iPt 0 (.zi 2 aT1), .w .push (some (aS1, true)) (.call (.c (.fn 185 (.of 185) [])) [aS0]), .w .push (some (aS2, true)) (.call (.c (.fn 229 (.of 229) [])) [aS0, (.c (.str [45]))]), iPt 3 (.slen aS0), iPt 4 (.bin .gtr .int aS0 aC600), .s (.pick aS5 aS0 (.c (.bool false))), iQm 2 0] .ret))
def F183.res : List RV := [.t (.of 2)]
def F183 : Fn := { params := [(.of 0)], res := F183.res, body := F183.b0, init := in3 }
theorem F183.ok : fnA Tryz.prog Tryz.f183 [0, 1, 2] = some F183 := by kernel_rfl
abbrev F184.fr := fr3
def F184.b0 : IR := (iSr [iWl 1 (.box aT0), iQo 2 (.mv (.c (.bool false)))] (iSr [.s (.zn 2 aT1), .s (.zn 1 aS0), .s (.load aS0), .s (.bin .eql (.nil .sl) aS0 (.c .zf)), .s (.mv aS0), iPt 0 (.zn 2 aT1), iPt 1 (.zn 0 aS0), iPt 2 (.load aS0), iPt 3 (.bin .eql .int aS0 aC1), .s (.pick aS4 aS0 (.c (.bool false))), iQm 2 0] .ret))
def F184.res : List RV := [.t (.of 2)]
def F184 : Fn := { params := [(.of 0)], res := F184.res, body := F184.b0, init := in3 }
theorem F184.ok : fnA Tryz.prog Tryz.f184 [0, 1, 2] = some F184 := by kernel_rfl
abbrev jh.fr := fr18
def jh.b8 : IR := (iSr [iSm 6, iSm 9, .w .push none (.zy 1 1 [(.str [])] [(0, 1, aS0)]), .w .push none (.app 1 16 aS2 aS0), iQm 6 0] (.reg [iSm 7, iQm 4 0]))
def jh.g7 (X8 : IR) : IR := (.seq (iSr [iSm 7, .s (.len aS0), iQo 15 (.bin .gtr .int aS0 aC0)] (.cond aT15 (.reg [iSm 9, .s (.slen aS0), .s (.bin .sub .int aC18 aS0), .w .push none (.call (.c (.fn 232 (.of 232) [])) [(.c (.str [48])), aS0]), iSm 9, .s (.bin .add .str aS1 aS0), iQm 9 0]) .skip)) X8)
def jh.b7 : IR := jh.g7 jh.b8
def jh.g6 (X7 : IR) : IR := (iSr [iSm 4, iSm 5, iCa 226 [aS1, aS0], .s (.mv aS0), .s (.ext 0 aS0), .s (.ext 1 aS1), iQm 7 1, iQm 8 0] (iSr [iQo 9 (.mv (.c (.str [48])))] (.seq (iSr [iSm 8, .s (.len aS0), iQo 14 (.bin .gtr .int aS0 aC0)] (.cond aT14 (.reg [iSm 8, .s (.zk 1 aS0 aC0), .s (.load aS0), iCa 231 [aS0, aC10], iQm 9 0]) .skip)) X7)))
def jh.b6 : IR := jh.g6 jh.b7
def jh.g5 (X6 : IR) : IR := (.block 1 X6)
def jh.b5 : IR := jh.g5 jh.b6
def jh.g4 (X5 : IR) : IR := (.seq (iSr [iSm 4, .s (.len aS0), iQo 13 (.bin .gtr .int aS0 aC0)] (.cond bK .skip (.exit 0))) X5)
def jh.b4 : IR := jh.g4 jh.b5
def jh.g3 (X4 : IR) : IR := (.loop X4)
def jh.b3 : IR := jh.g3 jh.b4
def jh.g2 (X3 : IR) : IR := (.block 0 X3)
def jh.b2 : IR := jh.g2 jh.b3
def jh.b16 : IR := (.reg [iSm 6, iSm 11, .s (.zk 1 aS1 aS0), .s (.load aS0), iCa 233 [mr, aS0]])
def jh.g15 (X16 : IR) : IR := (.block 3 X16)
def jh.b15 : IR := jh.g15 jh.b16
def jh.b17 : IR := (.reg [iSm 11, .s (.bin .sub .int aS0 aC1), iQm 11 0])
def jh.g14 (X15 X17 : IR) : IR := (.seq X15 X17)
def jh.b14 : IR := jh.g14 jh.b15 jh.b17
def jh.g13 (X14 : IR) : IR := (.seq (iSr [iSm 11, iQo 17 (.bin .geq .int aS0 aC0)] (.cond aT17 .skip (.exit 2))) X14)
def jh.b13 : IR := jh.g13 jh.b14
def jh.g12 (X13 : IR) : IR := (.loop X13)
def jh.b12 : IR := jh.g12 jh.b13
def jh.g11 (X12 : IR) : IR := (.block 2 X12)
def jh.b11 : IR := jh.g11 jh.b12
def jh.b18 : IR := (iSr [iCa 234 [mr], iQm 2 0] .ret)
def jh.g10 (X11 X18 : IR) : IR := (.seq (iSr [iSm 6, .s (.len aS0), .s (.bin .sub .int aS0 aC1), iQm 11 0] X11) X18)
def jh.b10 : IR := jh.g10 jh.b11 jh.b18
def jh.g9 (X10 : IR) : IR := (iSr [iWl 10 (.alloc [.nilp, .zf])] (.seq (iSr [iQo 16 (.mv aT3)] (.cond aT16 (.reg [.w .push none (.call (.c (.fn 233 (.of 233) [])) [mr, (.c (.str [45]))])]) .skip)) X10))
def jh.b9 : IR := jh.g9 jh.b10
def jh.g1 (X2 X9 : IR) : IR := (iSr [.s (.zi 2 aT1), iCa 174 [aS0], .s (.mv aS0), .s (.ext 0 aS0), .s (.ext 1 aS1), iQm 3 1, iQm 4 0] (iSr [.w .push none (.zy 1 1 [(.int .u64 0)] [(0, 1, (.c (.int .u64 1000000000000000000)))]), iQm 5 0] (iSr [iQo 6 (.mv (.c .zf))] (.seq X2 X9))))
def jh.b1 : IR := jh.g1 jh.b2 jh.b9
def jh.g0 (X1 : IR) : IR := (iSr [iWl 1 (.box aT0), iQo 2 (.mv (.c (.str [])))] (.seq (iSr [.s (.zn 1 aT1), .s (.load aS0), iQo 12 (.bin .eql (.nil .sl) aS0 (.c .zf))] (.cond aT12 (iSr [.s (.zn 0 aT1), .s (.load aS0), iCa 230 [aS0], iQm 2 0] .ret) .skip)) X1))
def jh.b0 : IR := jh.g0 jh.b1
def jh.res : List RV := [.t (.of 2)]
def jh : Fn := { params := [(.of 0)], res := jh.res, body := jh.b0, init := in18 }
theorem jh.ok : fnA Tryz.prog Tryz.f185 [0, 1, 2, 3, 4, 5, 6, 7, 8, 9, 10, 11, 14, 26, 35, 42, 54, 60] = some jh := by kernel_rfl
abbrev dw.fr := fr8
def dw.b6 : IR := (iSr [iSm 5, iQm 3 0] (iSr [iSm 1, iSm 0, iSm 3, .s (.zk 1 aS1 aS0), .s (.load aS0), iWl 7 (.call aS4 [aS0])] (.cond aT7 (iSr [iSm 3, iQm 2 0] .ret) .skip)))
def dw.g5 (X6 : IR) : IR := (.block 1 X6)
def dw.b5 : IR := dw.g5 dw.b6
def dw.b7 : IR := (.reg [.s (.bin .add .int aT5 aC1), iQm 5 0])
def dw.g4 (X5 X7 : IR) : IR := (.seq X5 X7)
def dw.b4 : IR := dw.g4 dw.b5 dw.b7
def dw.g3 (X4 : IR) : IR := (iSr [iQo 6 (.bin .lss .int aT5 aT4)] (.seq (.cond aT6 .skip (.exit 0)) X4))
def dw.b3 : IR := dw.g3 dw.b4
def dw.g2 (X3 : IR) : IR := (.loop X3)
def dw.b2 : IR := dw.g2 dw.b3
def dw.g1 (X2 : IR) : IR := (.block 0 X2)
def dw.b1 : IR := dw.g1 dw.b2
def dw.b8 : IR := (iSr [iQo 2 (.mv (.c (I (-1))))] .ret)
def dw.g0 (X1 X8 : IR) : IR := (iSr [iQo 2 (.mv aC0)] (.seq (iSr [iSm 0, iQo 4 (.len aS0), iQo 5 (.mv aC0)] X1) X8))
def dw.b0 : IR := dw.g0 dw.b1 dw.b8
def dw.res : List RV := [.t (.of 2)]
def dw : Fn := { params := [(.of 0), (.of 1)], res := dw.res, body := dw.b0, init := in8 }
theorem dw.ok : fnA Tryz.prog Tryz.f197 [0, 1, 4, 5, 7, 8, 9, 16] = some dw := by kernel_rfl
abbrev yt.fr := fr10
def yt.b8 : IR := (.reg [iSm 2, iSm 3, .s (.zk 1 aS1 aS0), .w .none none (.store 1 aS0 (.c (.bool true)))])
def yt.g7 (X8 : IR) : IR := (iSr [.s (.zk 1 aT5 aT7), .s (.load aS0), iQm 3 0] (.seq (iSr [iSm 3, .s (.bin .lss .int aS0 aC0), .s (.mv aS0), iPf 0 (.mv aT3), iPf 1 (.mv aT0), iPf 2 (.len aS0), iPf 3 (.bin .geq .int aS2 aS0), .s (.pick aS4 (.c (.bool true)) aS0), .s (.mv aS0), iPf 0 (.mv aT2), iPf 1 (.mv aT3), iPf 2 (.zk 1 aS1 aS0), iPf 3 (.load aS0), iQo 9 (.pick aS4 (.c (.bool true)) aS0)] (.cond aT9 (iSr [iQo 1 (.mv aC14)] .ret) .skip)) X8))
def yt.b7 : IR := yt.g7 yt.b8
def yt.g6 (X7 : IR) : IR := (.block 1 X7)
def yt.b6 : IR := yt.g6 yt.b7
def yt.b9 : IR := (.reg [.s (.bin .add .int aT7 aC1), iQm 7 0])
def yt.g5 (X6 X9 : IR) : IR := (.seq X6 X9)
def yt.b5 : IR := yt.g5 yt.b6 yt.b9
def yt.g4 (X5 : IR) : IR := (iSr [iQo 8 (.bin .lss .int aT7 aT6)] (.seq (.cond aT8 .skip (.exit 0)) X5))
def yt.b4 : IR := yt.g4 yt.b5
def yt.g3 (X4 : IR) : IR := (.loop X4)
def yt.b3 : IR := yt.g3 yt.b4
def yt.g2 (X3 : IR) : IR := (.block 0 X3)
def yt.b2 : IR := yt.g2 yt.b3
def yt.b10 : IR := (iSr [iQo 1 (.mv aC0)] .ret)
def yt.g1 (X2 X10 : IR) : IR := (iSr [iSm 0, .s (.len aS0), .w .push none (.jf 1 1 [(.bool false)] aS0 aS0), iQm 2 0] (.seq (iSr [iQo 5 (.mv aT0), iQo 6 (.len aT5), iQo 7 (.mv aC0)] X2) X10))
def yt.b1 : IR := yt.g1 yt.b2 yt.b10
def yt.g0 (X1 : IR) : IR := (iSr [iQo 1 (.mv aC0)] (.seq (iSr [iSm 0, .s (.len aS0), iQo 4 (.bin .gtr .int aS0 aC256)] (.cond aT4 (iSr [iQo 1 (.mv aC5)] .ret) .skip)) X1))
def yt.b0 : IR := yt.g0 yt.b1
def yt.res : List RV := [.t (.of 1)]
def yt : Fn := { params := [(.of 0)], res := yt.res, body := yt.b0, init := in10 }
theorem yt.ok : fnA Tryz.prog Tryz.f198 [0, 2, 3, 5, 8, 12, 13, 14, 15, 31] = some yt := by kernel_rfl
abbrev F200.fr := fr3
def F200.b0 : IR := (iSr [iSm 0, .s (.len aS0), iQm 2 0] (.reg [iSm 0, iSm 2, iSm 2, .s (.conv .u64 aS0), iCa 161 [aS0], iSm 1, iCa 243 [aS5, aC0, aS4, aS1, aS0]]))
def F200.res : List RV := []
def F200 : Fn := { params := [(.of 0), (.of 1)], res := F200.res, body := F200.b0, init := in3 }
theorem F200.ok : fnA Tryz.prog Tryz.f200 [0, 1, 4] = some F200 := by kernel_rfl
abbrev jg.fr := fr14
def jg.b7 : IR := (iSr [iSm 1, iSm 3, .s (.zk 1 aS1 aS0), .s (.load aS0), iQm 5 0] (iSr [iSm 4, iSm 5, iCa 244 [aS1, aS0], iQm 6 0] (iSr [iSm 6, iQo 12 (.bin .neq .int aS0 aC0)] (.cond aT12 (iSr [iSm 6, iQm 2 0] .ret) .skip))))
def jg.g6 (X7 : IR) : IR := (iSr [iSm 9, .s (.zk 1 aT7 aT9), .s (.load aS0), iQm 3 2, iQm 4 0] (.seq (iSr [iSm 3, iSm 1, .s (.len aS0), iQo 11 (.bin .geq .int aS2 aS0)] (.cond aT11 (iSr [iQo 2 (.mv aC1)] .ret) .skip)) X7))
def jg.b6 : IR := jg.g6 jg.b7
def jg.g5 (X6 : IR) : IR := (.block 1 X6)
def jg.b5 : IR := jg.g5 jg.b6
def jg.b8 : IR := (.reg [.s (.bin .add .int aT9 aC1), iQm 9 0])
def jg.g4 (X5 X8 : IR) : IR := (.seq X5 X8)
def jg.b4 : IR := jg.g4 jg.b5 jg.b8
def jg.g3 (X4 : IR) : IR := (iSr [iQo 10 (.bin .lss .int aT9 aT8)] (.seq (.cond mr .skip (.exit 0)) X4))
def jg.b3 : IR := jg.g3 jg.b4
def jg.g2 (X3 : IR) : IR := (.loop X3)
def jg.b2 : IR := jg.g2 jg.b3
def jg.g1 (X2 : IR) : IR := (.block 0 X2)
def jg.b1 : IR := jg.g1 jg.b2
def jg.b10 : IR := (iSr [iQo 2 (.mv aC0)] .ret)
def jg.g9 (X10 : IR) : IR := (.seq (iSr [iSm 0, .s (.len aS0), iSm 1, .s (.len aS0), iQo 13 (.bin .lss .int aS2 aS0)] (.cond bK (iSr [iQo 2 (.mv (.c (I (-1))))] .ret) .skip)) X10)
def jg.b9 : IR := jg.g9 jg.b10
def jg.g0 (X1 X9 : IR) : IR := (iSr [iQo 2 (.mv aC0)] (.seq (iSr [iQo 7 (.mv aT0), iQo 8 (.len aT7), iQo 9 (.mv aC0)] X1) X9))
def jg.b0 : IR := jg.g0 jg.b1 jg.b9
def jg.res : List RV := [.t (.of 2)]
def jg : Fn := { params := [(.of 0), (.of 1)], res := jg.res, body := jg.b0, init := in14 }
theorem jg.ok : fnA Tryz.prog Tryz.f201 [0, 1, 4, 5, 6, 7, 8, 9, 10, 11, 12, 19, 28, 35] = some jg := by kernel_rfl
abbrev jq.fr := fr11
def jq.b13 : IR := (.seq (.yg [] [(iSm 1, 0, []), (iSm 4, 0, []), (iSm 5, 0, []), (.s (.zk 1 aS1 aS0), 0, []), (.s (.load aS0), 0, []), (iSm 4, 0, []), (iSm 5, 0, []), (.s (.bin .sub .int aS0 aC1), 0, []), (.s (.zk 1 aS2 aS0), 0, []), (.s (.load aS0), 0, []), (.w .push none (.call aS9 [aS5, aS0]), 0, []), (iQo 10 (.not aS0), 0, [])]) (.cond mr (iSr [iSm 0, iSm 3, iSm 4, iSm 5, .s (.zk 1 aS1 aS0), .s (.load aS0), .s (.zk 1 aS5 aS4), .w .none none (.store 1 aS0 aS1)] (.reg [iSm 3, .s (.bin .add .int aS0 aC1), iQm 3 0])) .skip))
def jq.g12 (X13 : IR) : IR := (.block 3 X13)
def jq.b12 : IR := jq.g12 jq.b13
def jq.b14 : IR := (.reg [iSm 5, .s (.bin .add .int aS0 aC1), iQm 5 0])
def jq.g11 (X12 X14 : IR) : IR := (.seq X12 X14)
def jq.b11 : IR := jq.g11 jq.b12 jq.b14
def jq.g10 (X11 : IR) : IR := (.seq (iSr [iSm 5, iSm 4, .s (.len aS0), iQo 9 (.bin .lss .int aS2 aS0)] (.cond aT9 .skip (.exit 2))) X11)
def jq.b10 : IR := jq.g10 jq.b11
def jq.g9 (X10 : IR) : IR := (.loop X10)
def jq.b9 : IR := jq.g9 jq.b10
def jq.g8 (X9 : IR) : IR := (.block 2 X9)
def jq.b8 : IR := jq.g8 jq.b9
def jq.b15 : IR := (iSr [iSm 0, iSm 3, .s (.slice 1 aS1 (some aS0) none none), .w .none none (.clr 1 [.zf] aS0)] (iSr [iSm 0, iSm 3, .s (.slice 1 aS1 none (some aS0) none), iQm 2 0] .ret))
def jq.g7 (X8 X15 : IR) : IR := (.seq (.yg [] [(iSm 1, 0, []), (iSm 0, 0, []), (iSm 3, 0, []), (.s (.zk 1 aS1 aS0), 0, []), (.s (.load aS0), 0, []), (iSm 0, 0, []), (iSm 3, 0, []), (.s (.bin .sub .int aS0 aC1), 0, []), (.s (.zk 1 aS2 aS0), 0, []), (.s (.load aS0), 0, []), (iWl 8 (.call aS9 [aS5, aS0]), 0, [])]) (.cond aT8 (iSr [iSm 0, iSm 3, .s (.slice 1 aS1 (some aS0) none none), iQm 4 0] (.seq (iSr [iQo 5 (.mv aC1)] X8) X15)) .skip))
def jq.b7 : IR := jq.g7 jq.b8 jq.b15
def jq.g6 (X7 : IR) : IR := (.block 1 X7)
def jq.b6 : IR := jq.g6 jq.b7
def jq.b16 : IR := (.reg [iSm 3, .s (.bin .add .int aS0 aC1), iQm 3 0])
def jq.g5 (X6 X16 : IR) : IR := (.seq X6 X16)
def jq.b5 : IR := jq.g5 jq.b6 jq.b16
def jq.g4 (X5 : IR) : IR := (.seq (iSr [iSm 3, iSm 0, .s (.len aS0), iQo 7 (.bin .lss .int aS2 aS0)] (.cond aT7 .skip (.exit 0))) X5)
def jq.b4 : IR := jq.g4 jq.b5
def jq.g3 (X4 : IR) : IR := (.loop X4)
def jq.b3 : IR := jq.g3 jq.b4
def jq.g2 (X3 : IR) : IR := (.block 0 X3)
def jq.b2 : IR := jq.g2 jq.b3
def jq.b17 : IR := (iSr [iSm 0, iQm 2 0] .ret)
def jq.g1 (X2 X17 : IR) : IR := (.seq (iSr [iQo 3 (.mv aC1)] X2) X17)
def jq.b1 : IR := jq.g1 jq.b2 jq.b17
def jq.g0 (X1 : IR) : IR := (iSr [iQo 2 (.mv (.c .zf))] (.seq (iSr [iSm 0, .s (.len aS0), iQo 6 (.bin .lss .int aS0 aC2)] (.cond aT6 (iSr [iSm 0, iQm 2 0] .ret) .skip)) X1))
def jq.b0 : IR := jq.g0 jq.b1
def jq.res : List RV := [.t (.of 2)]
def jq : Fn := { params := [(.of 0), (.of 1)], res := jq.res, body := jq.b0, init := in11 }
theorem jq.ok : fnA Tryz.prog Tryz.f202 [0, 1, 4, 5, 6, 7, 10, 15, 28, 35, 49] = some jq := by kernel_rfl
abbrev uh.fr := fr7
def uh.b12 : IR := (.yg [] [(iSm 0, 0, []), (iSm 4, 0, []), (iSm 0, 1, []), (iSm 4, 1, []), (.s (.bin .sub .int aS0 aC1), 1, []), (iSm 0, 0, []), (iSm 4, 0, []), (.s (.bin .sub .int aS0 aC1), 0, []), (.s (.zk 1 aS2 aS0), 0, []), (.s (.load aS0), 0, []), (iSm 0, 0, []), (iSm 4, 0, []), (.s (.zk 1 aS1 aS0), 0, []), (.s (.load aS0), 0, []), (.s (.zk 1 aS13 aS12), 0, []), (.w .none none (.store 1 aS0 aS5), 0, []), (.s (.zk 1 aS12 aS10), 0, []), (.w .none none (.store 1 aS0 aS2), 0, [])])
def uh.g11 (X12 : IR) : IR := (.block 3 X12)
def uh.b11 : IR := uh.g11 uh.b12
def uh.b13 : IR := (.reg [iSm 4, .s (.bin .sub .int aS0 aC1), iQm 4 0])
def uh.g10 (X11 X13 : IR) : IR := (.seq X11 X13)
def uh.b10 : IR := uh.g10 uh.b11 uh.b13
def uh.g9 (X10 : IR) : IR := (.seq (.seq (.yg [] [(iSm 4, 0, []), (iSm 1, 0, []), (.s (.bin .gtr .int aS1 aS0), 0, []), (.s (.mv aS0), 0, []), (iPt 0 (.mv aT0), 0, []), (iPt 1 (.mv aT4), 0, []), (iPt 2 (.zk 1 aS1 aS0), 0, []), (iPt 3 (.load aS0), 0, []), (iPt 4 (.mv aT0), 0, []), (iPt 5 (.mv aT4), 0, []), (iPt 6 (.bin .sub .int aS0 aC1), 0, []), (iPt 7 (.zk 1 aS2 aS0), 0, []), (iPt 8 (.load aS0), 0, []), (.w .push (some (aS9, true)) (.call (.c (.fn 209 (.of 209) [])) [aS5, aS0]), 0, []), (iQo 6 (.pick aS10 aS0 (.c (.bool false))), 0, [])]) (.cond aT6 .skip (.exit 2))) X10)
def uh.b9 : IR := uh.g9 uh.b10
def uh.g8 (X9 : IR) : IR := (.loop X9)
def uh.b8 : IR := uh.g8 uh.b9
def uh.g7 (X8 : IR) : IR := (.block 2 X8)
def uh.b7 : IR := uh.g7 uh.b8
def uh.g6 (X7 : IR) : IR := (iSr [iSm 3, iQm 4 0] X7)
def uh.b6 : IR := uh.g6 uh.b7
def uh.g5 (X6 : IR) : IR := (.block 1 X6)
def uh.b5 : IR := uh.g5 uh.b6
def uh.b14 : IR := (.reg [iSm 3, .s (.bin .add .int aS0 aC1), iQm 3 0])
def uh.g4 (X5 X14 : IR) : IR := (.seq X5 X14)
def uh.b4 : IR := uh.g4 uh.b5 uh.b14
def uh.g3 (X4 : IR) : IR := (.seq (iSr [iSm 3, iSm 2, iQo 5 (.bin .lss .int aS1 aS0)] (.cond aT5 .skip (.exit 0))) X4)
def uh.b3 : IR := uh.g3 uh.b4
def uh.g2 (X3 : IR) : IR := (.loop X3)
def uh.b2 : IR := uh.g2 uh.b3
def uh.g1 (X2 : IR) : IR := (.block 0 X2)
def uh.b1 : IR := uh.g1 uh.b2
def uh.g0 (X1 : IR) : IR := (iSr [iSm 1, .s (.bin .add .int aS0 aC1), iQm 3 0] X1)
def uh.b0 : IR := uh.g0 uh.b1
def uh.res : List RV := []
def uh : Fn := { params := [(.of 0), (.of 1), (.of 2)], res := uh.res, body := uh.b0, init := in7 }
theorem uh.ok : fnA Tryz.prog Tryz.f203 [0, 1, 2, 6, 7, 12, 30] = some uh := by kernel_rfl
abbrev F209.fr := fr3
def F209.b0 : IR := (iSr [iQo 2 (.mv (.c (.bool false)))] (iSr [iSm 0, iCa 250 [aS0], .s (.mv aS0), iPt 0 (.mv aT1), .w .push (some (aS1, true)) (.call (.c (.fn 250 (.of 250) [])) [aS0]), iPt 2 (.not aS0), .s (.pick aS3 aS0 (.c (.bool false))), .s (.mv aS0), iPf 0 (.mv aT0), iPf 1 (.mv aT1), iPf 2 (.bin .lss .int aS1 aS0), .s (.pick aS3 (.c (.bool true)) aS0), iQm 2 0] .ret))
def F209.res : List RV := [.t (.of 2)]
def F209 : Fn := { params := [(.of 0), (.of 1)], res := F209.res, body := F209.b0, init := in3 }
theorem F209.ok : fnA Tryz.prog Tryz.f209 [0, 1, 4] = some F209 := by kernel_rfl
abbrev F213.fr := fr5
def F213.b3 : IR := (iSr [iSm 1, iSm 0, .s (.conv .u8 aS0), .s (.sidx (.c (.str [0, 1, 2, 2, 3, 3, 3, 3, 4, 4, 4, 4, 4, 4, 4, 4, 5, 5, 5, 5, 5, 5, 5, 5, 5, 5, 5, 5, 5, 5, 5, 5, 6, 6, 6, 6, 6, 6, 6, 6, 6, 6, 6, 6, 6, 6, 6, 6, 6, 6, 6, 6, 6, 6, 6, 6, 6, 6, 6, 6, 6, 6, 6, 6, 7, 7, 7, 7, 7, 7, 7, 7, 7, 7, 7, 7, 7, 7, 7, 7, 7, 7, 7, 7, 7, 7, 7, 7, 7, 7, 7, 7, 7, 7, 7, 7, 7, 7, 7, 7, 7, 7, 7, 7, 7, 7, 7, 7, 7, 7, 7, 7, 7, 7, 7, 7, 7, 7, 7, 7, 7, 7, 7, 7, 7, 7, 7, 7, 8, 8, 8, 8, 8, 8, 8, 8, 8, 8, 8, 8, 8, 8, 8, 8, 8, 8, 8, 8, 8, 8, 8, 8, 8, 8, 8, 8, 8, 8, 8, 8, 8, 8, 8, 8, 8, 8, 8, 8, 8, 8, 8, 8, 8, 8, 8, 8, 8, 8, 8, 8, 8, 8, 8, 8, 8, 8, 8, 8, 8, 8, 8, 8, 8, 8, 8, 8, 8, 8, 8, 8, 8, 8, 8, 8, 8, 8, 8, 8, 8, 8, 8, 8, 8, 8, 8, 8, 8, 8, 8, 8, 8, 8, 8, 8, 8, 8, 8, 8, 8, 8, 8, 8, 8, 8, 8, 8, 8, 8, 8, 8, 8, 8, 8, 8, 8, 8, 8, 8, 8, 8, 8, 8, 8, 8, 8, 8])) aS0), .s (.conv .i64 aS0), .s (.bin .add .int aS4 aS0), iQm 1 0] .ret)
def F213.g2 (X3 : IR) : IR := (.seq (iSr [iSm 0, iQo 4 (.bin .geq .int aS0 (.c (.int .u64 256)))] (.cond aT4 (iSr [iSm 0, .s (.bin .shr .int aS0 (.c (.int .u64 8))), iQm 0 0] (.reg [iSm 1, .s (.bin .add .int aS0 aC8), iQm 1 0])) .skip)) X3)
def F213.b2 : IR := F213.g2 F213.b3
def F213.g1 (X2 : IR) : IR := (.seq (iSr [iSm 0, iQo 3 (.bin .geq .int aS0 (.c (.int .u64 65536)))] (.cond aT3 (iSr [iSm 0, .s (.bin .shr .int aS0 (.c (.int .u64 16))), iQm 0 0] (.reg [iSm 1, .s (.bin .add .int aS0 aC16), iQm 1 0])) .skip)) X2)
def F213.b1 : IR := F213.g1 F213.b2
def F213.g0 (X1 : IR) : IR := (iSr [iQo 1 (.mv aC0)] (.seq (iSr [iSm 0, iQo 2 (.bin .geq .int aS0 (.c (.int .u64 4294967296)))] (.cond aT2 (iSr [iSm 0, .s (.bin .shr .int aS0 (.c (.int .u64 32))), iQm 0 0] (.reg [iQo 1 (.mv aC32)])) .skip)) X1))
def F213.b0 : IR := F213.g0 F213.b1
def F213.res : List RV := [.t (.of 1)]
def F213 : Fn := { params := [(.of 0)], res := F213.res, body := F213.b0, init := in5 }
theorem F213.ok : fnA Tryz.prog Tryz.f213 [0, 2, 4, 8, 14] = some F213 := by kernel_rfl
abbrev F215.fr := fr4
def F215.b0 : IR := (iSr [iQo 3 (.mv (.c (.bool false)))] (iSr [iSm 0, .s (.load aT1), .s (.bin .lss .int aS1 aS0), .s (.mv aS0), iPf 0 (.mv aT0), iPf 1 (.load aT2), iPf 2 (.bin .gtr .int aS1 aS0), .s (.pick aS3 (.c (.bool true)) aS0), iQm 3 0] .ret))
def F215.res : List RV := [.t (.of 3)]
def F215 : Fn := { params := [(.of 0), (.of 1), (.of 2)], res := F215.res, body := F215.b0, init := in4 }
theorem F215.ok : fnA Tryz.prog Tryz.f215 [0, 1, 2, 4] = some F215 := by kernel_rfl
abbrev F216.fr := fr3
def F216.b0 : IR := (iSr [iQo 2 (.mv (.c (.bool false)))] (iSr [iSm 0, iSm 1, iCa 259 [aS1, aS0], .s (.bin .geq .int aS0 aC0), iQm 2 0] .ret))
def F216.res : List RV := [.t (.of 2)]
def F216 : Fn := { params := [(.of 0), (.of 1)], res := F216.res, body := F216.b0, init := in3 }
theorem F216.ok : fnA Tryz.prog Tryz.f216 [0, 1, 4] = some F216 := by kernel_rfl
abbrev F217.fr := fr3
def F217.b0 : IR := (iSr [iQo 2 (.mv (.c (.bool false)))] (iSr [iSm 0, .s (.load aT1), iCa 158 [aS1, aS0], iQm 2 0] .ret))
def F217.res : List RV := [.t (.of 2)]
def F217 : Fn := { params := [(.of 0), (.of 1)], res := F217.res, body := F217.b0, init := in3 }
theorem F217.ok : fnA Tryz.prog Tryz.f217 [0, 1, 3] = some F217 := by kernel_rfl
abbrev F220.fr := fr3
def F220.b1 : IR := (iSr [iSm 0, .s (.conv .u64 aS0), iQm 1 0] .ret)
def F220.g0 (X1 : IR) : IR := (iSr [iQo 1 (.mv (.c (.int .u64 0)))] (.seq (iSr [iSm 0, iQo 2 (.bin .lss .int aS0 aC0)] (.cond aT2 (iSr [iSm 0, .s (.neg aS0), .s (.conv .u64 aS0), iQm 1 0] .ret) .skip)) X1))
def F220.b0 : IR := F220.g0 F220.b1
def F220.res : List RV := [.t (.of 1)]
def F220 : Fn := { params := [(.of 0)], res := F220.res, body := F220.b0, init := in3 }
theorem F220.ok : fnA Tryz.prog Tryz.f220 [0, 2, 4] = some F220 := by kernel_rfl
abbrev F224.fr := fr12
def F224.b0 : IR := (iSr [iQo 2 (.mv (.c (.int .u64 0))), iQo 3 (.mv (.c (.int .u64 0)))] (iSr [iSm 0, .s (.bin .and .int aS0 (.c (.int .u64 4294967295))), iQm 4 0] (iSr [iSm 0, .s (.bin .shr .int aS0 (.c (.int .u64 32))), iQm 5 0] (iSr [iSm 1, .s (.bin .and .int aS0 (.c (.int .u64 4294967295))), iQm 6 0] (iSr [iSm 1, .s (.bin .shr .int aS0 (.c (.int .u64 32))), iQm 7 0] (iSr [iSm 4, iSm 6, .s (.bin .mul .int aS1 aS0), iQm 8 0] (iSr [iSm 5, iSm 6, .s (.bin .mul .int aS1 aS0), iSm 8, .s (.bin .shr .int aS0 (.c (.int .u64 32))), .s (.bin .add .int aS2 aS0), iQm 9 0] (iSr [iSm 9, .s (.bin .and .int aS0 (.c (.int .u64 4294967295))), iQm 10 0] (iSr [iSm 9, .s (.bin .shr .int aS0 (.c (.int .u64 32))), iQm 11 0] (iSr [iSm 10, iSm 4, iSm 7, .s (.bin .mul .int aS1 aS0), .s (.bin .add .int aS3 aS0), iQm 10 0] (iSr [iSm 5, iSm 7, .s (.bin .mul .int aS1 aS0), iSm 11, .s (.bin .add .int aS1 aS0), iSm 10, .s (.bin .shr .int aS0 (.c (.int .u64 32))), .s (.bin .add .int aS2 aS0), iQm 2 0] (iSr [iSm 0, iSm 1, .s (.bin .mul .int aS1 aS0), iQm 3 0] .ret))))))))))))
def F224.res : List RV := [.t (.of 2), .t (.of 3)]
def F224 : Fn := { params := [(.of 0), (.of 1)], res := F224.res, body := F224.b0, init := in12 }
theorem F224.ok : fnA Tryz.prog Tryz.f224 [0, 1, 4, 5, 6, 7, 8, 9, 10, 11, 12, 13] = some F224 := by kernel_rfl
abbrev F228.fr := fr5
def F228.b1 : IR := (iSr [iSm 3, .s (.len aS0), .s (.bin .sub .int aS0 aC1), .s (.bin .mul .int aC64 aS0), iSm 3, iSm 3, .s (.len aS0), .s (.bin .sub .int aS0 aC1), .s (.zk 1 aS3 aS0), .s (.load aS0), iCa 213 [aS0], .s (.bin .add .int aS7 aS0), iQm 2 0] .ret)
def F228.g0 (X1 : IR) : IR := (iSr [iWl 1 (.box aT0), iQo 2 (.mv aC0)] (iSr [.s (.zi 2 aT1), iCa 174 [aS0], .s (.mv aS0), .s (.ext 0 aS0), .s (.ext 1 aS1), .s (.mv aS1), iQm 3 1] (.seq (iSr [iSm 3, .s (.len aS0), iQo 4 (.bin .eql .int aS0 aC0)] (.cond aT4 (iSr [iQo 2 (.mv aC0)] .ret) .skip)) X1)))
def F228.b0 : IR := F228.g0 F228.b1
def F228.res : List RV := [.t (.of 2)]
def F228 : Fn := { params := [(.of 0)], res := F228.res, body := F228.b0, init := in5 }
theorem F228.ok : fnA Tryz.prog Tryz.f228 [0, 1, 2, 4, 12] = some F228 := by kernel_rfl
abbrev F230.fr := fr2
def F230.b0 : IR := (iSr [iQo 1 (.mv (.c (.str [])))] (iSr [iSm 0, iCa 265 [aS0], iQm 1 0] .ret))
def F230.res : List RV := [.t (.of 1)]
def F230 : Fn := { params := [(.of 0)], res := F230.res, body := F230.b0, init := in2 }
theorem F230.ok : fnA Tryz.prog Tryz.f230 [0, 2] = some F230 := by kernel_rfl
abbrev qg.fr := fr24
def qg.b10 : IR := (iSr [iSm 0, iSm 1, iSm 2, iSm 8, iSm 4, iCa 280 [aS4, aS3, aS2, aS1, aS0], .s (.mv aS0), .s (.ext 0 aS0), .s (.ext 1 aS1), iQm 11 1, iQm 12 0] (iSr [iSm 12, iQm 6 0] (iSr [iSm 11, iSm 1, .s (.bin .sub .int aS1 aS0), iSm 2, iSm 11, .s (.bin .sub .int aS1 aS0), iQm 13 3, iQm 14 0] (iSr [iSm 7, .s (.bin .quo .int aS0 aC8), iQm 15 0] (iSr [iSm 13, iSm 14, iQo 23 (.bin .lss .int aS1 aS0)] (.cond aT23 (iSr [iSm 13, iSm 15, .s (.bin .geq .int aS1 aS0), iQm 5 0] (iSr [iSm 0, iSm 1, iSm 11, iSm 3, iSm 4, iCa 243 [aS4, aS3, aS2, aS1, aS0]] (.reg [iSm 11, .s (.bin .add .int aS0 aC1), iQm 1 0]))) (iSr [iSm 14, iSm 15, .s (.bin .geq .int aS1 aS0), iQm 5 0] (iSr [iSm 0, iSm 11, .s (.bin .add .int aS0 aC1), iSm 2, iSm 3, iSm 4, iCa 243 [aS5, aS3, aS2, aS1, aS0]] (.reg [iSm 11, iQm 2 0])))))))))
def qg.g9 (X10 : IR) : IR := (.seq (.seq (.yg [] [(iSm 1, 0, []), (.s (.bin .gtr .int aS0 aC0), 0, []), (.s (.mv aS0), 0, []), (iPt 0 (.mv aT4), 0, []), (iPt 1 (.mv aT0), 0, []), (iPt 2 (.mv aT1), 0, []), (iPt 3 (.bin .sub .int aS0 aC1), 0, []), (iPt 4 (.zk 1 aS2 aS0), 0, []), (iPt 5 (.load aS0), 0, []), (iPt 6 (.mv aT0), 0, []), (iPt 7 (.mv aT8), 0, []), (iPt 8 (.zk 1 aS1 aS0), 0, []), (iPt 9 (.load aS0), 0, []), (.w .push (some (aS10, true)) (.call aS9 [aS4, aS0]), 0, []), (iPt 11 (.bin .lss .int aS0 aC0), 0, []), (iPt 12 (.not aS0), 0, []), (iQo 22 (.pick aS13 aS0 (.c (.bool false))), 0, [])]) (.cond aT22 (iSr [iSm 0, iSm 1, iSm 2, iSm 8, iSm 4, iCa 279 [aS4, aS3, aS2, aS1, aS0], iQm 10 0] (iSr [iSm 10, iQm 1 0] (.exit 1))) .skip)) X10)
def qg.b9 : IR := qg.g9 qg.b10
def qg.g8 (X9 : IR) : IR := (.seq (iSr [iSm 5, .s (.mv aS0), iPt 0 (.mv aT6), .s (.pick aS1 aS0 (.c (.bool false))), .s (.mv aS0), iPt 0 (.mv aT9), iPt 1 (.bin .eql .int aS0 aC1), iQo 20 (.pick aS2 aS0 (.c (.bool false)))] (.cond aT20 (iSr [iSm 0, iSm 1, iSm 2, iSm 4, iWl 21 (.call (.c (.fn 278 (.of 278) [])) [aS3, aS2, aS1, aS0])] (.cond aT21 .ret .skip)) .skip)) X9)
def qg.b8 : IR := qg.g8 qg.b9
def qg.g7 (X8 : IR) : IR := (iSr [iSm 0, iSm 1, iSm 2, iSm 4, iCa 276 [aS3, aS2, aS1, aS0], .s (.mv aS0), .s (.ext 0 aS0), .s (.ext 1 aS1), iQm 8 1, iQm 9 0] (.seq (iSr [iSm 9, iQo 19 (.bin .eql .int aS0 aC2)] (.cond aT19 (iSr [iSm 0, iSm 1, iSm 2, iSm 4, iCa 277 [aS3, aS2, aS1, aS0]] (iSr [iSm 2, .s (.bin .sub .int aS0 aC1), iSm 8, iSm 1, .s (.bin .sub .int aS1 aS0), .s (.bin .sub .int aS3 aS0), iQm 8 0] (.reg [iQo 9 (.mv aC1)]))) .skip)) X8))
def qg.b7 : IR := qg.g7 qg.b8
def qg.g6 (X7 : IR) : IR := (.seq (iSr [iSm 5, iQo 18 (.not aS0)] (.cond aT18 (iSr [iSm 0, iSm 1, iSm 2, iSm 4, iCa 275 [aS3, aS2, aS1, aS0]] (.reg [iSm 3, .s (.bin .sub .int aS0 aC1), iQm 3 0])) .skip)) X7)
def qg.b6 : IR := qg.g6 qg.b7
def qg.g5 (X6 : IR) : IR := (.seq (iSr [iSm 3, iQo 17 (.bin .eql .int aS0 aC0)] (.cond aT17 (iSr [iSm 0, iSm 1, iSm 2, iSm 4, iCa 274 [aS3, aS2, aS1, aS0]] .ret) .skip)) X6)
def qg.b5 : IR := qg.g5 qg.b6
def qg.g4 (X5 : IR) : IR := (iSr [iSm 2, iSm 1, .s (.bin .sub .int aS1 aS0), iQm 7 0] (.seq (iSr [iSm 7, iQo 16 (.bin .leq .int aS0 aC12)] (.cond aT16 (iSr [iSm 0, iSm 1, iSm 2, iSm 4, iCa 273 [aS3, aS2, aS1, aS0]] .ret) .skip)) X5))
def qg.b4 : IR := qg.g4 qg.b5
def qg.g3 (X4 : IR) : IR := (.block 1 X4)
def qg.b3 : IR := qg.g3 qg.b4
def qg.g2 (X3 : IR) : IR := (.loop X3)
def qg.b2 : IR := qg.g2 qg.b3
def qg.g1 (X2 : IR) : IR := (.block 0 X2)
def qg.b1 : IR := qg.g1 qg.b2
def qg.g0 (X1 : IR) : IR := (iSr [iQo 5 (.mv (.c (.bool true)))] (iSr [iQo 6 (.mv (.c (.bool true)))] X1))
def qg.b0 : IR := qg.g0 qg.b1
def qg.res : List RV := []
def qg : Fn := { params := [(.of 0), (.of 1), (.of 2), (.of 3), (.of 4)], res := qg.res, body := qg.b0, init := in24 }
theorem qg.ok : fnA Tryz.prog Tryz.f243 [0, 1, 2, 3, 4, 10, 11, 12, 13, 14, 15, 16, 17, 18, 19, 20, 25, 32, 39, 56, 75, 80, 97, 125] = some qg := by kernel_rfl
abbrev mZ.fr := fr10
def mZ.b1 : IR := (iSr [iQo 2 (.mv (.c (I (-1))))] .ret)
def mZ.b5 : IR := (iSr [iQo 2 (.mv aC0)] .ret)
def mZ.g4 (X5 : IR) : IR := (.seq (iSr [iSm 0, iSm 1, iQo 9 (.bin .gtr .int aS1 aS0)] (.cond aT9 (iSr [iQo 2 (.mv aC1)] .ret) .skip)) X5)
def mZ.b4 : IR := mZ.g4 mZ.b5
def mZ.g3 (X4 : IR) : IR := (.seq (iSr [iSm 0, iSm 1, iQo 8 (.bin .lss .int aS1 aS0)] (.cond aT8 (iSr [iQo 2 (.mv (.c (I (-1))))] .ret) .skip)) X4)
def mZ.b3 : IR := mZ.g3 mZ.b4
def mZ.g2 (X3 : IR) : IR := (.seq (iSr [iQo 7 (.mv aT4)] (.cond aT7 (iSr [iQo 2 (.mv aC1)] .ret) .skip)) X3)
def mZ.b2 : IR := mZ.g2 mZ.b3
def mZ.g0 (X1 X2 : IR) : IR := (iSr [iQo 2 (.mv aC0)] (iSr [iSm 0, iCa 250 [aS0], iQm 3 0] (iSr [iSm 1, iCa 250 [aS0], iQm 4 0] (.seq (iSr [iQo 5 (.mv aT3)] (.cond aT5 (.seq (iSr [iQo 6 (.mv aT4)] (.cond aT6 (iSr [iQo 2 (.mv aC0)] .ret) .skip)) X1) .skip)) X2))))
def mZ.b0 : IR := mZ.g0 mZ.b1 mZ.b2
def mZ.res : List RV := [.t (.of 2)]
def mZ : Fn := { params := [(.of 0), (.of 1)], res := mZ.res, body := mZ.b0, init := in10 }
theorem mZ.ok : fnA Tryz.prog Tryz.f244 [0, 1, 4, 5, 6, 11, 12, 13, 16, 19] = some mZ := by kernel_rfl
abbrev F250.fr := fr2
def F250.b0 : IR := (iSr [iQo 1 (.mv (.c (.bool false)))] (iSr [iSm 0, iSm 0, .s (.bin .neq .int aS1 aS0), iQm 1 0] .ret))
def F250.res : List RV := [.t (.of 1)]
def F250 : Fn := { params := [(.of 0)], res := F250.res, body := F250.b0, init := in2 }
theorem F250.ok : fnA Tryz.prog Tryz.f250 [0, 2] = some F250 := by kernel_rfl
abbrev pq.fr := fr8
def pq.b6 : IR := (iSr [iSm 5, iQm 3 0] (iSr [iSm 1, iSm 0, iSm 3, .s (.zk 1 aS1 aS0), .s (.load aS0), iWl 7 (.call aS4 [aS0])] (.cond aT7 (iSr [iSm 3, iQm 2 0] .ret) .skip)))
def pq.g5 (X6 : IR) : IR := (.block 1 X6)
def pq.b5 : IR := pq.g5 pq.b6
def pq.b7 : IR := (.reg [.s (.bin .add .int aT5 aC1), iQm 5 0])
def pq.g4 (X5 X7 : IR) : IR := (.seq X5 X7)
def pq.b4 : IR := pq.g4 pq.b5 pq.b7
def pq.g3 (X4 : IR) : IR := (iSr [iQo 6 (.bin .lss .int aT5 aT4)] (.seq (.cond aT6 .skip (.exit 0)) X4))
def pq.b3 : IR := pq.g3 pq.b4
def pq.g2 (X3 : IR) : IR := (.loop X3)
def pq.b2 : IR := pq.g2 pq.b3
def pq.g1 (X2 : IR) : IR := (.block 0 X2)
def pq.b1 : IR := pq.g1 pq.b2
def pq.b8 : IR := (iSr [iQo 2 (.mv (.c (I (-1))))] .ret)
def pq.g0 (X1 X8 : IR) : IR := (iSr [iQo 2 (.mv aC0)] (.seq (iSr [iSm 0, iQo 4 (.len aS0), iQo 5 (.mv aC0)] X1) X8))
def pq.b0 : IR := pq.g0 pq.b1 pq.b8
def pq.res : List RV := [.t (.of 2)]
def pq : Fn := { params := [(.of 0), (.of 1)], res := pq.res, body := pq.b0, init := in8 }
theorem pq.ok : fnA Tryz.prog Tryz.f259 [0, 1, 4, 5, 7, 8, 9, 16] = some pq := by kernel_rfl
abbrev F265.fr := fr2
def F265.b0 : IR := (iSr [iQo 1 (.mv (.c (.str [])))] (iSr [iSm 0, iCa 286 [aS0, aC10], iQm 1 0] .ret))
def F265.res : List RV := [.t (.of 1)]
def F265 : Fn := { params := [(.of 0)], res := F265.res, body := F265.b0, init := in2 }
theorem F265.ok : fnA Tryz.prog Tryz.f265 [0, 2] = some F265 := by kernel_rfl
abbrev uj.fr := fr8
def uj.b12 : IR := (.yg [] [(iSm 0, 0, []), (iSm 5, 0, []), (iSm 0, 1, []), (iSm 5, 1, []), (.s (.bin .sub .int aS0 aC1), 1, []), (iSm 0, 0, []), (iSm 5, 0, []), (.s (.bin .sub .int aS0 aC1), 0, []), (.s (.zk 1 aS2 aS0), 0, []), (.s (.load aS0), 0, []), (iSm 0, 0, []), (iSm 5, 0, []), (.s (.zk 1 aS1 aS0), 0, []), (.s (.load aS0), 0, []), (.s (.zk 1 aS13 aS12), 0, []), (.w .none none (.store 1 aS0 aS5), 0, []), (.s (.zk 1 aS12 aS10), 0, []), (.w .none none (.store 1 aS0 aS2), 0, [])])
def uj.g11 (X12 : IR) : IR := (.block 3 X12)
def uj.b11 : IR := uj.g11 uj.b12
def uj.b13 : IR := (.reg [iSm 5, .s (.bin .sub .int aS0 aC1), iQm 5 0])
def uj.g10 (X11 X13 : IR) : IR := (.seq X11 X13)
def uj.b10 : IR := uj.g10 uj.b11 uj.b13
def uj.g9 (X10 : IR) : IR := (.seq (.seq (.yg [] [(iSm 5, 0, []), (iSm 1, 0, []), (.s (.bin .gtr .int aS1 aS0), 0, []), (.s (.mv aS0), 0, []), (iPt 0 (.mv aT3), 0, []), (iPt 1 (.mv aT0), 0, []), (iPt 2 (.mv aT5), 0, []), (iPt 3 (.zk 1 aS1 aS0), 0, []), (iPt 4 (.load aS0), 0, []), (iPt 5 (.mv aT0), 0, []), (iPt 6 (.mv aT5), 0, []), (iPt 7 (.bin .sub .int aS0 aC1), 0, []), (iPt 8 (.zk 1 aS2 aS0), 0, []), (iPt 9 (.load aS0), 0, []), (.w .push (some (aS10, true)) (.call aS9 [aS5, aS0]), 0, []), (iPt 11 (.bin .lss .int aS0 aC0), 0, []), (iQo 7 (.pick aS12 aS0 (.c (.bool false))), 0, [])]) (.cond aT7 .skip (.exit 2))) X10)
def uj.b9 : IR := uj.g9 uj.b10
def uj.g8 (X9 : IR) : IR := (.loop X9)
def uj.b8 : IR := uj.g8 uj.b9
def uj.g7 (X8 : IR) : IR := (.block 2 X8)
def uj.b7 : IR := uj.g7 uj.b8
def uj.g6 (X7 : IR) : IR := (iSr [iSm 4, iQm 5 0] X7)
def uj.b6 : IR := uj.g6 uj.b7
def uj.g5 (X6 : IR) : IR := (.block 1 X6)
def uj.b5 : IR := uj.g5 uj.b6
def uj.b14 : IR := (.reg [iSm 4, .s (.bin .add .int aS0 aC1), iQm 4 0])
def uj.g4 (X5 X14 : IR) : IR := (.seq X5 X14)
def uj.b4 : IR := uj.g4 uj.b5 uj.b14
def uj.g3 (X4 : IR) : IR := (.seq (iSr [iSm 4, iSm 2, iQo 6 (.bin .lss .int aS1 aS0)] (.cond aT6 .skip (.exit 0))) X4)
def uj.b3 : IR := uj.g3 uj.b4
def uj.g2 (X3 : IR) : IR := (.loop X3)
def uj.b2 : IR := uj.g2 uj.b3
def uj.g1 (X2 : IR) : IR := (.block 0 X2)
def uj.b1 : IR := uj.g1 uj.b2
def uj.g0 (X1 : IR) : IR := (iSr [iSm 1, .s (.bin .add .int aS0 aC1), iQm 4 0] X1)
def uj.b0 : IR := uj.g0 uj.b1
def uj.res : List RV := []
def uj : Fn := { params := [(.of 0), (.of 1), (.of 2), (.of 3)], res := uj.res, body := uj.b0, init := in8 }
theorem uj.ok : fnA Tryz.prog Tryz.f273 [0, 1, 2, 3, 8, 9, 14, 34] = some uj := by kernel_rfl
end
end Go.Ev
