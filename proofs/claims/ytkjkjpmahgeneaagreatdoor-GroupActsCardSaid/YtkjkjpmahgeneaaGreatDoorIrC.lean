import Derived.Test.YtkjkjpmahgeneaaGreatDoorIrA
import Derived.Test.YtkjkjpmahgeneaaGreatDoorEvC
import Derived.Test.YtkjkjpmahgeneaaGreatDoorProg
import Derived.KernelRfl
set_option linter.unusedSimpArgs false
set_option linter.unusedVariables false
namespace Go.Ev
open Go Go.Proofs
set_option maxRecDepth 100000
noncomputable section

abbrev F160.fr := fr23
def F160.b10 : IR := (iSr [iSm 0, iSm 1, iSm 2, iSm 7, iCa 211 [aS3, aS2, aS1, aS0], .s (.mv aS0), .s (.ext 0 aS0), .s (.ext 1 aS1), iQm 10 1, iQm 11 0] (iSr [iSm 11, iQm 5 0] (iSr [iSm 10, iSm 1, .s (.bin .sub .int aS1 aS0), iSm 2, iSm 10, .s (.bin .sub .int aS1 aS0), iQm 12 3, iQm 13 0] (iSr [iSm 6, .s (.bin .quo .int aS0 aC8), iQm 14 0] (iSr [iSm 12, iSm 13, iQo 22 (.bin .lss .int aS1 aS0)] (.cond aT22 (iSr [iSm 12, iSm 14, .s (.bin .geq .int aS1 aS0), iQm 4 0] (iSr [iSm 0, iSm 1, iSm 10, iSm 3, iCa 160 [aS3, aS2, aS1, aS0]] (.reg [iSm 10, .s (.bin .add .int aS0 aC1), iQm 1 0]))) (iSr [iSm 13, iSm 14, .s (.bin .geq .int aS1 aS0), iQm 4 0] (iSr [iSm 0, iSm 10, .s (.bin .add .int aS0 aC1), iSm 2, iSm 3, iCa 160 [aS4, aS2, aS1, aS0]] (.reg [iSm 10, iQm 2 0])))))))))
def F160.g9 (X10 : IR) : IR := (.seq (.seq (.dreg [] [(iSm 1, 0, []), (.s (.bin .gtr .int aS0 aC0), 0, []), (.s (.mv aS0), 0, []), (iPt 0 (.mv aT0), 0, []), (iPt 1 (.mv aT1), 0, []), (iPt 2 (.bin .sub .int aS0 aC1), 0, []), (iPt 3 (.iaddr 1 aS2 aS0), 0, []), (iPt 4 (.load aS0), 0, []), (iPt 5 (.mv aT0), 0, []), (iPt 6 (.mv aT7), 0, []), (iPt 7 (.iaddr 1 aS1 aS0), 0, []), (iPt 8 (.load aS0), 0, []), (.w .push (some (aS9, true)) (.call (.c (.fn 209 (.of 209) [])) [aS4, aS0]), 0, []), (iPt 10 (.not aS0), 0, []), (iQo 21 (.pick aS11 aS0 (.c (.bool false))), 0, [])]) (.cond aT21 (iSr [iSm 0, iSm 1, iSm 2, iSm 7, iCa 210 [aS3, aS2, aS1, aS0], iQm 9 0] (iSr [iSm 9, iQm 1 0] (.exit 1))) .skip)) X10)
def F160.b9 : IR := F160.g9 F160.b10
def F160.g8 (X9 : IR) : IR := (.seq (iSr [iSm 4, .s (.mv aS0), iPt 0 (.mv aT5), .s (.pick aS1 aS0 (.c (.bool false))), .s (.mv aS0), iPt 0 (.mv aT8), iPt 1 (.bin .eql .int aS0 aC1), iQo 19 (.pick aS2 aS0 (.c (.bool false)))] (.cond aT19 (iSr [iSm 0, iSm 1, iSm 2, iWl 20 (.call (.c (.fn 208 (.of 208) [])) [aS2, aS1, aS0])] (.cond aT20 .ret .skip)) .skip)) X9)
def F160.b8 : IR := F160.g8 F160.b9
def F160.g7 (X8 : IR) : IR := (iSr [iSm 0, iSm 1, iSm 2, iCa 206 [aS2, aS1, aS0], .s (.mv aS0), .s (.ext 0 aS0), .s (.ext 1 aS1), iQm 7 1, iQm 8 0] (.seq (iSr [iSm 8, iQo 18 (.bin .eql .int aS0 aC2)] (.cond aT18 (iSr [iSm 0, iSm 1, iSm 2, iCa 207 [aS2, aS1, aS0]] (iSr [iSm 2, .s (.bin .sub .int aS0 aC1), iSm 7, iSm 1, .s (.bin .sub .int aS1 aS0), .s (.bin .sub .int aS3 aS0), iQm 7 0] (.reg [iQo 8 (.mv aC1)]))) .skip)) X8))
def F160.b7 : IR := F160.g7 F160.b8
def F160.g6 (X7 : IR) : IR := (.seq (iSr [iSm 4, iQo 17 (.not aS0)] (.cond aT17 (iSr [iSm 0, iSm 1, iSm 2, iCa 205 [aS2, aS1, aS0]] (.reg [iSm 3, .s (.bin .sub .int aS0 aC1), iQm 3 0])) .skip)) X7)
def F160.b6 : IR := F160.g6 F160.b7
def F160.g5 (X6 : IR) : IR := (.seq (iSr [iSm 3, iQo 16 (.bin .eql .int aS0 aC0)] (.cond aT16 (iSr [iSm 0, iSm 1, iSm 2, iCa 204 [aS2, aS1, aS0]] .ret) .skip)) X6)
def F160.b5 : IR := F160.g5 F160.b6
def F160.g4 (X5 : IR) : IR := (iSr [iSm 2, iSm 1, .s (.bin .sub .int aS1 aS0), iQm 6 0] (.seq (iSr [iSm 6, iQo 15 (.bin .leq .int aS0 aC12)] (.cond aT15 (iSr [iSm 0, iSm 1, iSm 2, iCa 203 [aS2, aS1, aS0]] .ret) .skip)) X5))
def F160.b4 : IR := F160.g4 F160.b5
def F160.g3 (X4 : IR) : IR := (.block 1 X4)
def F160.b3 : IR := F160.g3 F160.b4
def F160.g2 (X3 : IR) : IR := (.loop X3)
def F160.b2 : IR := F160.g2 F160.b3
def F160.g1 (X2 : IR) : IR := (.block 0 X2)
def F160.b1 : IR := F160.g1 F160.b2
def F160.g0 (X1 : IR) : IR := (iSr [iQo 4 (.mv (.c (.bool true)))] (iSr [iQo 5 (.mv (.c (.bool true)))] X1))
def F160.b0 : IR := F160.g0 F160.b1
def F160.res : List RV := []
def F160 : Fn := { params := [(.of 0), (.of 1), (.of 2), (.of 3)], res := F160.res, body := F160.b0, init := in23 }
theorem F160.ok : fnA Tryz.prog Tryz.f160 [0, 1, 2, 3, 8, 9, 10, 11, 12, 13, 14, 15, 16, 17, 18, 23, 29, 35, 50, 68, 72, 87, 113] = some F160 := by kernel_rfl
abbrev F161.fr := fr2
def F161.b1 : IR := (iSr [iSm 0, iCa 213 [aS0], iQm 1 0] .ret)
def F161.g0 (X1 : IR) : IR := (iSr [iQo 1 (.mv aC0)] (.seq (.cond (.c (.bool false)) (iSr [iSm 0, .s (.conv .u32 aS0), iCa 212 [aS0], iQm 1 0] .ret) .skip) X1))
def F161.b0 : IR := F161.g0 F161.b1
def F161.res : List RV := [.t (.of 1)]
def F161 : Fn := { params := [(.of 0)], res := F161.res, body := F161.b0, init := in2 }
theorem F161.ok : fnA Tryz.prog Tryz.f161 [0, 2] = some F161 := by kernel_rfl
abbrev F162.fr := fr8
def F162.b2 : IR := (iSr [iQo 4 (.mv (.c (I (-1))))] .ret)
def F162.g1 (X2 : IR) : IR := (.seq (iSr [.s (.faddr 1 aT2), iQo 7 (.load aS0)] (.cond aT7 (iSr [iQo 4 (.mv aC1)] .ret) .skip)) X2)
def F162.b1 : IR := F162.g1 F162.b2
def F162.g0 (X1 : IR) : IR := (iSr [iWl 2 (.box aT0), iWl 3 (.box aT1), iQo 4 (.mv aC0)] (.seq (iSr [.s (.faddr 0 aT2), .s (.load aS0), .s (.faddr 0 aT3), .s (.load aS0), iCa 201 [aS2, aS0], iQm 5 0] (iSr [iSm 5, .s (.bin .neq .int aS0 aC0), .s (.mv aS0), iPf 0 (.faddr 1 aT2), iPf 1 (.load aS0), iPf 2 (.faddr 1 aT3), iPf 3 (.load aS0), iPf 4 (.bin .eql .bool aS2 aS0), iQo 6 (.pick aS5 (.c (.bool true)) aS0)] (.cond aT6 (iSr [iSm 5, iQm 4 0] .ret) .skip))) X1))
def F162.b0 : IR := F162.g0 F162.b1
def F162.res : List RV := [.t (.of 4)]
def F162 : Fn := { params := [(.of 0), (.of 1)], res := F162.res, body := F162.b0, init := in8 }
theorem F162.ok : fnA Tryz.prog Tryz.f162 [0, 1, 2, 3, 4, 5, 19, 22] = some F162 := by kernel_rfl
abbrev F163.fr := fr7
def F163.b6 : IR := (iSr [iSm 5, iQm 3 0] (.reg [.s (.faddr 0 aT2), .s (.load aS0), iSm 3, iSm 3, .s (.iaddr 1 aS2 aS1), .w .none none (.store 1 aS0 aS1)]))
def F163.g5 (X6 : IR) : IR := (.block 1 X6)
def F163.b5 : IR := F163.g5 F163.b6
def F163.b7 : IR := (.reg [.s (.bin .add .int aT5 aC1), iQm 5 0])
def F163.g4 (X5 X7 : IR) : IR := (.seq X5 X7)
def F163.b4 : IR := F163.g4 F163.b5 F163.b7
def F163.g3 (X4 : IR) : IR := (iSr [iQo 6 (.bin .lss .int aT5 aT4)] (.seq (.cond aT6 .skip (.exit 0)) X4))
def F163.b3 : IR := F163.g3 F163.b4
def F163.g2 (X3 : IR) : IR := (.loop X3)
def F163.b2 : IR := F163.g2 F163.b3
def F163.g1 (X2 : IR) : IR := (.block 0 X2)
def F163.b1 : IR := F163.g1 F163.b2
def F163.b8 : IR := (iSr [.s (.loadN 2 aT2), .w .none none (.store 2 aT1 aS0)] .ret)
def F163.g0 (X1 X8 : IR) : IR := (iSr [iWl 1 (.alloc [.nils, (.bool false)])] (iSr [iSm 0, .w .push none (.mkslice 1 8 [(I 0)] aS0 aS0), .s (.build [.nils, (.bool false)] [(0, 1, aS0)]), iWl 2 (.alloc [.nils, (.bool false)]), .w .none none (.store 2 aT2 aS0)] (.seq (iSr [.s (.faddr 0 aT2), .s (.load aS0), iQo 4 (.len aS0), iQo 5 (.mv aC0)] X1) X8)))
def F163.b0 : IR := F163.g0 F163.b1 F163.b8
def F163.res : List RV := [.cell (.of 1) (some 2)]
def F163 : Fn := { params := [(.of 0)], res := F163.res, body := F163.b0, init := in7 }
theorem F163.ok : fnA Tryz.prog Tryz.f163 [0, 2, 3, 4, 10, 11, 12] = some F163 := by kernel_rfl
abbrev F165.fr := fr8
def F165.b6 : IR := (iSr [.s (.iaddr 1 aT3 aT5), .s (.load aS0), iQm 2 0] (iSr [iSm 2, iQo 7 (.bin .neq .int aS0 aC0)] (.cond aT7 (iSr [iSm 2, iQm 1 0] .ret) .skip)))
def F165.g5 (X6 : IR) : IR := (.block 1 X6)
def F165.b5 : IR := F165.g5 F165.b6
def F165.b7 : IR := (.reg [.s (.bin .add .int aT5 aC1), iQm 5 0])
def F165.g4 (X5 X7 : IR) : IR := (.seq X5 X7)
def F165.b4 : IR := F165.g4 F165.b5 F165.b7
def F165.g3 (X4 : IR) : IR := (iSr [iQo 6 (.bin .lss .int aT5 aT4)] (.seq (.cond aT6 .skip (.exit 0)) X4))
def F165.b3 : IR := F165.g3 F165.b4
def F165.g2 (X3 : IR) : IR := (.loop X3)
def F165.b2 : IR := F165.g2 F165.b3
def F165.g1 (X2 : IR) : IR := (.block 0 X2)
def F165.b1 : IR := F165.g1 F165.b2
def F165.b8 : IR := (iSr [iQo 1 (.mv aC0)] .ret)
def F165.g0 (X1 X8 : IR) : IR := (iSr [iQo 1 (.mv aC0)] (.seq (iSr [iQo 3 (.mv aT0), iQo 4 (.len aT3), iQo 5 (.mv aC0)] X1) X8))
def F165.b0 : IR := F165.g0 F165.b1 F165.b8
def F165.res : List RV := [.t (.of 1)]
def F165 : Fn := { params := [(.of 0)], res := F165.res, body := F165.b0, init := in8 }
theorem F165.ok : fnA Tryz.prog Tryz.f165 [0, 2, 4, 5, 6, 7, 8, 12] = some F165 := by kernel_rfl
abbrev F166.fr := fr6
def F166.b0 : IR := (iSr [iWl 3 (.box aT0), iWl 4 (.box aT1), iQo 5 (.mv aC0)] (iSr [iSm 2, .s (.fn 215 (.of 215) [aT3, aT4]), iCa 136 [aS1, aS0], iCa 167 [aS0, aC3], iQm 5 0] .ret))
def F166.res : List RV := [.t (.of 5)]
def F166 : Fn := { params := [(.of 0), (.of 1), (.of 2)], res := F166.res, body := F166.b0, init := in6 }
theorem F166.ok : fnA Tryz.prog Tryz.f166 [0, 1, 2, 3, 4, 6] = some F166 := by kernel_rfl
abbrev F167.fr := fr4
def F167.b1 : IR := (iSr [iQo 2 (.mv aC0)] .ret)
def F167.g0 (X1 : IR) : IR := (iSr [iQo 2 (.mv aC0)] (.seq (iSr [iQo 3 (.mv aT0)] (.cond aT3 (iSr [iSm 1, iQm 2 0] .ret) .skip)) X1))
def F167.b0 : IR := F167.g0 F167.b1
def F167.res : List RV := [.t (.of 2)]
def F167 : Fn := { params := [(.of 0), (.of 1)], res := F167.res, body := F167.b0, init := in4 }
theorem F167.ok : fnA Tryz.prog Tryz.f167 [0, 1, 4, 5] = some F167 := by kernel_rfl
abbrev F168.fr := fr14
def F168.b7 : IR := (iSr [iSm 11, .s (.iaddr 1 aT9 aT11), .s (.load aS0), iQm 5 2, iQm 6 0] (iSr [iSm 6, .s (.bin .lss .int aS0 aC0), .s (.mv aS0), iPf 0 (.mv aT6), iPf 1 (.faddr 0 aT2), iPf 2 (.load aS0), iPf 3 (.bin .geq .int aS2 aS0), .s (.pick aS4 (.c (.bool true)) aS0), iCa 167 [aS0, aC10], iSm 5, .s (.bin .gtr .int aS0 aC0), .s (.mv aS0), iPt 0 (.load aT4), iPt 1 (.mv aT5), iPt 2 (.bin .sub .int aS0 aC1), iPt 3 (.iaddr 1 aS2 aS0), iPt 4 (.load aS0), iPt 5 (.mv aT6), iPt 6 (.bin .geq .int aS1 aS0), .s (.pick aS7 aS0 (.c (.bool false))), iCa 167 [aS0, aC11], .w .push none (.bslice 1 2 [(I 0)] [(0, 1, aS12), (1, 1, aS0)]), iCa 165 [aS0], iQm 7 0] (iSr [iSm 7, iQo 13 (.bin .neq .int aS0 aC0)] (.cond aT13 (iSr [iSm 7, iQm 3 0] .ret) .skip))))
def F168.g6 (X7 : IR) : IR := (.block 1 X7)
def F168.b6 : IR := F168.g6 F168.b7
def F168.b8 : IR := (.reg [.s (.bin .add .int aT11 aC1), iQm 11 0])
def F168.g5 (X6 X8 : IR) : IR := (.seq X6 X8)
def F168.b5 : IR := F168.g5 F168.b6 F168.b8
def F168.g4 (X5 : IR) : IR := (iSr [iQo 12 (.bin .lss .int aT11 aT10)] (.seq (.cond aT12 .skip (.exit 0)) X5))
def F168.b4 : IR := F168.g4 F168.b5
def F168.g3 (X4 : IR) : IR := (.loop X4)
def F168.b3 : IR := F168.g3 F168.b4
def F168.g2 (X3 : IR) : IR := (.block 0 X3)
def F168.b2 : IR := F168.g2 F168.b3
def F168.b9 : IR := (iSr [.s (.faddr 1 aT2), .s (.load aS0), iSm 1, .s (.slice 1 aS1 none (some aS0) none), .s (.fn 217 (.of 217) [aT4]), iCa 216 [aS1, aS0], iCa 167 [aS0, aC9], iQm 3 0] .ret)
def F168.g1 (X2 X9 : IR) : IR := (.seq (iSr [iQo 9 (.load aT4), iQo 10 (.len aT9), iQo 11 (.mv aC0)] X2) X9)
def F168.b1 : IR := F168.g1 F168.b2 F168.b9
def F168.g0 (X1 : IR) : IR := (iSr [iWl 2 (.box aT0), iQo 3 (.mv aC0)] (iSr [.s (.faddr 1 aT2), .s (.load aS0), iSm 1, .s (.iaddr 1 aS1 aS0), .s (.load aS0), iWl 4 (.alloc [.nils]), .w .none none (.store 1 aT4 aS0)] (.seq (iSr [.s (.load aT4), .s (.len aS0), iQo 8 (.bin .eql .int aS0 aC0)] (.cond aT8 (iSr [iQo 3 (.mv aC12)] .ret) .skip)) X1)))
def F168.b0 : IR := F168.g0 F168.b1
def F168.res : List RV := [.t (.of 3)]
def F168 : Fn := { params := [(.of 0), (.of 1)], res := F168.res, body := F168.b0, init := in14 }
theorem F168.ok : fnA Tryz.prog Tryz.f168 [0, 1, 2, 4, 5, 6, 7, 8, 16, 17, 18, 19, 20, 48] = some F168 := by kernel_rfl
abbrev F169.fr := fr10
def F169.b6 : IR := (iSr [.s (.iaddr 1 aT6 aT8), .s (.load aS0), iQm 5 0] (.reg [iSm 4, iSm 0, iSm 5, .s (.iaddr 1 aS1 aS0), .s (.load aS0), .w .push none (.bslice 1 1 [(I 0)] [(0, 1, aS0)]), .w .push none (.app 1 8 aS5 aS0), iQm 4 0]))
def F169.g5 (X6 : IR) : IR := (.block 1 X6)
def F169.b5 : IR := F169.g5 F169.b6
def F169.b7 : IR := (.reg [.s (.bin .add .int aT8 aC1), iQm 8 0])
def F169.g4 (X5 X7 : IR) : IR := (.seq X5 X7)
def F169.b4 : IR := F169.g4 F169.b5 F169.b7
def F169.g3 (X4 : IR) : IR := (iSr [iQo 9 (.bin .lss .int aT8 aT7)] (.seq (.cond aT9 .skip (.exit 0)) X4))
def F169.b3 : IR := F169.g3 F169.b4
def F169.g2 (X3 : IR) : IR := (.loop X3)
def F169.b2 : IR := F169.g2 F169.b3
def F169.g1 (X2 : IR) : IR := (.block 0 X2)
def F169.b1 : IR := F169.g1 F169.b2
def F169.b8 : IR := (iSr [iSm 4, iCa 91 [aS0]] (.seq (.dreg [] [(.s (.load aT2), 1, []), (iSm 4, 0, []), (.s (.build [.nils, (.bool false)] [(0, 1, aS0)]), 0, []), (iCa 123 [aS0], 0, []), (.s (.look .str (.bool false) false aS3 aS0), 0, []), (iQm 3 0, 0, [])]) .ret))
def F169.g0 (X1 X8 : IR) : IR := (iSr [iQo 3 (.mv (.c (.bool false)))] (iSr [iQo 4 (.mv (.c .nils))] (.seq (iSr [iQo 6 (.mv aT1), iQo 7 (.len aT6), iQo 8 (.mv aC0)] X1) X8)))
def F169.b0 : IR := F169.g0 F169.b1 F169.b8
def F169.res : List RV := [.t (.of 3)]
def F169 : Fn := { params := [(.of 0), (.of 1), (.of 2)], res := F169.res, body := F169.b0, init := in10 }
theorem F169.ok : fnA Tryz.prog Tryz.f169 [0, 1, 2, 5, 6, 8, 9, 10, 11, 12] = some F169 := by kernel_rfl
abbrev F174.fr := fr6
def F174.b2 : IR := (iSr [.s (.faddr 1 aT1), .s (.load aS0), .s (.bin .neq (.nil .sl) aS0 (.c .nils)), iQm 4 0] (.cond aT4 (.seq (.dreg [] [(.s (.faddr 0 aT1), 0, []), (.s (.load aS0), 0, []), (.s (.bin .lss .int aS0 aC0), 0, []), (.s (.faddr 1 aT1), 0, []), (.s (.load aS0), 0, []), (iQm 2 2, 0, []), (iQm 3 0, 0, [])]) .ret) (iSr [.s (.faddr 0 aT1), .s (.load aS0), .s (.bin .eql .int aS0 aC0), iQm 5 0] (.cond aT5 (iSr [iQo 2 (.mv (.c (.bool false))), iQo 3 (.mv (.c .nils))] .ret) .skip))))
def F174.g1 (X2 : IR) : IR := (.block 0 X2)
def F174.b1 : IR := F174.g1 F174.b2
def F174.b3 : IR := (.seq (.dreg [] [(.s (.faddr 0 aT1), 2, []), (.s (.load aS0), 2, []), (.s (.bin .lss .int aS0 aC0), 2, []), (.s (.faddr 0 aT1), 0, []), (.s (.load aS0), 0, []), (iCa 220 [aS0], 0, []), (iQm 2 3, 1, []), (.w .push none (.bslice 1 1 [(.int .u64 0)] [(0, 1, aS0)]), 0, []), (iQm 3 0, 0, [])]) .ret)
def F174.g0 (X1 X3 : IR) : IR := (iSr [iWl 1 (.box aT0), iQo 2 (.mv (.c (.bool false))), iQo 3 (.mv (.c .nils))] (.seq X1 X3))
def F174.b0 : IR := F174.g0 F174.b1 F174.b3
def F174.res : List RV := [.t (.of 2), .t (.of 3)]
def F174 : Fn := { params := [(.of 0)], res := F174.res, body := F174.b0, init := in6 }
theorem F174.ok : fnA Tryz.prog Tryz.f174 [0, 1, 2, 3, 4, 13] = some F174 := by kernel_rfl
abbrev F179.fr := fr14
def F179.b1 : IR := (iSr [iSm 6, .s (.conv .i64 aS0), .s (.build [(I 0), .nils] [(0, 1, aS0)]), .w .none none (.store 2 aT4 aS0)] .ret)
def F179.b2 : IR := (iSr [.s (.loadN 2 aT2), iCa 174 [aS0], .s (.mv aS0), .s (.ext 0 aS0), .s (.ext 1 aS1), iQm 7 1, iQm 8 0] (iSr [.s (.loadN 2 aT3), iCa 174 [aS0], .s (.mv aS0), .s (.ext 0 aS0), .s (.ext 1 aS1), iQm 9 1, iQm 10 0] (iSr [iSm 7, iSm 9, .s (.bin .neq .bool aS1 aS0), iSm 8, iSm 10, iCa 225 [aS1, aS0], iCa 175 [aS3, aS0], .w .none none (.store 2 aT4 aS0)] .ret)))
def F179.g0 (X1 X2 : IR) : IR := (iSr [iWl 2 (.box aT0), iWl 3 (.box aT1), iWl 4 (.alloc [(I 0), .nils])] (.seq (iSr [.s (.faddr 1 aT2), .s (.load aS0), .s (.bin .eql (.nil .sl) aS0 (.c .nils)), .s (.mv aS0), iPt 0 (.faddr 1 aT3), iPt 1 (.load aS0), iPt 2 (.bin .eql (.nil .sl) aS0 (.c .nils)), iQo 11 (.pick aS3 aS0 (.c (.bool false)))] (.cond aT11 (.seq (.dreg [] [(.s (.faddr 0 aT2), 0, []), (.s (.load aS0), 0, []), (.s (.faddr 0 aT3), 1, []), (.s (.load aS0), 1, []), (iCa 220 [aS2], 0, []), (iCa 220 [aS1], 0, []), (iCa 224 [aS1, aS0], 0, []), (.s (.mv aS0), 0, []), (.s (.ext 0 aS0), 0, []), (.s (.ext 1 aS1), 0, []), (iQm 5 1, 0, []), (iQm 6 0, 0, [])]) (iSr [iSm 5, .s (.bin .eql .int aS0 (.c (.int .u64 0))), .s (.mv aS0), iPt 0 (.mv aT6), iPt 1 (.bin .leq .int aS0 (.c (.int .u64 9223372036854775807))), iQo 12 (.pick aS2 aS0 (.c (.bool false)))] (.cond aT12 (.seq (iSr [.s (.faddr 0 aT2), .s (.load aS0), .s (.bin .lss .int aS0 aC0), .s (.faddr 0 aT3), .s (.load aS0), .s (.bin .lss .int aS0 aC0), iQo 13 (.bin .neq .bool aS3 aS0)] (.cond aT13 (iSr [iSm 6, .s (.conv .i64 aS0), .s (.neg aS0), .s (.build [(I 0), .nils] [(0, 1, aS0)]), .w .none none (.store 2 aT4 aS0)] .ret) .skip)) X1) .skip))) .skip)) X2))
def F179.b0 : IR := F179.g0 F179.b1 F179.b2
def F179.res : List RV := [.cell (.of 4) (some 2)]
def F179 : Fn := { params := [(.of 0), (.of 1)], res := F179.res, body := F179.b0, init := in14 }
theorem F179.ok : fnA Tryz.prog Tryz.f179 [0, 1, 2, 3, 4, 5, 6, 7, 8, 9, 10, 18, 34, 41] = some F179 := by kernel_rfl
abbrev F180.fr := fr3
def F180.b0 : IR := (iSr [iWl 1 (.box aT0), iQo 2 (.mv aC0)] (iSr [.s (.faddr 0 aT1), .s (.load aS0), .s (.minmax false aC1 [aS0]), .s (.minmax true (.c (I (-1))) [aS0]), iQm 2 0] .ret))
def F180.res : List RV := [.t (.of 2)]
def F180 : Fn := { params := [(.of 0)], res := F180.res, body := F180.b0, init := in3 }
theorem F180.ok : fnA Tryz.prog Tryz.f180 [0, 1, 2] = some F180 := by kernel_rfl
abbrev F182.fr := fr18
def F182.b1 : IR := (iSr [iSm 6, .s (.build [(I 0), .nils] [(0, 1, aS0)]), iSm 7, .s (.build [(I 0), .nils] [(0, 1, aS0)]), .w .none none (.store 2 aT4 aS2), .w .none none (.store 2 aT5 aS0)] .ret)
def F182.b3 : IR := (.seq (.dreg [] [(.s (.loadN 2 aT13), 0, []), (.s (.loadN 2 aT14), 1, []), (.w .none none (.store 2 aT4 aS1), 0, []), (.w .none none (.store 2 aT5 aS0), 0, [])]) .ret)
def F182.g2 (X3 : IR) : IR := (iSr [.s (.loadN 2 aT2), iCa 174 [aS0], .s (.mv aS0), .s (.ext 0 aS0), .s (.ext 1 aS1), iQm 8 1, iQm 9 0] (iSr [.s (.loadN 2 aT3), iCa 174 [aS0], .s (.mv aS0), .s (.ext 0 aS0), .s (.ext 1 aS1), .s (.mv aS1), iQm 10 1] (iSr [iSm 9, iSm 10, iCa 226 [aS1, aS0], .s (.mv aS0), .s (.ext 0 aS0), .s (.ext 1 aS1), iQm 11 1, iQm 12 0] (iSr [iSm 8, iSm 11, iCa 175 [aS1, aS0], iSm 8, iSm 12, iCa 175 [aS1, aS0], iWl 13 (.alloc [(I 0), .nils]), iWl 14 (.alloc [(I 0), .nils]), .w .none none (.store 2 aT13 aS3), .w .none none (.store 2 aT14 aS0)] (.seq (iSr [.s (.loadN 2 aT14), iCa 180 [aS0], iQo 17 (.bin .lss .int aS0 aC0)] (.cond aT17 (.dreg [] [(.s (.loadN 2 aT13), 1, []), (.s (.loadN 2 aT14), 2, []), (.s (.loadN 2 aT3), 2, []), (iCa 110 [aC1], 0, []), (iCa 227 [aS3, aS0], 0, []), (iCa 111 [aS3, aS2], 0, []), (.w .none none (.store 2 aT13 aS1), 0, []), (.w .none none (.store 2 aT14 aS0), 0, [])]) .skip)) X3)))))
def F182.b2 : IR := F182.g2 F182.b3
def F182.g0 (X1 X2 : IR) : IR := (iSr [iWl 2 (.box aT0), iWl 3 (.box aT1), iWl 4 (.alloc [(I 0), .nils]), iWl 5 (.alloc [(I 0), .nils])] (.seq (iSr [.s (.faddr 1 aT2), .s (.load aS0), .s (.bin .eql (.nil .sl) aS0 (.c .nils)), .s (.mv aS0), iPt 0 (.faddr 1 aT3), iPt 1 (.load aS0), iPt 2 (.bin .eql (.nil .sl) aS0 (.c .nils)), .s (.pick aS3 aS0 (.c (.bool false))), .s (.mv aS0), iPt 0 (.faddr 0 aT2), iPt 1 (.load aS0), iPt 2 (.bin .neq .int aS0 (.c (I (-9223372036854775808)))), iQo 15 (.pick aS3 aS0 (.c (.bool false)))] (.cond aT15 (.seq (.dreg [] [(.s (.faddr 0 aT2), 0, []), (.s (.load aS0), 0, []), (.s (.faddr 0 aT3), 0, []), (.s (.load aS0), 0, []), (.s (.bin .quo .int aS2 aS0), 0, []), (.s (.faddr 0 aT2), 0, []), (.s (.load aS0), 0, []), (.s (.faddr 0 aT3), 0, []), (.s (.load aS0), 0, []), (.s (.bin .rem .int aS2 aS0), 0, []), (iQm 6 5, 0, []), (iQm 7 0, 0, [])]) (.seq (iSr [iSm 7, iQo 16 (.bin .lss .int aS0 aC0)] (.cond aT16 (.dreg [] [(iSm 6, 0, []), (.s (.bin .sub .int aS0 aC1), 0, []), (iSm 7, 0, []), (.s (.faddr 0 aT3), 0, []), (.s (.load aS0), 0, []), (.s (.bin .add .int aS2 aS0), 0, []), (iQm 6 4, 0, []), (iQm 7 0, 0, [])]) .skip)) X1)) .skip)) X2))
def F182.b0 : IR := F182.g0 F182.b1 F182.b2
def F182.res : List RV := [.cell (.of 4) (some 2), .cell (.of 5) (some 2)]
def F182 : Fn := { params := [(.of 0), (.of 1)], res := F182.res, body := F182.b0, init := in18 }
theorem F182.ok : fnA Tryz.prog Tryz.f182 [0, 1, 2, 3, 4, 5, 6, 7, 8, 9, 11, 12, 13, 14, 15, 28, 40, 75] = some F182 := by kernel_rfl
abbrev F183.fr := fr3
def F183.b0 : IR := (iSr [iWl 1 (.box aT0), iQo 2 (.mv (.c (.bool false)))] (iSr [.s (.loadN 2 aT1), iCa 228 [aS0], .s (.bin .gtr .int aS0 aC1800), .s (.mv aS0), iPt 0 (.loadN 2 aT1), .w .push (some (aS1, true)) (.call (.c (.fn 185 (.of 185) [])) [aS0]), .w .push (some (aS2, true)) (.call (.c (.fn 229 (.of 229) [])) [aS0, (.c (.str [45]))]), iPt 3 (.slen aS0), iPt 4 (.bin .gtr .int aS0 aC600), .s (.pick aS5 aS0 (.c (.bool false))), iQm 2 0] .ret))
def F183.res : List RV := [.t (.of 2)]
def F183 : Fn := { params := [(.of 0)], res := F183.res, body := F183.b0, init := in3 }
theorem F183.ok : fnA Tryz.prog Tryz.f183 [0, 1, 2] = some F183 := by kernel_rfl
abbrev F184.fr := fr3
def F184.b0 : IR := (iSr [iWl 1 (.box aT0), iQo 2 (.mv (.c (.bool false)))] (iSr [.s (.faddr 2 aT1), .s (.faddr 1 aS0), .s (.load aS0), .s (.bin .eql (.nil .sl) aS0 (.c .nils)), .s (.mv aS0), iPt 0 (.faddr 2 aT1), iPt 1 (.faddr 0 aS0), iPt 2 (.load aS0), iPt 3 (.bin .eql .int aS0 aC1), .s (.pick aS4 aS0 (.c (.bool false))), iQm 2 0] .ret))
def F184.res : List RV := [.t (.of 2)]
def F184 : Fn := { params := [(.of 0)], res := F184.res, body := F184.b0, init := in3 }
theorem F184.ok : fnA Tryz.prog Tryz.f184 [0, 1, 2] = some F184 := by kernel_rfl
abbrev F185.fr := fr18
def F185.b8 : IR := (iSr [iSm 6, iSm 9, .w .push none (.bslice 1 1 [(.str [])] [(0, 1, aS0)]), .w .push none (.app 1 16 aS2 aS0), iQm 6 0] (.reg [iSm 7, iQm 4 0]))
def F185.g7 (X8 : IR) : IR := (.seq (iSr [iSm 7, .s (.len aS0), iQo 15 (.bin .gtr .int aS0 aC0)] (.cond aT15 (.reg [iSm 9, .s (.slen aS0), .s (.bin .sub .int aC18 aS0), .w .push none (.call (.c (.fn 232 (.of 232) [])) [(.c (.str [48])), aS0]), iSm 9, .s (.bin .add .str aS1 aS0), iQm 9 0]) .skip)) X8)
def F185.b7 : IR := F185.g7 F185.b8
def F185.g6 (X7 : IR) : IR := (iSr [iSm 4, iSm 5, iCa 226 [aS1, aS0], .s (.mv aS0), .s (.ext 0 aS0), .s (.ext 1 aS1), iQm 7 1, iQm 8 0] (iSr [iQo 9 (.mv (.c (.str [48])))] (.seq (iSr [iSm 8, .s (.len aS0), iQo 14 (.bin .gtr .int aS0 aC0)] (.cond aT14 (.reg [iSm 8, .s (.iaddr 1 aS0 aC0), .s (.load aS0), iCa 231 [aS0, aC10], iQm 9 0]) .skip)) X7)))
def F185.b6 : IR := F185.g6 F185.b7
def F185.g5 (X6 : IR) : IR := (.block 1 X6)
def F185.b5 : IR := F185.g5 F185.b6
def F185.g4 (X5 : IR) : IR := (.seq (iSr [iSm 4, .s (.len aS0), iQo 13 (.bin .gtr .int aS0 aC0)] (.cond aT13 .skip (.exit 0))) X5)
def F185.b4 : IR := F185.g4 F185.b5
def F185.g3 (X4 : IR) : IR := (.loop X4)
def F185.b3 : IR := F185.g3 F185.b4
def F185.g2 (X3 : IR) : IR := (.block 0 X3)
def F185.b2 : IR := F185.g2 F185.b3
def F185.b16 : IR := (.reg [iSm 6, iSm 11, .s (.iaddr 1 aS1 aS0), .s (.load aS0), iCa 233 [aT10, aS0]])
def F185.g15 (X16 : IR) : IR := (.block 3 X16)
def F185.b15 : IR := F185.g15 F185.b16
def F185.b17 : IR := (.reg [iSm 11, .s (.bin .sub .int aS0 aC1), iQm 11 0])
def F185.g14 (X15 X17 : IR) : IR := (.seq X15 X17)
def F185.b14 : IR := F185.g14 F185.b15 F185.b17
def F185.g13 (X14 : IR) : IR := (.seq (iSr [iSm 11, iQo 17 (.bin .geq .int aS0 aC0)] (.cond aT17 .skip (.exit 2))) X14)
def F185.b13 : IR := F185.g13 F185.b14
def F185.g12 (X13 : IR) : IR := (.loop X13)
def F185.b12 : IR := F185.g12 F185.b13
def F185.g11 (X12 : IR) : IR := (.block 2 X12)
def F185.b11 : IR := F185.g11 F185.b12
def F185.b18 : IR := (iSr [iCa 234 [aT10], iQm 2 0] .ret)
def F185.g10 (X11 X18 : IR) : IR := (.seq (iSr [iSm 6, .s (.len aS0), .s (.bin .sub .int aS0 aC1), iQm 11 0] X11) X18)
def F185.b10 : IR := F185.g10 F185.b11 F185.b18
def F185.g9 (X10 : IR) : IR := (iSr [iWl 10 (.alloc [.nilp, .nils])] (.seq (iSr [iQo 16 (.mv aT3)] (.cond aT16 (.reg [.w .push none (.call (.c (.fn 233 (.of 233) [])) [aT10, (.c (.str [45]))])]) .skip)) X10))
def F185.b9 : IR := F185.g9 F185.b10
def F185.g1 (X2 X9 : IR) : IR := (iSr [.s (.loadN 2 aT1), iCa 174 [aS0], .s (.mv aS0), .s (.ext 0 aS0), .s (.ext 1 aS1), iQm 3 1, iQm 4 0] (iSr [.w .push none (.bslice 1 1 [(.int .u64 0)] [(0, 1, (.c (.int .u64 1000000000000000000)))]), iQm 5 0] (iSr [iQo 6 (.mv (.c .nils))] (.seq X2 X9))))
def F185.b1 : IR := F185.g1 F185.b2 F185.b9
def F185.g0 (X1 : IR) : IR := (iSr [iWl 1 (.box aT0), iQo 2 (.mv (.c (.str [])))] (.seq (iSr [.s (.faddr 1 aT1), .s (.load aS0), iQo 12 (.bin .eql (.nil .sl) aS0 (.c .nils))] (.cond aT12 (iSr [.s (.faddr 0 aT1), .s (.load aS0), iCa 230 [aS0], iQm 2 0] .ret) .skip)) X1))
def F185.b0 : IR := F185.g0 F185.b1
def F185.res : List RV := [.t (.of 2)]
def F185 : Fn := { params := [(.of 0)], res := F185.res, body := F185.b0, init := in18 }
theorem F185.ok : fnA Tryz.prog Tryz.f185 [0, 1, 2, 3, 4, 5, 6, 7, 8, 9, 10, 11, 14, 26, 35, 42, 54, 60] = some F185 := by kernel_rfl
abbrev F197.fr := fr8
def F197.b6 : IR := (iSr [iSm 5, iQm 3 0] (iSr [iSm 1, iSm 0, iSm 3, .s (.iaddr 1 aS1 aS0), .s (.load aS0), iWl 7 (.call aS4 [aS0])] (.cond aT7 (iSr [iSm 3, iQm 2 0] .ret) .skip)))
def F197.g5 (X6 : IR) : IR := (.block 1 X6)
def F197.b5 : IR := F197.g5 F197.b6
def F197.b7 : IR := (.reg [.s (.bin .add .int aT5 aC1), iQm 5 0])
def F197.g4 (X5 X7 : IR) : IR := (.seq X5 X7)
def F197.b4 : IR := F197.g4 F197.b5 F197.b7
def F197.g3 (X4 : IR) : IR := (iSr [iQo 6 (.bin .lss .int aT5 aT4)] (.seq (.cond aT6 .skip (.exit 0)) X4))
def F197.b3 : IR := F197.g3 F197.b4
def F197.g2 (X3 : IR) : IR := (.loop X3)
def F197.b2 : IR := F197.g2 F197.b3
def F197.g1 (X2 : IR) : IR := (.block 0 X2)
def F197.b1 : IR := F197.g1 F197.b2
def F197.b8 : IR := (iSr [iQo 2 (.mv (.c (I (-1))))] .ret)
def F197.g0 (X1 X8 : IR) : IR := (iSr [iQo 2 (.mv aC0)] (.seq (iSr [iSm 0, iQo 4 (.len aS0), iQo 5 (.mv aC0)] X1) X8))
def F197.b0 : IR := F197.g0 F197.b1 F197.b8
def F197.res : List RV := [.t (.of 2)]
def F197 : Fn := { params := [(.of 0), (.of 1)], res := F197.res, body := F197.b0, init := in8 }
theorem F197.ok : fnA Tryz.prog Tryz.f197 [0, 1, 4, 5, 7, 8, 9, 16] = some F197 := by kernel_rfl
abbrev F198.fr := fr10
def F198.b8 : IR := (.reg [iSm 2, iSm 3, .s (.iaddr 1 aS1 aS0), .w .none none (.store 1 aS0 (.c (.bool true)))])
def F198.g7 (X8 : IR) : IR := (iSr [.s (.iaddr 1 aT5 aT7), .s (.load aS0), iQm 3 0] (.seq (iSr [iSm 3, .s (.bin .lss .int aS0 aC0), .s (.mv aS0), iPf 0 (.mv aT3), iPf 1 (.mv aT0), iPf 2 (.len aS0), iPf 3 (.bin .geq .int aS2 aS0), .s (.pick aS4 (.c (.bool true)) aS0), .s (.mv aS0), iPf 0 (.mv aT2), iPf 1 (.mv aT3), iPf 2 (.iaddr 1 aS1 aS0), iPf 3 (.load aS0), iQo 9 (.pick aS4 (.c (.bool true)) aS0)] (.cond aT9 (iSr [iQo 1 (.mv aC14)] .ret) .skip)) X8))
def F198.b7 : IR := F198.g7 F198.b8
def F198.g6 (X7 : IR) : IR := (.block 1 X7)
def F198.b6 : IR := F198.g6 F198.b7
def F198.b9 : IR := (.reg [.s (.bin .add .int aT7 aC1), iQm 7 0])
def F198.g5 (X6 X9 : IR) : IR := (.seq X6 X9)
def F198.b5 : IR := F198.g5 F198.b6 F198.b9
def F198.g4 (X5 : IR) : IR := (iSr [iQo 8 (.bin .lss .int aT7 aT6)] (.seq (.cond aT8 .skip (.exit 0)) X5))
def F198.b4 : IR := F198.g4 F198.b5
def F198.g3 (X4 : IR) : IR := (.loop X4)
def F198.b3 : IR := F198.g3 F198.b4
def F198.g2 (X3 : IR) : IR := (.block 0 X3)
def F198.b2 : IR := F198.g2 F198.b3
def F198.b10 : IR := (iSr [iQo 1 (.mv aC0)] .ret)
def F198.g1 (X2 X10 : IR) : IR := (iSr [iSm 0, .s (.len aS0), .w .push none (.mkslice 1 1 [(.bool false)] aS0 aS0), iQm 2 0] (.seq (iSr [iQo 5 (.mv aT0), iQo 6 (.len aT5), iQo 7 (.mv aC0)] X2) X10))
def F198.b1 : IR := F198.g1 F198.b2 F198.b10
def F198.g0 (X1 : IR) : IR := (iSr [iQo 1 (.mv aC0)] (.seq (iSr [iSm 0, .s (.len aS0), iQo 4 (.bin .gtr .int aS0 aC256)] (.cond aT4 (iSr [iQo 1 (.mv aC5)] .ret) .skip)) X1))
def F198.b0 : IR := F198.g0 F198.b1
def F198.res : List RV := [.t (.of 1)]
def F198 : Fn := { params := [(.of 0)], res := F198.res, body := F198.b0, init := in10 }
theorem F198.ok : fnA Tryz.prog Tryz.f198 [0, 2, 3, 5, 8, 12, 13, 14, 15, 31] = some F198 := by kernel_rfl
abbrev F200.fr := fr3
def F200.b0 : IR := (iSr [iSm 0, .s (.len aS0), iQm 2 0] (.reg [iSm 0, iSm 2, iSm 2, .s (.conv .u64 aS0), iCa 161 [aS0], iSm 1, iCa 243 [aS5, aC0, aS4, aS1, aS0]]))
def F200.res : List RV := []
def F200 : Fn := { params := [(.of 0), (.of 1)], res := F200.res, body := F200.b0, init := in3 }
theorem F200.ok : fnA Tryz.prog Tryz.f200 [0, 1, 4] = some F200 := by kernel_rfl
abbrev F201.fr := fr14
def F201.b7 : IR := (iSr [iSm 1, iSm 3, .s (.iaddr 1 aS1 aS0), .s (.load aS0), iQm 5 0] (iSr [iSm 4, iSm 5, iCa 244 [aS1, aS0], iQm 6 0] (iSr [iSm 6, iQo 12 (.bin .neq .int aS0 aC0)] (.cond aT12 (iSr [iSm 6, iQm 2 0] .ret) .skip))))
def F201.g6 (X7 : IR) : IR := (iSr [iSm 9, .s (.iaddr 1 aT7 aT9), .s (.load aS0), iQm 3 2, iQm 4 0] (.seq (iSr [iSm 3, iSm 1, .s (.len aS0), iQo 11 (.bin .geq .int aS2 aS0)] (.cond aT11 (iSr [iQo 2 (.mv aC1)] .ret) .skip)) X7))
def F201.b6 : IR := F201.g6 F201.b7
def F201.g5 (X6 : IR) : IR := (.block 1 X6)
def F201.b5 : IR := F201.g5 F201.b6
def F201.b8 : IR := (.reg [.s (.bin .add .int aT9 aC1), iQm 9 0])
def F201.g4 (X5 X8 : IR) : IR := (.seq X5 X8)
def F201.b4 : IR := F201.g4 F201.b5 F201.b8
def F201.g3 (X4 : IR) : IR := (iSr [iQo 10 (.bin .lss .int aT9 aT8)] (.seq (.cond aT10 .skip (.exit 0)) X4))
def F201.b3 : IR := F201.g3 F201.b4
def F201.g2 (X3 : IR) : IR := (.loop X3)
def F201.b2 : IR := F201.g2 F201.b3
def F201.g1 (X2 : IR) : IR := (.block 0 X2)
def F201.b1 : IR := F201.g1 F201.b2
def F201.b10 : IR := (iSr [iQo 2 (.mv aC0)] .ret)
def F201.g9 (X10 : IR) : IR := (.seq (iSr [iSm 0, .s (.len aS0), iSm 1, .s (.len aS0), iQo 13 (.bin .lss .int aS2 aS0)] (.cond aT13 (iSr [iQo 2 (.mv (.c (I (-1))))] .ret) .skip)) X10)
def F201.b9 : IR := F201.g9 F201.b10
def F201.g0 (X1 X9 : IR) : IR := (iSr [iQo 2 (.mv aC0)] (.seq (iSr [iQo 7 (.mv aT0), iQo 8 (.len aT7), iQo 9 (.mv aC0)] X1) X9))
def F201.b0 : IR := F201.g0 F201.b1 F201.b9
def F201.res : List RV := [.t (.of 2)]
def F201 : Fn := { params := [(.of 0), (.of 1)], res := F201.res, body := F201.b0, init := in14 }
theorem F201.ok : fnA Tryz.prog Tryz.f201 [0, 1, 4, 5, 6, 7, 8, 9, 10, 11, 12, 19, 28, 35] = some F201 := by kernel_rfl
abbrev F202.fr := fr11
def F202.b13 : IR := (.seq (.dreg [] [(iSm 1, 0, []), (iSm 4, 0, []), (iSm 5, 0, []), (.s (.iaddr 1 aS1 aS0), 0, []), (.s (.load aS0), 0, []), (iSm 4, 0, []), (iSm 5, 0, []), (.s (.bin .sub .int aS0 aC1), 0, []), (.s (.iaddr 1 aS2 aS0), 0, []), (.s (.load aS0), 0, []), (.w .push none (.call aS9 [aS5, aS0]), 0, []), (iQo 10 (.not aS0), 0, [])]) (.cond aT10 (iSr [iSm 0, iSm 3, iSm 4, iSm 5, .s (.iaddr 1 aS1 aS0), .s (.load aS0), .s (.iaddr 1 aS5 aS4), .w .none none (.store 1 aS0 aS1)] (.reg [iSm 3, .s (.bin .add .int aS0 aC1), iQm 3 0])) .skip))
def F202.g12 (X13 : IR) : IR := (.block 3 X13)
def F202.b12 : IR := F202.g12 F202.b13
def F202.b14 : IR := (.reg [iSm 5, .s (.bin .add .int aS0 aC1), iQm 5 0])
def F202.g11 (X12 X14 : IR) : IR := (.seq X12 X14)
def F202.b11 : IR := F202.g11 F202.b12 F202.b14
def F202.g10 (X11 : IR) : IR := (.seq (iSr [iSm 5, iSm 4, .s (.len aS0), iQo 9 (.bin .lss .int aS2 aS0)] (.cond aT9 .skip (.exit 2))) X11)
def F202.b10 : IR := F202.g10 F202.b11
def F202.g9 (X10 : IR) : IR := (.loop X10)
def F202.b9 : IR := F202.g9 F202.b10
def F202.g8 (X9 : IR) : IR := (.block 2 X9)
def F202.b8 : IR := F202.g8 F202.b9
def F202.b15 : IR := (iSr [iSm 0, iSm 3, .s (.slice 1 aS1 (some aS0) none none), .w .none none (.clr 1 [.nils] aS0)] (iSr [iSm 0, iSm 3, .s (.slice 1 aS1 none (some aS0) none), iQm 2 0] .ret))
def F202.g7 (X8 X15 : IR) : IR := (.seq (.dreg [] [(iSm 1, 0, []), (iSm 0, 0, []), (iSm 3, 0, []), (.s (.iaddr 1 aS1 aS0), 0, []), (.s (.load aS0), 0, []), (iSm 0, 0, []), (iSm 3, 0, []), (.s (.bin .sub .int aS0 aC1), 0, []), (.s (.iaddr 1 aS2 aS0), 0, []), (.s (.load aS0), 0, []), (iWl 8 (.call aS9 [aS5, aS0]), 0, [])]) (.cond aT8 (iSr [iSm 0, iSm 3, .s (.slice 1 aS1 (some aS0) none none), iQm 4 0] (.seq (iSr [iQo 5 (.mv aC1)] X8) X15)) .skip))
def F202.b7 : IR := F202.g7 F202.b8 F202.b15
def F202.g6 (X7 : IR) : IR := (.block 1 X7)
def F202.b6 : IR := F202.g6 F202.b7
def F202.b16 : IR := (.reg [iSm 3, .s (.bin .add .int aS0 aC1), iQm 3 0])
def F202.g5 (X6 X16 : IR) : IR := (.seq X6 X16)
def F202.b5 : IR := F202.g5 F202.b6 F202.b16
def F202.g4 (X5 : IR) : IR := (.seq (iSr [iSm 3, iSm 0, .s (.len aS0), iQo 7 (.bin .lss .int aS2 aS0)] (.cond aT7 .skip (.exit 0))) X5)
def F202.b4 : IR := F202.g4 F202.b5
def F202.g3 (X4 : IR) : IR := (.loop X4)
def F202.b3 : IR := F202.g3 F202.b4
def F202.g2 (X3 : IR) : IR := (.block 0 X3)
def F202.b2 : IR := F202.g2 F202.b3
def F202.b17 : IR := (iSr [iSm 0, iQm 2 0] .ret)
def F202.g1 (X2 X17 : IR) : IR := (.seq (iSr [iQo 3 (.mv aC1)] X2) X17)
def F202.b1 : IR := F202.g1 F202.b2 F202.b17
def F202.g0 (X1 : IR) : IR := (iSr [iQo 2 (.mv (.c .nils))] (.seq (iSr [iSm 0, .s (.len aS0), iQo 6 (.bin .lss .int aS0 aC2)] (.cond aT6 (iSr [iSm 0, iQm 2 0] .ret) .skip)) X1))
def F202.b0 : IR := F202.g0 F202.b1
def F202.res : List RV := [.t (.of 2)]
def F202 : Fn := { params := [(.of 0), (.of 1)], res := F202.res, body := F202.b0, init := in11 }
theorem F202.ok : fnA Tryz.prog Tryz.f202 [0, 1, 4, 5, 6, 7, 10, 15, 28, 35, 49] = some F202 := by kernel_rfl
abbrev F203.fr := fr7
def F203.b12 : IR := (.dreg [] [(iSm 0, 0, []), (iSm 4, 0, []), (iSm 0, 1, []), (iSm 4, 1, []), (.s (.bin .sub .int aS0 aC1), 1, []), (iSm 0, 0, []), (iSm 4, 0, []), (.s (.bin .sub .int aS0 aC1), 0, []), (.s (.iaddr 1 aS2 aS0), 0, []), (.s (.load aS0), 0, []), (iSm 0, 0, []), (iSm 4, 0, []), (.s (.iaddr 1 aS1 aS0), 0, []), (.s (.load aS0), 0, []), (.s (.iaddr 1 aS13 aS12), 0, []), (.w .none none (.store 1 aS0 aS5), 0, []), (.s (.iaddr 1 aS12 aS10), 0, []), (.w .none none (.store 1 aS0 aS2), 0, [])])
def F203.g11 (X12 : IR) : IR := (.block 3 X12)
def F203.b11 : IR := F203.g11 F203.b12
def F203.b13 : IR := (.reg [iSm 4, .s (.bin .sub .int aS0 aC1), iQm 4 0])
def F203.g10 (X11 X13 : IR) : IR := (.seq X11 X13)
def F203.b10 : IR := F203.g10 F203.b11 F203.b13
def F203.g9 (X10 : IR) : IR := (.seq (.seq (.dreg [] [(iSm 4, 0, []), (iSm 1, 0, []), (.s (.bin .gtr .int aS1 aS0), 0, []), (.s (.mv aS0), 0, []), (iPt 0 (.mv aT0), 0, []), (iPt 1 (.mv aT4), 0, []), (iPt 2 (.iaddr 1 aS1 aS0), 0, []), (iPt 3 (.load aS0), 0, []), (iPt 4 (.mv aT0), 0, []), (iPt 5 (.mv aT4), 0, []), (iPt 6 (.bin .sub .int aS0 aC1), 0, []), (iPt 7 (.iaddr 1 aS2 aS0), 0, []), (iPt 8 (.load aS0), 0, []), (.w .push (some (aS9, true)) (.call (.c (.fn 209 (.of 209) [])) [aS5, aS0]), 0, []), (iQo 6 (.pick aS10 aS0 (.c (.bool false))), 0, [])]) (.cond aT6 .skip (.exit 2))) X10)
def F203.b9 : IR := F203.g9 F203.b10
def F203.g8 (X9 : IR) : IR := (.loop X9)
def F203.b8 : IR := F203.g8 F203.b9
def F203.g7 (X8 : IR) : IR := (.block 2 X8)
def F203.b7 : IR := F203.g7 F203.b8
def F203.g6 (X7 : IR) : IR := (iSr [iSm 3, iQm 4 0] X7)
def F203.b6 : IR := F203.g6 F203.b7
def F203.g5 (X6 : IR) : IR := (.block 1 X6)
def F203.b5 : IR := F203.g5 F203.b6
def F203.b14 : IR := (.reg [iSm 3, .s (.bin .add .int aS0 aC1), iQm 3 0])
def F203.g4 (X5 X14 : IR) : IR := (.seq X5 X14)
def F203.b4 : IR := F203.g4 F203.b5 F203.b14
def F203.g3 (X4 : IR) : IR := (.seq (iSr [iSm 3, iSm 2, iQo 5 (.bin .lss .int aS1 aS0)] (.cond aT5 .skip (.exit 0))) X4)
def F203.b3 : IR := F203.g3 F203.b4
def F203.g2 (X3 : IR) : IR := (.loop X3)
def F203.b2 : IR := F203.g2 F203.b3
def F203.g1 (X2 : IR) : IR := (.block 0 X2)
def F203.b1 : IR := F203.g1 F203.b2
def F203.g0 (X1 : IR) : IR := (iSr [iSm 1, .s (.bin .add .int aS0 aC1), iQm 3 0] X1)
def F203.b0 : IR := F203.g0 F203.b1
def F203.res : List RV := []
def F203 : Fn := { params := [(.of 0), (.of 1), (.of 2)], res := F203.res, body := F203.b0, init := in7 }
theorem F203.ok : fnA Tryz.prog Tryz.f203 [0, 1, 2, 6, 7, 12, 30] = some F203 := by kernel_rfl
abbrev F209.fr := fr3
def F209.b0 : IR := (iSr [iQo 2 (.mv (.c (.bool false)))] (iSr [iSm 0, iCa 250 [aS0], .s (.mv aS0), iPt 0 (.mv aT1), .w .push (some (aS1, true)) (.call (.c (.fn 250 (.of 250) [])) [aS0]), iPt 2 (.not aS0), .s (.pick aS3 aS0 (.c (.bool false))), .s (.mv aS0), iPf 0 (.mv aT0), iPf 1 (.mv aT1), iPf 2 (.bin .lss .int aS1 aS0), .s (.pick aS3 (.c (.bool true)) aS0), iQm 2 0] .ret))
def F209.res : List RV := [.t (.of 2)]
def F209 : Fn := { params := [(.of 0), (.of 1)], res := F209.res, body := F209.b0, init := in3 }
theorem F209.ok : fnA Tryz.prog Tryz.f209 [0, 1, 4] = some F209 := by kernel_rfl
abbrev F213.fr := fr5
def F213.b3 : IR := (iSr [iSm 1, iSm 0, .s (.conv .u8 aS0), .s (.sidx (.c (.str [0, 1, 2, 2, 3, 3, 3, 3, 4, 4, 4, 4, 4, 4, 4, 4, 5, 5, 5, 5, 5, 5, 5, 5, 5, 5, 5, 5, 5, 5, 5, 5, 6, 6, 6, 6, 6, 6, 6, 6, 6, 6, 6, 6, 6, 6, 6, 6, 6, 6, 6, 6, 6, 6, 6, 6, 6, 6, 6, 6, 6, 6, 6, 6, 7, 7, 7, 7, 7, 7, 7, 7, 7, 7, 7, 7, 7, 7, 7, 7, 7, 7, 7, 7, 7, 7, 7, 7, 7, 7, 7, 7, 7, 7, 7, 7, 7, 7, 7, 7, 7, 7, 7, 7, 7, 7, 7, 7, 7, 7, 7, 7, 7, 7, 7, 7, 7, 7, 7, 7, 7, 7, 7, 7, 7, 7, 7, 7, 8, 8, 8, 8, 8, 8, 8, 8, 8, 8, 8, 8, 8, 8, 8, 8, 8, 8, 8, 8, 8, 8, 8, 8, 8, 8, 8, 8, 8, 8, 8, 8, 8, 8, 8, 8, 8, 8, 8, 8, 8, 8, 8, 8, 8, 8, 8, 8, 8, 8, 8, 8, 8, 8, 8, 8, 8, 8, 8, 8, 8, 8, 8, 8, 8, 8, 8, 8, 8, 8, 8, 8, 8, 8, 8, 8, 8, 8, 8, 8, 8, 8, 8, 8, 8, 8, 8, 8, 8, 8, 8, 8, 8, 8, 8, 8, 8, 8, 8, 8, 8, 8, 8, 8, 8, 8, 8, 8, 8, 8, 8, 8, 8, 8, 8, 8, 8, 8, 8, 8, 8, 8, 8, 8, 8, 8, 8, 8])) aS0), .s (.conv .i64 aS0), .s (.bin .add .int aS4 aS0), iQm 1 0] .ret)
def F213.g2 (X3 : IR) : IR := (.seq (iSr [iSm 0, iQo 4 (.bin .geq .int aS0 (.c (.int .u64 256)))] (.cond aT4 (iSr [iSm 0, .s (.bin .shr .int aS0 (.c (.int .u64 8))), iQm 0 0] (.reg [iSm 1, .s (.bin .add .int aS0 aC8), iQm 1 0])) .skip)) X3)
def F213.b2 : IR := F213.g2 F213.b3
def F213.g1 (X2 : IR) : IR := (.seq (iSr [iSm 0, iQo 3 (.bin .geq .int aS0 (.c (.int .u64 65536)))] (.cond aT3 (iSr [iSm 0, .s (.bin .shr .int aS0 (.c (.int .u64 16))), iQm 0 0] (.reg [iSm 1, .s (.bin .add .int aS0 aC16), iQm 1 0])) .skip)) X2)
def F213.b1 : IR := F213.g1 F213.b2
def F213.g0 (X1 : IR) : IR := (iSr [iQo 1 (.mv aC0)] (.seq (iSr [iSm 0, iQo 2 (.bin .geq .int aS0 (.c (.int .u64 4294967296)))] (.cond aT2 (iSr [iSm 0, .s (.bin .shr .int aS0 (.c (.int .u64 32))), iQm 0 0] (.reg [iQo 1 (.mv aC32)])) .skip)) X1))
def F213.b0 : IR := F213.g0 F213.b1
def F213.res : List RV := [.t (.of 1)]
def F213 : Fn := { params := [(.of 0)], res := F213.res, body := F213.b0, init := in5 }
theorem F213.ok : fnA Tryz.prog Tryz.f213 [0, 2, 4, 8, 14] = some F213 := by kernel_rfl
abbrev F215.fr := fr4
def F215.b0 : IR := (iSr [iQo 3 (.mv (.c (.bool false)))] (iSr [iSm 0, .s (.load aT1), .s (.bin .lss .int aS1 aS0), .s (.mv aS0), iPf 0 (.mv aT0), iPf 1 (.load aT2), iPf 2 (.bin .gtr .int aS1 aS0), .s (.pick aS3 (.c (.bool true)) aS0), iQm 3 0] .ret))
def F215.res : List RV := [.t (.of 3)]
def F215 : Fn := { params := [(.of 0), (.of 1), (.of 2)], res := F215.res, body := F215.b0, init := in4 }
theorem F215.ok : fnA Tryz.prog Tryz.f215 [0, 1, 2, 4] = some F215 := by kernel_rfl
abbrev F216.fr := fr3
def F216.b0 : IR := (iSr [iQo 2 (.mv (.c (.bool false)))] (iSr [iSm 0, iSm 1, iCa 259 [aS1, aS0], .s (.bin .geq .int aS0 aC0), iQm 2 0] .ret))
def F216.res : List RV := [.t (.of 2)]
def F216 : Fn := { params := [(.of 0), (.of 1)], res := F216.res, body := F216.b0, init := in3 }
theorem F216.ok : fnA Tryz.prog Tryz.f216 [0, 1, 4] = some F216 := by kernel_rfl
abbrev F217.fr := fr3
def F217.b0 : IR := (iSr [iQo 2 (.mv (.c (.bool false)))] (iSr [iSm 0, .s (.load aT1), iCa 158 [aS1, aS0], iQm 2 0] .ret))
def F217.res : List RV := [.t (.of 2)]
def F217 : Fn := { params := [(.of 0), (.of 1)], res := F217.res, body := F217.b0, init := in3 }
theorem F217.ok : fnA Tryz.prog Tryz.f217 [0, 1, 3] = some F217 := by kernel_rfl
abbrev F220.fr := fr3
def F220.b1 : IR := (iSr [iSm 0, .s (.conv .u64 aS0), iQm 1 0] .ret)
def F220.g0 (X1 : IR) : IR := (iSr [iQo 1 (.mv (.c (.int .u64 0)))] (.seq (iSr [iSm 0, iQo 2 (.bin .lss .int aS0 aC0)] (.cond aT2 (iSr [iSm 0, .s (.neg aS0), .s (.conv .u64 aS0), iQm 1 0] .ret) .skip)) X1))
def F220.b0 : IR := F220.g0 F220.b1
def F220.res : List RV := [.t (.of 1)]
def F220 : Fn := { params := [(.of 0)], res := F220.res, body := F220.b0, init := in3 }
theorem F220.ok : fnA Tryz.prog Tryz.f220 [0, 2, 4] = some F220 := by kernel_rfl
abbrev F224.fr := fr12
def F224.b0 : IR := (iSr [iQo 2 (.mv (.c (.int .u64 0))), iQo 3 (.mv (.c (.int .u64 0)))] (iSr [iSm 0, .s (.bin .and .int aS0 (.c (.int .u64 4294967295))), iQm 4 0] (iSr [iSm 0, .s (.bin .shr .int aS0 (.c (.int .u64 32))), iQm 5 0] (iSr [iSm 1, .s (.bin .and .int aS0 (.c (.int .u64 4294967295))), iQm 6 0] (iSr [iSm 1, .s (.bin .shr .int aS0 (.c (.int .u64 32))), iQm 7 0] (iSr [iSm 4, iSm 6, .s (.bin .mul .int aS1 aS0), iQm 8 0] (iSr [iSm 5, iSm 6, .s (.bin .mul .int aS1 aS0), iSm 8, .s (.bin .shr .int aS0 (.c (.int .u64 32))), .s (.bin .add .int aS2 aS0), iQm 9 0] (iSr [iSm 9, .s (.bin .and .int aS0 (.c (.int .u64 4294967295))), iQm 10 0] (iSr [iSm 9, .s (.bin .shr .int aS0 (.c (.int .u64 32))), iQm 11 0] (iSr [iSm 10, iSm 4, iSm 7, .s (.bin .mul .int aS1 aS0), .s (.bin .add .int aS3 aS0), iQm 10 0] (iSr [iSm 5, iSm 7, .s (.bin .mul .int aS1 aS0), iSm 11, .s (.bin .add .int aS1 aS0), iSm 10, .s (.bin .shr .int aS0 (.c (.int .u64 32))), .s (.bin .add .int aS2 aS0), iQm 2 0] (iSr [iSm 0, iSm 1, .s (.bin .mul .int aS1 aS0), iQm 3 0] .ret))))))))))))
def F224.res : List RV := [.t (.of 2), .t (.of 3)]
def F224 : Fn := { params := [(.of 0), (.of 1)], res := F224.res, body := F224.b0, init := in12 }
theorem F224.ok : fnA Tryz.prog Tryz.f224 [0, 1, 4, 5, 6, 7, 8, 9, 10, 11, 12, 13] = some F224 := by kernel_rfl
abbrev F228.fr := fr5
def F228.b1 : IR := (iSr [iSm 3, .s (.len aS0), .s (.bin .sub .int aS0 aC1), .s (.bin .mul .int aC64 aS0), iSm 3, iSm 3, .s (.len aS0), .s (.bin .sub .int aS0 aC1), .s (.iaddr 1 aS3 aS0), .s (.load aS0), iCa 213 [aS0], .s (.bin .add .int aS7 aS0), iQm 2 0] .ret)
def F228.g0 (X1 : IR) : IR := (iSr [iWl 1 (.box aT0), iQo 2 (.mv aC0)] (iSr [.s (.loadN 2 aT1), iCa 174 [aS0], .s (.mv aS0), .s (.ext 0 aS0), .s (.ext 1 aS1), .s (.mv aS1), iQm 3 1] (.seq (iSr [iSm 3, .s (.len aS0), iQo 4 (.bin .eql .int aS0 aC0)] (.cond aT4 (iSr [iQo 2 (.mv aC0)] .ret) .skip)) X1)))
def F228.b0 : IR := F228.g0 F228.b1
def F228.res : List RV := [.t (.of 2)]
def F228 : Fn := { params := [(.of 0)], res := F228.res, body := F228.b0, init := in5 }
theorem F228.ok : fnA Tryz.prog Tryz.f228 [0, 1, 2, 4, 12] = some F228 := by kernel_rfl
abbrev F230.fr := fr2
def F230.b0 : IR := (iSr [iQo 1 (.mv (.c (.str [])))] (iSr [iSm 0, iCa 265 [aS0], iQm 1 0] .ret))
def F230.res : List RV := [.t (.of 1)]
def F230 : Fn := { params := [(.of 0)], res := F230.res, body := F230.b0, init := in2 }
theorem F230.ok : fnA Tryz.prog Tryz.f230 [0, 2] = some F230 := by kernel_rfl
abbrev F243.fr := fr24
def F243.b10 : IR := (iSr [iSm 0, iSm 1, iSm 2, iSm 8, iSm 4, iCa 280 [aS4, aS3, aS2, aS1, aS0], .s (.mv aS0), .s (.ext 0 aS0), .s (.ext 1 aS1), iQm 11 1, iQm 12 0] (iSr [iSm 12, iQm 6 0] (iSr [iSm 11, iSm 1, .s (.bin .sub .int aS1 aS0), iSm 2, iSm 11, .s (.bin .sub .int aS1 aS0), iQm 13 3, iQm 14 0] (iSr [iSm 7, .s (.bin .quo .int aS0 aC8), iQm 15 0] (iSr [iSm 13, iSm 14, iQo 23 (.bin .lss .int aS1 aS0)] (.cond aT23 (iSr [iSm 13, iSm 15, .s (.bin .geq .int aS1 aS0), iQm 5 0] (iSr [iSm 0, iSm 1, iSm 11, iSm 3, iSm 4, iCa 243 [aS4, aS3, aS2, aS1, aS0]] (.reg [iSm 11, .s (.bin .add .int aS0 aC1), iQm 1 0]))) (iSr [iSm 14, iSm 15, .s (.bin .geq .int aS1 aS0), iQm 5 0] (iSr [iSm 0, iSm 11, .s (.bin .add .int aS0 aC1), iSm 2, iSm 3, iSm 4, iCa 243 [aS5, aS3, aS2, aS1, aS0]] (.reg [iSm 11, iQm 2 0])))))))))
def F243.g9 (X10 : IR) : IR := (.seq (.seq (.dreg [] [(iSm 1, 0, []), (.s (.bin .gtr .int aS0 aC0), 0, []), (.s (.mv aS0), 0, []), (iPt 0 (.mv aT4), 0, []), (iPt 1 (.mv aT0), 0, []), (iPt 2 (.mv aT1), 0, []), (iPt 3 (.bin .sub .int aS0 aC1), 0, []), (iPt 4 (.iaddr 1 aS2 aS0), 0, []), (iPt 5 (.load aS0), 0, []), (iPt 6 (.mv aT0), 0, []), (iPt 7 (.mv aT8), 0, []), (iPt 8 (.iaddr 1 aS1 aS0), 0, []), (iPt 9 (.load aS0), 0, []), (.w .push (some (aS10, true)) (.call aS9 [aS4, aS0]), 0, []), (iPt 11 (.bin .lss .int aS0 aC0), 0, []), (iPt 12 (.not aS0), 0, []), (iQo 22 (.pick aS13 aS0 (.c (.bool false))), 0, [])]) (.cond aT22 (iSr [iSm 0, iSm 1, iSm 2, iSm 8, iSm 4, iCa 279 [aS4, aS3, aS2, aS1, aS0], iQm 10 0] (iSr [iSm 10, iQm 1 0] (.exit 1))) .skip)) X10)
def F243.b9 : IR := F243.g9 F243.b10
def F243.g8 (X9 : IR) : IR := (.seq (iSr [iSm 5, .s (.mv aS0), iPt 0 (.mv aT6), .s (.pick aS1 aS0 (.c (.bool false))), .s (.mv aS0), iPt 0 (.mv aT9), iPt 1 (.bin .eql .int aS0 aC1), iQo 20 (.pick aS2 aS0 (.c (.bool false)))] (.cond aT20 (iSr [iSm 0, iSm 1, iSm 2, iSm 4, iWl 21 (.call (.c (.fn 278 (.of 278) [])) [aS3, aS2, aS1, aS0])] (.cond aT21 .ret .skip)) .skip)) X9)
def F243.b8 : IR := F243.g8 F243.b9
def F243.g7 (X8 : IR) : IR := (iSr [iSm 0, iSm 1, iSm 2, iSm 4, iCa 276 [aS3, aS2, aS1, aS0], .s (.mv aS0), .s (.ext 0 aS0), .s (.ext 1 aS1), iQm 8 1, iQm 9 0] (.seq (iSr [iSm 9, iQo 19 (.bin .eql .int aS0 aC2)] (.cond aT19 (iSr [iSm 0, iSm 1, iSm 2, iSm 4, iCa 277 [aS3, aS2, aS1, aS0]] (iSr [iSm 2, .s (.bin .sub .int aS0 aC1), iSm 8, iSm 1, .s (.bin .sub .int aS1 aS0), .s (.bin .sub .int aS3 aS0), iQm 8 0] (.reg [iQo 9 (.mv aC1)]))) .skip)) X8))
def F243.b7 : IR := F243.g7 F243.b8
def F243.g6 (X7 : IR) : IR := (.seq (iSr [iSm 5, iQo 18 (.not aS0)] (.cond aT18 (iSr [iSm 0, iSm 1, iSm 2, iSm 4, iCa 275 [aS3, aS2, aS1, aS0]] (.reg [iSm 3, .s (.bin .sub .int aS0 aC1), iQm 3 0])) .skip)) X7)
def F243.b6 : IR := F243.g6 F243.b7
def F243.g5 (X6 : IR) : IR := (.seq (iSr [iSm 3, iQo 17 (.bin .eql .int aS0 aC0)] (.cond aT17 (iSr [iSm 0, iSm 1, iSm 2, iSm 4, iCa 274 [aS3, aS2, aS1, aS0]] .ret) .skip)) X6)
def F243.b5 : IR := F243.g5 F243.b6
def F243.g4 (X5 : IR) : IR := (iSr [iSm 2, iSm 1, .s (.bin .sub .int aS1 aS0), iQm 7 0] (.seq (iSr [iSm 7, iQo 16 (.bin .leq .int aS0 aC12)] (.cond aT16 (iSr [iSm 0, iSm 1, iSm 2, iSm 4, iCa 273 [aS3, aS2, aS1, aS0]] .ret) .skip)) X5))
def F243.b4 : IR := F243.g4 F243.b5
def F243.g3 (X4 : IR) : IR := (.block 1 X4)
def F243.b3 : IR := F243.g3 F243.b4
def F243.g2 (X3 : IR) : IR := (.loop X3)
def F243.b2 : IR := F243.g2 F243.b3
def F243.g1 (X2 : IR) : IR := (.block 0 X2)
def F243.b1 : IR := F243.g1 F243.b2
def F243.g0 (X1 : IR) : IR := (iSr [iQo 5 (.mv (.c (.bool true)))] (iSr [iQo 6 (.mv (.c (.bool true)))] X1))
def F243.b0 : IR := F243.g0 F243.b1
def F243.res : List RV := []
def F243 : Fn := { params := [(.of 0), (.of 1), (.of 2), (.of 3), (.of 4)], res := F243.res, body := F243.b0, init := in24 }
theorem F243.ok : fnA Tryz.prog Tryz.f243 [0, 1, 2, 3, 4, 10, 11, 12, 13, 14, 15, 16, 17, 18, 19, 20, 25, 32, 39, 56, 75, 80, 97, 125] = some F243 := by kernel_rfl
abbrev F244.fr := fr10
def F244.b1 : IR := (iSr [iQo 2 (.mv (.c (I (-1))))] .ret)
def F244.b5 : IR := (iSr [iQo 2 (.mv aC0)] .ret)
def F244.g4 (X5 : IR) : IR := (.seq (iSr [iSm 0, iSm 1, iQo 9 (.bin .gtr .int aS1 aS0)] (.cond aT9 (iSr [iQo 2 (.mv aC1)] .ret) .skip)) X5)
def F244.b4 : IR := F244.g4 F244.b5
def F244.g3 (X4 : IR) : IR := (.seq (iSr [iSm 0, iSm 1, iQo 8 (.bin .lss .int aS1 aS0)] (.cond aT8 (iSr [iQo 2 (.mv (.c (I (-1))))] .ret) .skip)) X4)
def F244.b3 : IR := F244.g3 F244.b4
def F244.g2 (X3 : IR) : IR := (.seq (iSr [iQo 7 (.mv aT4)] (.cond aT7 (iSr [iQo 2 (.mv aC1)] .ret) .skip)) X3)
def F244.b2 : IR := F244.g2 F244.b3
def F244.g0 (X1 X2 : IR) : IR := (iSr [iQo 2 (.mv aC0)] (iSr [iSm 0, iCa 250 [aS0], iQm 3 0] (iSr [iSm 1, iCa 250 [aS0], iQm 4 0] (.seq (iSr [iQo 5 (.mv aT3)] (.cond aT5 (.seq (iSr [iQo 6 (.mv aT4)] (.cond aT6 (iSr [iQo 2 (.mv aC0)] .ret) .skip)) X1) .skip)) X2))))
def F244.b0 : IR := F244.g0 F244.b1 F244.b2
def F244.res : List RV := [.t (.of 2)]
def F244 : Fn := { params := [(.of 0), (.of 1)], res := F244.res, body := F244.b0, init := in10 }
theorem F244.ok : fnA Tryz.prog Tryz.f244 [0, 1, 4, 5, 6, 11, 12, 13, 16, 19] = some F244 := by kernel_rfl
abbrev F250.fr := fr2
def F250.b0 : IR := (iSr [iQo 1 (.mv (.c (.bool false)))] (iSr [iSm 0, iSm 0, .s (.bin .neq .int aS1 aS0), iQm 1 0] .ret))
def F250.res : List RV := [.t (.of 1)]
def F250 : Fn := { params := [(.of 0)], res := F250.res, body := F250.b0, init := in2 }
theorem F250.ok : fnA Tryz.prog Tryz.f250 [0, 2] = some F250 := by kernel_rfl
abbrev F259.fr := fr8
def F259.b6 : IR := (iSr [iSm 5, iQm 3 0] (iSr [iSm 1, iSm 0, iSm 3, .s (.iaddr 1 aS1 aS0), .s (.load aS0), iWl 7 (.call aS4 [aS0])] (.cond aT7 (iSr [iSm 3, iQm 2 0] .ret) .skip)))
def F259.g5 (X6 : IR) : IR := (.block 1 X6)
def F259.b5 : IR := F259.g5 F259.b6
def F259.b7 : IR := (.reg [.s (.bin .add .int aT5 aC1), iQm 5 0])
def F259.g4 (X5 X7 : IR) : IR := (.seq X5 X7)
def F259.b4 : IR := F259.g4 F259.b5 F259.b7
def F259.g3 (X4 : IR) : IR := (iSr [iQo 6 (.bin .lss .int aT5 aT4)] (.seq (.cond aT6 .skip (.exit 0)) X4))
def F259.b3 : IR := F259.g3 F259.b4
def F259.g2 (X3 : IR) : IR := (.loop X3)
def F259.b2 : IR := F259.g2 F259.b3
def F259.g1 (X2 : IR) : IR := (.block 0 X2)
def F259.b1 : IR := F259.g1 F259.b2
def F259.b8 : IR := (iSr [iQo 2 (.mv (.c (I (-1))))] .ret)
def F259.g0 (X1 X8 : IR) : IR := (iSr [iQo 2 (.mv aC0)] (.seq (iSr [iSm 0, iQo 4 (.len aS0), iQo 5 (.mv aC0)] X1) X8))
def F259.b0 : IR := F259.g0 F259.b1 F259.b8
def F259.res : List RV := [.t (.of 2)]
def F259 : Fn := { params := [(.of 0), (.of 1)], res := F259.res, body := F259.b0, init := in8 }
theorem F259.ok : fnA Tryz.prog Tryz.f259 [0, 1, 4, 5, 7, 8, 9, 16] = some F259 := by kernel_rfl
abbrev F265.fr := fr2
def F265.b0 : IR := (iSr [iQo 1 (.mv (.c (.str [])))] (iSr [iSm 0, iCa 286 [aS0, aC10], iQm 1 0] .ret))
def F265.res : List RV := [.t (.of 1)]
def F265 : Fn := { params := [(.of 0)], res := F265.res, body := F265.b0, init := in2 }
theorem F265.ok : fnA Tryz.prog Tryz.f265 [0, 2] = some F265 := by kernel_rfl
abbrev F273.fr := fr8
def F273.b12 : IR := (.dreg [] [(iSm 0, 0, []), (iSm 5, 0, []), (iSm 0, 1, []), (iSm 5, 1, []), (.s (.bin .sub .int aS0 aC1), 1, []), (iSm 0, 0, []), (iSm 5, 0, []), (.s (.bin .sub .int aS0 aC1), 0, []), (.s (.iaddr 1 aS2 aS0), 0, []), (.s (.load aS0), 0, []), (iSm 0, 0, []), (iSm 5, 0, []), (.s (.iaddr 1 aS1 aS0), 0, []), (.s (.load aS0), 0, []), (.s (.iaddr 1 aS13 aS12), 0, []), (.w .none none (.store 1 aS0 aS5), 0, []), (.s (.iaddr 1 aS12 aS10), 0, []), (.w .none none (.store 1 aS0 aS2), 0, [])])
def F273.g11 (X12 : IR) : IR := (.block 3 X12)
def F273.b11 : IR := F273.g11 F273.b12
def F273.b13 : IR := (.reg [iSm 5, .s (.bin .sub .int aS0 aC1), iQm 5 0])
def F273.g10 (X11 X13 : IR) : IR := (.seq X11 X13)
def F273.b10 : IR := F273.g10 F273.b11 F273.b13
def F273.g9 (X10 : IR) : IR := (.seq (.seq (.dreg [] [(iSm 5, 0, []), (iSm 1, 0, []), (.s (.bin .gtr .int aS1 aS0), 0, []), (.s (.mv aS0), 0, []), (iPt 0 (.mv aT3), 0, []), (iPt 1 (.mv aT0), 0, []), (iPt 2 (.mv aT5), 0, []), (iPt 3 (.iaddr 1 aS1 aS0), 0, []), (iPt 4 (.load aS0), 0, []), (iPt 5 (.mv aT0), 0, []), (iPt 6 (.mv aT5), 0, []), (iPt 7 (.bin .sub .int aS0 aC1), 0, []), (iPt 8 (.iaddr 1 aS2 aS0), 0, []), (iPt 9 (.load aS0), 0, []), (.w .push (some (aS10, true)) (.call aS9 [aS5, aS0]), 0, []), (iPt 11 (.bin .lss .int aS0 aC0), 0, []), (iQo 7 (.pick aS12 aS0 (.c (.bool false))), 0, [])]) (.cond aT7 .skip (.exit 2))) X10)
def F273.b9 : IR := F273.g9 F273.b10
def F273.g8 (X9 : IR) : IR := (.loop X9)
def F273.b8 : IR := F273.g8 F273.b9
def F273.g7 (X8 : IR) : IR := (.block 2 X8)
def F273.b7 : IR := F273.g7 F273.b8
def F273.g6 (X7 : IR) : IR := (iSr [iSm 4, iQm 5 0] X7)
def F273.b6 : IR := F273.g6 F273.b7
def F273.g5 (X6 : IR) : IR := (.block 1 X6)
def F273.b5 : IR := F273.g5 F273.b6
def F273.b14 : IR := (.reg [iSm 4, .s (.bin .add .int aS0 aC1), iQm 4 0])
def F273.g4 (X5 X14 : IR) : IR := (.seq X5 X14)
def F273.b4 : IR := F273.g4 F273.b5 F273.b14
def F273.g3 (X4 : IR) : IR := (.seq (iSr [iSm 4, iSm 2, iQo 6 (.bin .lss .int aS1 aS0)] (.cond aT6 .skip (.exit 0))) X4)
def F273.b3 : IR := F273.g3 F273.b4
def F273.g2 (X3 : IR) : IR := (.loop X3)
def F273.b2 : IR := F273.g2 F273.b3
def F273.g1 (X2 : IR) : IR := (.block 0 X2)
def F273.b1 : IR := F273.g1 F273.b2
def F273.g0 (X1 : IR) : IR := (iSr [iSm 1, .s (.bin .add .int aS0 aC1), iQm 4 0] X1)
def F273.b0 : IR := F273.g0 F273.b1
def F273.res : List RV := []
def F273 : Fn := { params := [(.of 0), (.of 1), (.of 2), (.of 3)], res := F273.res, body := F273.b0, init := in8 }
theorem F273.ok : fnA Tryz.prog Tryz.f273 [0, 1, 2, 3, 8, 9, 14, 34] = some F273 := by kernel_rfl
end
end Go.Ev
