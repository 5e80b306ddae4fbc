import Derived.Test.YtfgpjkchdelphaaGreatDoorIrA
import Derived.Test.YtfgpjkchdelphaaGreatDoorEvC
import Derived.Test.YtfgpjkchdelphaaGreatDoorProg
import Derived.KernelRfl
set_option linter.unusedSimpArgs false
set_option linter.unusedVariables false
namespace Go.Ev
open Go Go.Proofs
set_option maxRecDepth 100000
noncomputable section

abbrev F200.fr := fr5
def F200.b0 : IR := (iSr [iWl 2 (.box aT0), iWl 3 (.box aT1), iQo 4 (.mv aC0)] (.seq (.dreg [] [(.s (.faddr 0 aT2), 0, []), (.s (.loadN 2 aS0), 0, []), (.s (.faddr 2 aT3), 0, []), (.s (.loadN 2 aS0), 0, []), (.s (.faddr 0 aT3), 1, []), (.s (.loadN 2 aS0), 1, []), (.s (.faddr 2 aT2), 1, []), (.s (.loadN 2 aS0), 1, []), (iCa 198 [aS6, aS4], 0, []), (iCa 198 [aS3, aS1], 0, []), (iCa 229 [aS1, aS0], 0, []), (iQm 4 0, 0, [])]) .ret))
def F200.res : List RV := [.t (.of 4)]
def F200 : Fn := { params := [(.of 0), (.of 1)], res := F200.res, body := F200.b0, init := in5 }
theorem F200.ok : fnA Tryz.prog Tryz.f200 [0, 1, 2, 3, 4] = some F200 := by kernel_rfl
abbrev F201.fr := fr18
def F201.b1 : IR := (iSr [iSm 6, .s (.build [(I 0), .nils] [(0, 1, aS0)]), iSm 7, .s (.build [(I 0), .nils] [(0, 1, aS0)]), .w .none none (.store 2 aT4 aS2), .w .none none (.store 2 aT5 aS0)] .ret)
def F201.b3 : IR := (.seq (.dreg [] [(.s (.loadN 2 aT13), 0, []), (.s (.loadN 2 aT14), 1, []), (.w .none none (.store 2 aT4 aS1), 0, []), (.w .none none (.store 2 aT5 aS0), 0, [])]) .ret)
def F201.g2 (X3 : IR) : IR := (iSr [.s (.loadN 2 aT2), iCa 249 [aS0], .s (.mv aS0), .s (.ext 0 aS0), .s (.ext 1 aS1), iQm 8 1, iQm 9 0] (iSr [.s (.loadN 2 aT3), iCa 249 [aS0], .s (.mv aS0), .s (.ext 0 aS0), .s (.ext 1 aS1), .s (.mv aS1), iQm 10 1] (iSr [iSm 9, iSm 10, iCa 250 [aS1, aS0], .s (.mv aS0), .s (.ext 0 aS0), .s (.ext 1 aS1), iQm 11 1, iQm 12 0] (iSr [iSm 8, iSm 11, iCa 257 [aS1, aS0], iSm 8, iSm 12, iCa 257 [aS1, aS0], iWl 13 (.alloc [(I 0), .nils]), iWl 14 (.alloc [(I 0), .nils]), .w .none none (.store 2 aT13 aS3), .w .none none (.store 2 aT14 aS0)] (.seq (iSr [.s (.loadN 2 aT14), iCa 194 [aS0], iQo 17 (.bin .lss .int aS0 aC0)] (.cond aT17 (.dreg [] [(.s (.loadN 2 aT13), 1, []), (.s (.loadN 2 aT14), 2, []), (.s (.loadN 2 aT3), 2, []), (iCa 187 [aC1], 0, []), (iCa 266 [aS3, aS0], 0, []), (iCa 197 [aS3, aS2], 0, []), (.w .none none (.store 2 aT13 aS1), 0, []), (.w .none none (.store 2 aT14 aS0), 0, [])]) .skip)) X3)))))
def F201.b2 : IR := F201.g2 F201.b3
def F201.g0 (X1 X2 : IR) : IR := (iSr [iWl 2 (.box aT0), iWl 3 (.box aT1), iWl 4 (.alloc [(I 0), .nils]), iWl 5 (.alloc [(I 0), .nils])] (.seq (iSr [.s (.faddr 1 aT2), .s (.load aS0), .s (.bin .eql (.nil .sl) aS0 (.c .nils)), .s (.mv aS0), iPt 0 (.faddr 1 aT3), iPt 1 (.load aS0), iPt 2 (.bin .eql (.nil .sl) aS0 (.c .nils)), .s (.pick aS3 aS0 (.c (.bool false))), .s (.mv aS0), iPt 0 (.faddr 0 aT2), iPt 1 (.load aS0), iPt 2 (.bin .neq .int aS0 (.c (I (-9223372036854775808)))), iQo 15 (.pick aS3 aS0 (.c (.bool false)))] (.cond aT15 (.seq (.dreg [] [(.s (.faddr 0 aT2), 0, []), (.s (.load aS0), 0, []), (.s (.faddr 0 aT3), 0, []), (.s (.load aS0), 0, []), (.s (.bin .quo .int aS2 aS0), 0, []), (.s (.faddr 0 aT2), 0, []), (.s (.load aS0), 0, []), (.s (.faddr 0 aT3), 0, []), (.s (.load aS0), 0, []), (.s (.bin .rem .int aS2 aS0), 0, []), (iQm 6 5, 0, []), (iQm 7 0, 0, [])]) (.seq (iSr [iSm 7, iQo 16 (.bin .lss .int aS0 aC0)] (.cond aT16 (.dreg [] [(iSm 6, 0, []), (.s (.bin .sub .int aS0 aC1), 0, []), (iSm 7, 0, []), (.s (.faddr 0 aT3), 0, []), (.s (.load aS0), 0, []), (.s (.bin .add .int aS2 aS0), 0, []), (iQm 6 4, 0, []), (iQm 7 0, 0, [])]) .skip)) X1)) .skip)) X2))
def F201.b0 : IR := F201.g0 F201.b1 F201.b2
def F201.res : List RV := [.cell (.of 4) (some 2), .cell (.of 5) (some 2)]
def F201 : Fn := { params := [(.of 0), (.of 1)], res := F201.res, body := F201.b0, init := in18 }
theorem F201.ok : fnA Tryz.prog Tryz.f201 [0, 1, 2, 3, 4, 5, 6, 7, 8, 9, 11, 12, 13, 14, 15, 28, 40, 75] = some F201 := by kernel_rfl
abbrev F219.fr := fr9
def F219.b6 : IR := (iSr [.s (.iaddr 1 aT5 aT7), .s (.load aS0), iQm 4 0] (.reg [iSm 3, iSm 1, iSm 4, .s (.iaddr 1 aS1 aS0), .s (.load aS0), .s (.bin .add .int aS4 aS0), iQm 3 0]))
def F219.g5 (X6 : IR) : IR := (.block 1 X6)
def F219.b5 : IR := F219.g5 F219.b6
def F219.b7 : IR := (.reg [.s (.bin .add .int aT7 aC1), iQm 7 0])
def F219.g4 (X5 X7 : IR) : IR := (.seq X5 X7)
def F219.b4 : IR := F219.g4 F219.b5 F219.b7
def F219.g3 (X4 : IR) : IR := (iSr [iQo 8 (.bin .lss .int aT7 aT6)] (.seq (.cond aT8 .skip (.exit 0)) X4))
def F219.b3 : IR := F219.g3 F219.b4
def F219.g2 (X3 : IR) : IR := (.loop X3)
def F219.b2 : IR := F219.g2 F219.b3
def F219.g1 (X2 : IR) : IR := (.block 0 X2)
def F219.b1 : IR := F219.g1 F219.b2
def F219.b8 : IR := (iSr [iSm 3, iQm 2 0] .ret)
def F219.g0 (X1 X8 : IR) : IR := (iSr [iQo 2 (.mv aC0)] (iSr [iQo 3 (.mv aC0)] (.seq (iSr [iQo 5 (.mv aT0), iQo 6 (.len aT5), iQo 7 (.mv aC0)] X1) X8)))
def F219.b0 : IR := F219.g0 F219.b1 F219.b8
def F219.res : List RV := [.t (.of 2)]
def F219 : Fn := { params := [(.of 0), (.of 1)], res := F219.res, body := F219.b0, init := in9 }
theorem F219.ok : fnA Tryz.prog Tryz.f219 [0, 1, 4, 5, 7, 8, 9, 10, 11] = some F219 := by kernel_rfl
abbrev F220.fr := fr3
def F220.b0 : IR := (iSr [iWl 1 (.box aT0), iQo 2 (.mv (.c (.bool false)))] (iSr [.s (.faddr 1 aT1), .s (.load aS0), iCa 136 [aS0], iQm 2 0] .ret))
def F220.res : List RV := [.t (.of 2)]
def F220 : Fn := { params := [(.of 0)], res := F220.res, body := F220.b0, init := in3 }
theorem F220.ok : fnA Tryz.prog Tryz.f220 [0, 1, 2] = some F220 := by kernel_rfl
abbrev F221.fr := fr3
def F221.b0 : IR := (iSr [iWl 1 (.box aT0), iQo 2 (.mv (.c (.bool false)))] (iSr [.s (.loadN 2 aT1), .w .push none (.call (.c (.fn 144 (.of 144) [])) [aS0, (.c (.str [115, 101, 109, 105, 109, 97, 103, 105, 99]))]), iQm 2 0] .ret))
def F221.res : List RV := [.t (.of 2)]
def F221 : Fn := { params := [(.of 0)], res := F221.res, body := F221.b0, init := in3 }
theorem F221.ok : fnA Tryz.prog Tryz.f221 [0, 1, 2] = some F221 := by kernel_rfl
abbrev F222.fr := fr3
def F222.b0 : IR := (iSr [iWl 1 (.box aT0), iQo 2 (.mv (.c (.bool false)))] (iSr [.s (.loadN 2 aT1), .w .push none (.call (.c (.fn 144 (.of 144) [])) [aS0, (.c (.str [109, 97, 103, 105, 99]))]), iQm 2 0] .ret))
def F222.res : List RV := [.t (.of 2)]
def F222 : Fn := { params := [(.of 0)], res := F222.res, body := F222.b0, init := in3 }
theorem F222.ok : fnA Tryz.prog Tryz.f222 [0, 1, 2] = some F222 := by kernel_rfl
abbrev F223.fr := fr3
def F223.b0 : IR := (iSr [iWl 1 (.box aT0), iQo 2 (.mv (.c (.bool false)))] (iSr [.s (.loadN 2 aT1), .w .push none (.call (.c (.fn 144 (.of 144) [])) [aS0, (.c (.str [112, 97, 110, 100, 105, 97, 103, 111, 110, 97, 108]))]), iQm 2 0] .ret))
def F223.res : List RV := [.t (.of 2)]
def F223 : Fn := { params := [(.of 0)], res := F223.res, body := F223.b0, init := in3 }
theorem F223.ok : fnA Tryz.prog Tryz.f223 [0, 1, 2] = some F223 := by kernel_rfl
abbrev F224.fr := fr3
def F224.b0 : IR := (iSr [iWl 1 (.box aT0), iQo 2 (.mv (.c (.bool false)))] (iSr [.s (.loadN 2 aT1), .w .push none (.call (.c (.fn 144 (.of 144) [])) [aS0, (.c (.str [109, 97, 103, 105, 99]))]), .s (.mv aS0), iPt 0 (.faddr 1 aT1), iPt 1 (.load aS0), iPt 2 (.len aS0), iPt 3 (.fn 273 (.of 273) [aT1]), .w .push (some (aS4, true)) (.call (.c (.fn 272 (.of 272) [])) [aS1, aS0]), .s (.pick aS5 aS0 (.c (.bool false))), iQm 2 0] .ret))
def F224.res : List RV := [.t (.of 2)]
def F224 : Fn := { params := [(.of 0)], res := F224.res, body := F224.b0, init := in3 }
theorem F224.ok : fnA Tryz.prog Tryz.f224 [0, 1, 2] = some F224 := by kernel_rfl
abbrev F225.fr := fr6
def F225.b1 : IR := (iSr [.s (.fn 274 (.of 274) [aT1]), iWl 3 (.alloc [.nilf]), .w .none none (.store 1 aT3 aS0)] (iSr [.s (.faddr 1 aT1), .s (.load aS0), .s (.len aS0), .s (.fn 275 (.of 275) [aT1, aT3]), iCa 272 [aS1, aS0], iQm 4 0] (iSr [iSm 4, .s (.mv aS0), iPt 0 (.faddr 1 aT1), iPt 1 (.load aS0), iPt 2 (.len aS0), iPt 3 (.fn 276 (.of 276) [aT1, aT3]), .w .push (some (aS4, true)) (.call (.c (.fn 272 (.of 272) [])) [aS1, aS0]), .s (.pick aS5 aS0 (.c (.bool false))), iQm 2 0] .ret)))
def F225.g0 (X1 : IR) : IR := (iSr [iWl 1 (.box aT0), iQo 2 (.mv (.c (.bool false)))] (.seq (iSr [.s (.faddr 0 aT1), .s (.load aS0), .s (.bin .rem .int aS0 aC2), .s (.bin .eql .int aS0 aC1), .s (.mv aS0), iPf 0 (.loadN 2 aT1), .w .push (some (aS1, false)) (.call (.c (.fn 144 (.of 144) [])) [aS0, (.c (.str [112, 97, 110, 100, 105, 97, 103, 111, 110, 97, 108]))]), iPf 2 (.not aS0), iQo 5 (.pick aS3 (.c (.bool true)) aS0)] (.cond aT5 (iSr [iQo 2 (.mv (.c (.bool false)))] .ret) .skip)) X1))
def F225.b0 : IR := F225.g0 F225.b1
def F225.res : List RV := [.t (.of 2)]
def F225 : Fn := { params := [(.of 0)], res := F225.res, body := F225.b0, init := in6 }
theorem F225.ok : fnA Tryz.prog Tryz.f225 [0, 1, 2, 3, 4, 13] = some F225 := by kernel_rfl
abbrev F226.fr := fr6
def F226.b7 : IR := (iSr [.s (.loadN 2 aT1), .w .push none (.call (.c (.fn 144 (.of 144) [])) [aS0, (.c (.str [109, 97, 103, 105, 99]))]), iQo 5 (.not aS0)] (.cond aT5 (iSr [iQo 2 (.mv (.c (.bool false)))] .ret) .skip))
def F226.g6 (X7 : IR) : IR := (.block 1 X7)
def F226.b6 : IR := F226.g6 F226.b7
def F226.b8 : IR := (.reg [.s (.loadN 2 aT1), iCa 277 [aS0], .w .none none (.store 2 aT1 aS0)])
def F226.g5 (X6 X8 : IR) : IR := (.seq X6 X8)
def F226.b5 : IR := F226.g5 F226.b6 F226.b8
def F226.g4 (X5 : IR) : IR := (.seq (iSr [.s (.faddr 0 aT1), .s (.load aS0), iQo 4 (.bin .geq .int aS0 aC3)] (.cond aT4 .skip (.exit 0))) X5)
def F226.b4 : IR := F226.g4 F226.b5
def F226.g3 (X4 : IR) : IR := (.loop X4)
def F226.b3 : IR := F226.g3 F226.b4
def F226.g2 (X3 : IR) : IR := (.block 0 X3)
def F226.b2 : IR := F226.g2 F226.b3
def F226.b9 : IR := (iSr [iQo 2 (.mv (.c (.bool true)))] .ret)
def F226.g1 (X2 X9 : IR) : IR := (.seq X2 X9)
def F226.b1 : IR := F226.g1 F226.b2 F226.b9
def F226.g0 (X1 : IR) : IR := (iSr [iWl 1 (.box aT0), iQo 2 (.mv (.c (.bool false)))] (.seq (iSr [.s (.faddr 0 aT1), .s (.load aS0), iQo 3 (.bin .lss .int aS0 aC5)] (.cond aT3 (iSr [iQo 2 (.mv (.c (.bool false)))] .ret) .skip)) X1))
def F226.b0 : IR := F226.g0 F226.b1
def F226.res : List RV := [.t (.of 2)]
def F226 : Fn := { params := [(.of 0)], res := F226.res, body := F226.b0, init := in6 }
theorem F226.ok : fnA Tryz.prog Tryz.f226 [0, 1, 2, 5, 8, 13] = some F226 := by kernel_rfl
abbrev F227.fr := fr3
def F227.b0 : IR := (iSr [iWl 1 (.box aT0), iQo 2 (.mv (.c (.bool false)))] (iSr [.s (.loadN 2 aT1), .w .push none (.call (.c (.fn 144 (.of 144) [])) [aS0, (.c (.str [109, 97, 103, 105, 99]))]), .s (.mv aS0), iPt 0 (.loadN 2 aT1), .w .push (some (aS1, true)) (.call (.c (.fn 145 (.of 145) [])) [aS0, aC2]), .s (.pick aS2 aS0 (.c (.bool false))), iQm 2 0] .ret))
def F227.res : List RV := [.t (.of 2)]
def F227 : Fn := { params := [(.of 0)], res := F227.res, body := F227.b0, init := in3 }
theorem F227.ok : fnA Tryz.prog Tryz.f227 [0, 1, 2] = some F227 := by kernel_rfl
abbrev F228.fr := fr8
def F228.b7 : IR := (iSr [iSm 1, iQo 7 (.bin .gtr .int aS0 aC1)] (.cond aT7 (.reg [.s (.loadN 2 aT2), .s (.loadN 2 aT2), iCa 198 [aS1, aS0], .w .none none (.store 2 aT2 aS0)]) .skip))
def F228.g6 (X7 : IR) : IR := (.seq (iSr [iSm 1, .s (.bin .and .int aS0 aC1), iQo 6 (.bin .eql .int aS0 aC1)] (.cond aT6 (.reg [.s (.loadN 2 aT4), .s (.loadN 2 aT2), iCa 198 [aS1, aS0], .w .none none (.store 2 aT4 aS0)]) .skip)) X7)
def F228.b6 : IR := F228.g6 F228.b7
def F228.g5 (X6 : IR) : IR := (.block 1 X6)
def F228.b5 : IR := F228.g5 F228.b6
def F228.b8 : IR := (.reg [iSm 1, .s (.bin .shr .int aS0 (.c (.int .u64 1))), iQm 1 0])
def F228.g4 (X5 X8 : IR) : IR := (.seq X5 X8)
def F228.b4 : IR := F228.g4 F228.b5 F228.b8
def F228.g3 (X4 : IR) : IR := (.seq (iSr [iSm 1, iQo 5 (.bin .gtr .int aS0 aC0)] (.cond aT5 .skip (.exit 0))) X4)
def F228.b3 : IR := F228.g3 F228.b4
def F228.g2 (X3 : IR) : IR := (.loop X3)
def F228.b2 : IR := F228.g2 F228.b3
def F228.g1 (X2 : IR) : IR := (.block 0 X2)
def F228.b1 : IR := F228.g1 F228.b2
def F228.b9 : IR := (iSr [.s (.loadN 2 aT4), .w .none none (.store 2 aT3 aS0)] .ret)
def F228.g0 (X1 X9 : IR) : IR := (iSr [iWl 2 (.box aT0), iWl 3 (.alloc [(I 0), .nils])] (iSr [iCa 187 [aC1], iWl 4 (.alloc [(I 0), .nils]), .w .none none (.store 2 aT4 aS0)] (.seq X1 X9)))
def F228.b0 : IR := F228.g0 F228.b1 F228.b9
def F228.res : List RV := [.cell (.of 3) (some 2)]
def F228 : Fn := { params := [(.of 0), (.of 1)], res := F228.res, body := F228.b0, init := in8 }
theorem F228.ok : fnA Tryz.prog Tryz.f228 [0, 1, 2, 4, 5, 8, 13, 18] = some F228 := by kernel_rfl
abbrev F229.fr := fr8
def F229.b2 : IR := (iSr [.s (.faddr 0 aT2), .s (.load aS0), .s (.faddr 0 aT3), .s (.load aS0), .s (.bin .lss .int aS2 aS0), iQm 6 0] (.cond aT6 (iSr [iQo 4 (.mv (.c (I (-1))))] .ret) (iSr [.s (.faddr 0 aT2), .s (.load aS0), .s (.faddr 0 aT3), .s (.load aS0), .s (.bin .gtr .int aS2 aS0), iQm 7 0] (.cond aT7 (iSr [iQo 4 (.mv aC1)] .ret) .skip))))
def F229.g1 (X2 : IR) : IR := (.block 0 X2)
def F229.b1 : IR := F229.g1 F229.b2
def F229.b3 : IR := (iSr [iQo 4 (.mv aC0)] .ret)
def F229.b4 : IR := (iSr [.s (.loadN 2 aT2), .s (.loadN 2 aT3), iCa 266 [aS1, aS0], iCa 194 [aS0], iQm 4 0] .ret)
def F229.g0 (X1 X3 X4 : IR) : IR := (iSr [iWl 2 (.box aT0), iWl 3 (.box aT1), iQo 4 (.mv aC0)] (.seq (iSr [.s (.faddr 1 aT2), .s (.load aS0), .s (.bin .eql (.nil .sl) aS0 (.c .nils)), .s (.mv aS0), iPt 0 (.faddr 1 aT3), iPt 1 (.load aS0), iPt 2 (.bin .eql (.nil .sl) aS0 (.c .nils)), iQo 5 (.pick aS3 aS0 (.c (.bool false)))] (.cond aT5 (.seq X1 X3) .skip)) X4))
def F229.b0 : IR := F229.g0 F229.b1 F229.b3 F229.b4
def F229.res : List RV := [.t (.of 4)]
def F229 : Fn := { params := [(.of 0), (.of 1)], res := F229.res, body := F229.b0, init := in8 }
theorem F229.ok : fnA Tryz.prog Tryz.f229 [0, 1, 2, 3, 4, 12, 13, 19] = some F229 := by kernel_rfl
abbrev F234.fr := fr8
def F234.b6 : IR := (iSr [iSm 5, iQm 3 0] (iSr [iSm 1, iSm 0, iSm 3, .s (.iaddr 1 aS1 aS0), .s (.load aS0), iQo 7 (.bin .eql .str aS4 aS0)] (.cond aT7 (iSr [iSm 3, iQm 2 0] .ret) .skip)))
def F234.g5 (X6 : IR) : IR := (.block 1 X6)
def F234.b5 : IR := F234.g5 F234.b6
def F234.b7 : IR := (.reg [.s (.bin .add .int aT5 aC1), iQm 5 0])
def F234.g4 (X5 X7 : IR) : IR := (.seq X5 X7)
def F234.b4 : IR := F234.g4 F234.b5 F234.b7
def F234.g3 (X4 : IR) : IR := (iSr [iQo 6 (.bin .lss .int aT5 aT4)] (.seq (.cond aT6 .skip (.exit 0)) X4))
def F234.b3 : IR := F234.g3 F234.b4
def F234.g2 (X3 : IR) : IR := (.loop X3)
def F234.b2 : IR := F234.g2 F234.b3
def F234.g1 (X2 : IR) : IR := (.block 0 X2)
def F234.b1 : IR := F234.g1 F234.b2
def F234.b8 : IR := (iSr [iQo 2 (.mv (.c (I (-1))))] .ret)
def F234.g0 (X1 X8 : IR) : IR := (iSr [iQo 2 (.mv aC0)] (.seq (iSr [iSm 0, iQo 4 (.len aS0), iQo 5 (.mv aC0)] X1) X8))
def F234.b0 : IR := F234.g0 F234.b1 F234.b8
def F234.res : List RV := [.t (.of 2)]
def F234 : Fn := { params := [(.of 0), (.of 1)], res := F234.res, body := F234.b0, init := in8 }
theorem F234.ok : fnA Tryz.prog Tryz.f234 [0, 1, 4, 5, 7, 8, 9, 16] = some F234 := by kernel_rfl
abbrev F235.fr := fr15
def F235.b6 : IR := (iSr [.s (.iaddr 1 aT6 aT8), .s (.load aS0), iQm 3 0] (iSr [iSm 2, iSm 3, .s (.len aS0), .s (.bin .add .int aS2 aS0), iQm 2 0] (iSr [iSm 2, iQo 10 (.bin .lss .int aS0 aC0)] (.cond aT10 (.bad 7) .skip))))
def F235.g5 (X6 : IR) : IR := (.block 1 X6)
def F235.b5 : IR := F235.g5 F235.b6
def F235.b7 : IR := (.reg [.s (.bin .add .int aT8 aC1), iQm 8 0])
def F235.g4 (X5 X7 : IR) : IR := (.seq X5 X7)
def F235.b4 : IR := F235.g4 F235.b5 F235.b7
def F235.g3 (X4 : IR) : IR := (iSr [iQo 9 (.bin .lss .int aT8 aT7)] (.seq (.cond aT9 .skip (.exit 0)) X4))
def F235.b3 : IR := F235.g3 F235.b4
def F235.g2 (X3 : IR) : IR := (.loop X3)
def F235.b2 : IR := F235.g2 F235.b3
def F235.g1 (X2 : IR) : IR := (.block 0 X2)
def F235.b1 : IR := F235.g1 F235.b2
def F235.b14 : IR := (iSr [.s (.iaddr 1 aT11 aT13), .s (.load aS0), iQm 5 0] (.reg [iSm 4, iSm 5, .w .push none (.app 1 24 aS1 aS0), iQm 4 0]))
def F235.g13 (X14 : IR) : IR := (.block 3 X14)
def F235.b13 : IR := F235.g13 F235.b14
def F235.b15 : IR := (.reg [.s (.bin .add .int aT13 aC1), iQm 13 0])
def F235.g12 (X13 X15 : IR) : IR := (.seq X13 X15)
def F235.b12 : IR := F235.g12 F235.b13 F235.b15
def F235.g11 (X12 : IR) : IR := (iSr [iQo 14 (.bin .lss .int aT13 aT12)] (.seq (.cond aT14 .skip (.exit 2)) X12))
def F235.b11 : IR := F235.g11 F235.b12
def F235.g10 (X11 : IR) : IR := (.loop X11)
def F235.b10 : IR := F235.g10 F235.b11
def F235.g9 (X10 : IR) : IR := (.block 2 X10)
def F235.b9 : IR := F235.g9 F235.b10
def F235.b16 : IR := (iSr [iSm 4, iQm 1 0] .ret)
def F235.g8 (X9 X16 : IR) : IR := (iSr [iSm 2, iCa 278 [(.c .nils), aS0], iQm 4 0] (.seq (iSr [iQo 11 (.mv aT0), iQo 12 (.len aT11), iQo 13 (.mv aC0)] X9) X16))
def F235.b8 : IR := F235.g8 F235.b9 F235.b16
def F235.g0 (X1 X8 : IR) : IR := (iSr [iQo 1 (.mv (.c .nils))] (iSr [iQo 2 (.mv aC0)] (.seq (iSr [iQo 6 (.mv aT0), iQo 7 (.len aT6), iQo 8 (.mv aC0)] X1) X8)))
def F235.b0 : IR := F235.g0 F235.b1 F235.b8
def F235.res : List RV := [.t (.of 1)]
def F235 : Fn := { params := [(.of 0)], res := F235.res, body := F235.b0, init := in15 }
theorem F235.ok : fnA Tryz.prog Tryz.f235 [0, 2, 3, 5, 6, 8, 9, 10, 11, 12, 20, 25, 26, 27, 28] = some F235 := by kernel_rfl
abbrev F236.fr := fr5
def F236.b0 : IR := (iSr [iWl 2 (.box aT0), iWl 3 (.box aT1), iQo 4 (.mv (.c .nilf))] (iSr [.s (.fn 279 (.of 279) [aT2, aT3]), iQm 4 0] .ret))
def F236.res : List RV := [.t (.of 4)]
def F236 : Fn := { params := [(.of 0), (.of 1)], res := F236.res, body := F236.b0, init := in5 }
theorem F236.ok : fnA Tryz.prog Tryz.f236 [0, 1, 2, 3, 4] = some F236 := by kernel_rfl
abbrev F237.fr := fr8
def F237.b6 : IR := (iSr [.s (.iaddr 1 aT4 aT6), .s (.load aS0), iQm 3 0] (.reg [iSm 2, iSm 3, iCa 248 [aS0], .w .push none (.bslice 1 1 [(.str [])] [(0, 1, aS0)]), .w .push none (.app 1 16 aS3 aS0), iQm 2 0]))
def F237.g5 (X6 : IR) : IR := (.block 1 X6)
def F237.b5 : IR := F237.g5 F237.b6
def F237.b7 : IR := (.reg [.s (.bin .add .int aT6 aC1), iQm 6 0])
def F237.g4 (X5 X7 : IR) : IR := (.seq X5 X7)
def F237.b4 : IR := F237.g4 F237.b5 F237.b7
def F237.g3 (X4 : IR) : IR := (iSr [iQo 7 (.bin .lss .int aT6 aT5)] (.seq (.cond aT7 .skip (.exit 0)) X4))
def F237.b3 : IR := F237.g3 F237.b4
def F237.g2 (X3 : IR) : IR := (.loop X3)
def F237.b2 : IR := F237.g2 F237.b3
def F237.g1 (X2 : IR) : IR := (.block 0 X2)
def F237.b1 : IR := F237.g1 F237.b2
def F237.b8 : IR := (iSr [iSm 2, .w .push none (.call (.c (.fn 281 (.of 281) [])) [aS0, (.c (.str [32]))]), iQm 1 0] .ret)
def F237.g0 (X1 X8 : IR) : IR := (iSr [iQo 1 (.mv (.c (.str [])))] (iSr [iQo 2 (.mv (.c .nils))] (.seq (iSr [iQo 4 (.mv aT0), iQo 5 (.len aT4), iQo 6 (.mv aC0)] X1) X8)))
def F237.b0 : IR := F237.g0 F237.b1 F237.b8
def F237.res : List RV := [.t (.of 1)]
def F237 : Fn := { params := [(.of 0)], res := F237.res, body := F237.b0, init := in8 }
theorem F237.ok : fnA Tryz.prog Tryz.f237 [0, 2, 3, 5, 6, 7, 8, 9] = some F237 := by kernel_rfl
abbrev F238.fr := fr4
def F238.b0 : IR := (iSr [iQo 3 (.mv aC0)] (iSr [.s (.load aT1), .s (.load aT2), .s (.bin .mul .int aS1 aS0), iSm 0, .s (.bin .add .int aS1 aS0), iQm 3 0] .ret))
def F238.res : List RV := [.t (.of 3)]
def F238 : Fn := { params := [(.of 0), (.of 1), (.of 2)], res := F238.res, body := F238.b0, init := in4 }
theorem F238.ok : fnA Tryz.prog Tryz.f238 [0, 1, 2, 4] = some F238 := by kernel_rfl
abbrev F239.fr := fr4
def F239.b0 : IR := (iSr [iQo 3 (.mv aC0)] (iSr [.s (.load aT1), iSm 0, .s (.bin .mul .int aS1 aS0), .s (.load aT2), .s (.bin .add .int aS1 aS0), iQm 3 0] .ret))
def F239.res : List RV := [.t (.of 3)]
def F239 : Fn := { params := [(.of 0), (.of 1), (.of 2)], res := F239.res, body := F239.b0, init := in4 }
theorem F239.ok : fnA Tryz.prog Tryz.f239 [0, 1, 2, 4] = some F239 := by kernel_rfl
abbrev F242.fr := fr2
def F242.b0 : IR := (iSr [iQo 1 (.mv (.c .nils))] (iSr [iSm 0, iCa 282 [(.c .nils), aS0], iQm 1 0] .ret))
def F242.res : List RV := [.t (.of 1)]
def F242 : Fn := { params := [(.of 0)], res := F242.res, body := F242.b0, init := in2 }
theorem F242.ok : fnA Tryz.prog Tryz.f242 [0, 2] = some F242 := by kernel_rfl
abbrev F243.fr := fr2
def F243.b0 : IR := (iSr [iSm 0, .s (.len aS0), iQm 1 0] (.reg [iSm 0, iSm 1, iSm 1, .s (.conv .u64 aS0), iCa 284 [aS0], iCa 283 [aS4, aC0, aS3, aS0]]))
def F243.res : List RV := []
def F243 : Fn := { params := [(.of 0)], res := F243.res, body := F243.b0, init := in2 }
theorem F243.ok : fnA Tryz.prog Tryz.f243 [0, 2] = some F243 := by kernel_rfl
abbrev F244.fr := fr8
def F244.b6 : IR := (iSr [.s (.iaddr 1 aT3 aT5), .s (.load aS0), iQm 2 0] (iSr [iSm 0, iSm 2, .w .push none (.call aS1 [aS0]), iQo 7 (.not aS0)] (.cond aT7 .ret .skip)))
def F244.g5 (X6 : IR) : IR := (.block 1 X6)
def F244.b5 : IR := F244.g5 F244.b6
def F244.b7 : IR := (.reg [.s (.bin .add .int aT5 aC1), iQm 5 0])
def F244.g4 (X5 X7 : IR) : IR := (.seq X5 X7)
def F244.b4 : IR := F244.g4 F244.b5 F244.b7
def F244.g3 (X4 : IR) : IR := (iSr [iQo 6 (.bin .lss .int aT5 aT4)] (.seq (.cond aT6 .skip (.exit 0)) X4))
def F244.b3 : IR := F244.g3 F244.b4
def F244.g2 (X3 : IR) : IR := (.loop X3)
def F244.b2 : IR := F244.g2 F244.b3
def F244.g1 (X2 : IR) : IR := (.block 0 X2)
def F244.b1 : IR := F244.g1 F244.b2
def F244.g0 (X1 : IR) : IR := (iSr [iQo 3 (.load aT1), iQo 4 (.len aT3), iQo 5 (.mv aC0)] X1)
def F244.b0 : IR := F244.g0 F244.b1
def F244.res : List RV := []
def F244 : Fn := { params := [(.of 0), (.of 1)], res := F244.res, body := F244.b0, init := in8 }
theorem F244.ok : fnA Tryz.prog Tryz.f244 [0, 1, 4, 5, 6, 7, 8, 14] = some F244 := by kernel_rfl
abbrev F245.fr := fr8
def F245.b6 : IR := (iSr [iSm 5, iQm 3 0] (iSr [iSm 1, iSm 0, iSm 3, .s (.iaddr 1 aS1 aS0), .s (.load aS0), iWl 7 (.call aS4 [aS0])] (.cond aT7 (iSr [iSm 3, iQm 2 0] .ret) .skip)))
def F245.g5 (X6 : IR) : IR := (.block 1 X6)
def F245.b5 : IR := F245.g5 F245.b6
def F245.b7 : IR := (.reg [.s (.bin .add .int aT5 aC1), iQm 5 0])
def F245.g4 (X5 X7 : IR) : IR := (.seq X5 X7)
def F245.b4 : IR := F245.g4 F245.b5 F245.b7
def F245.g3 (X4 : IR) : IR := (iSr [iQo 6 (.bin .lss .int aT5 aT4)] (.seq (.cond aT6 .skip (.exit 0)) X4))
def F245.b3 : IR := F245.g3 F245.b4
def F245.g2 (X3 : IR) : IR := (.loop X3)
def F245.b2 : IR := F245.g2 F245.b3
def F245.g1 (X2 : IR) : IR := (.block 0 X2)
def F245.b1 : IR := F245.g1 F245.b2
def F245.b8 : IR := (iSr [iQo 2 (.mv (.c (I (-1))))] .ret)
def F245.g0 (X1 X8 : IR) : IR := (iSr [iQo 2 (.mv aC0)] (.seq (iSr [iSm 0, iQo 4 (.len aS0), iQo 5 (.mv aC0)] X1) X8))
def F245.b0 : IR := F245.g0 F245.b1 F245.b8
def F245.res : List RV := [.t (.of 2)]
def F245 : Fn := { params := [(.of 0), (.of 1)], res := F245.res, body := F245.b0, init := in8 }
theorem F245.ok : fnA Tryz.prog Tryz.f245 [0, 1, 4, 5, 7, 8, 9, 16] = some F245 := by kernel_rfl
abbrev F246.fr := fr3
def F246.b0 : IR := (iSr [iWl 1 (.box aT0), iQo 2 (.mv (.c (.bool false)))] (iSr [.s (.loadN 2 aT1), iCa 285 [aS0], .s (.bin .gtr .int aS0 aC1800), .s (.mv aS0), iPt 0 (.loadN 2 aT1), .w .push (some (aS1, true)) (.call (.c (.fn 188 (.of 188) [])) [aS0]), .w .push (some (aS2, true)) (.call (.c (.fn 286 (.of 286) [])) [aS0, (.c (.str [45]))]), iPt 3 (.slen aS0), iPt 4 (.bin .gtr .int aS0 aC600), .s (.pick aS5 aS0 (.c (.bool false))), iQm 2 0] .ret))
def F246.res : List RV := [.t (.of 2)]
def F246 : Fn := { params := [(.of 0)], res := F246.res, body := F246.b0, init := in3 }
theorem F246.ok : fnA Tryz.prog Tryz.f246 [0, 1, 2] = some F246 := by kernel_rfl
abbrev F247.fr := fr8
def F247.b6 : IR := (iSr [iSm 5, iQm 3 0] (iSr [iSm 1, iSm 0, iSm 3, .s (.iaddr 1 aS1 aS0), .s (.load aS0), iQo 7 (.bin .eql .int aS4 aS0)] (.cond aT7 (iSr [iSm 3, iQm 2 0] .ret) .skip)))
def F247.g5 (X6 : IR) : IR := (.block 1 X6)
def F247.b5 : IR := F247.g5 F247.b6
def F247.b7 : IR := (.reg [.s (.bin .add .int aT5 aC1), iQm 5 0])
def F247.g4 (X5 X7 : IR) : IR := (.seq X5 X7)
def F247.b4 : IR := F247.g4 F247.b5 F247.b7
def F247.g3 (X4 : IR) : IR := (iSr [iQo 6 (.bin .lss .int aT5 aT4)] (.seq (.cond aT6 .skip (.exit 0)) X4))
def F247.b3 : IR := F247.g3 F247.b4
def F247.g2 (X3 : IR) : IR := (.loop X3)
def F247.b2 : IR := F247.g2 F247.b3
def F247.g1 (X2 : IR) : IR := (.block 0 X2)
def F247.b1 : IR := F247.g1 F247.b2
def F247.b8 : IR := (iSr [iQo 2 (.mv (.c (I (-1))))] .ret)
def F247.g0 (X1 X8 : IR) : IR := (iSr [iQo 2 (.mv aC0)] (.seq (iSr [iSm 0, iQo 4 (.len aS0), iQo 5 (.mv aC0)] X1) X8))
def F247.b0 : IR := F247.g0 F247.b1 F247.b8
def F247.res : List RV := [.t (.of 2)]
def F247 : Fn := { params := [(.of 0), (.of 1)], res := F247.res, body := F247.b0, init := in8 }
theorem F247.ok : fnA Tryz.prog Tryz.f247 [0, 1, 4, 5, 7, 8, 9, 16] = some F247 := by kernel_rfl
abbrev F248.fr := fr2
def F248.b0 : IR := (iSr [iQo 1 (.mv (.c (.str [])))] (iSr [iSm 0, iCa 287 [aS0], iQm 1 0] .ret))
def F248.res : List RV := [.t (.of 1)]
def F248 : Fn := { params := [(.of 0)], res := F248.res, body := F248.b0, init := in2 }
theorem F248.ok : fnA Tryz.prog Tryz.f248 [0, 2] = some F248 := by kernel_rfl
abbrev F249.fr := fr6
def F249.b2 : IR := (iSr [.s (.faddr 1 aT1), .s (.load aS0), .s (.bin .neq (.nil .sl) aS0 (.c .nils)), iQm 4 0] (.cond aT4 (.seq (.dreg [] [(.s (.faddr 0 aT1), 0, []), (.s (.load aS0), 0, []), (.s (.bin .lss .int aS0 aC0), 0, []), (.s (.faddr 1 aT1), 0, []), (.s (.load aS0), 0, []), (iQm 2 2, 0, []), (iQm 3 0, 0, [])]) .ret) (iSr [.s (.faddr 0 aT1), .s (.load aS0), .s (.bin .eql .int aS0 aC0), iQm 5 0] (.cond aT5 (iSr [iQo 2 (.mv (.c (.bool false))), iQo 3 (.mv (.c .nils))] .ret) .skip))))
def F249.g1 (X2 : IR) : IR := (.block 0 X2)
def F249.b1 : IR := F249.g1 F249.b2
def F249.b3 : IR := (.seq (.dreg [] [(.s (.faddr 0 aT1), 2, []), (.s (.load aS0), 2, []), (.s (.bin .lss .int aS0 aC0), 2, []), (.s (.faddr 0 aT1), 0, []), (.s (.load aS0), 0, []), (iCa 264 [aS0], 0, []), (iQm 2 3, 1, []), (.w .push none (.bslice 1 1 [(.int .u64 0)] [(0, 1, aS0)]), 0, []), (iQm 3 0, 0, [])]) .ret)
def F249.g0 (X1 X3 : IR) : IR := (iSr [iWl 1 (.box aT0), iQo 2 (.mv (.c (.bool false))), iQo 3 (.mv (.c .nils))] (.seq X1 X3))
def F249.b0 : IR := F249.g0 F249.b1 F249.b3
def F249.res : List RV := [.t (.of 2), .t (.of 3)]
def F249 : Fn := { params := [(.of 0)], res := F249.res, body := F249.b0, init := in6 }
theorem F249.ok : fnA Tryz.prog Tryz.f249 [0, 1, 2, 3, 4, 13] = some F249 := by kernel_rfl
abbrev F258.fr := fr7
def F258.b5 : IR := (iSr [.s (.loadN 2 aT2), .s (.loadN 2 aT3), iCa 201 [aS1, aS0], .s (.mv aS0), .s (.ext 0 aS0), .s (.ext 1 aS1), .w .push none (.alloc [(I 0), .nils]), iWl 5 (.alloc [(I 0), .nils]), .w .none none (.store 2 aS0 aS2), .w .none none (.store 2 aT5 aS1)] (.dreg [] [(.s (.loadN 2 aT3), 0, []), (.s (.loadN 2 aT5), 1, []), (.w .none none (.store 2 aT2 aS1), 0, []), (.w .none none (.store 2 aT3 aS0), 0, [])]))
def F258.g4 (X5 : IR) : IR := (.block 1 X5)
def F258.b4 : IR := F258.g4 F258.b5
def F258.g3 (X4 : IR) : IR := (.seq (iSr [.s (.loadN 2 aT3), iCa 194 [aS0], iQo 6 (.bin .neq .int aS0 aC0)] (.cond aT6 .skip (.exit 0))) X4)
def F258.b3 : IR := F258.g3 F258.b4
def F258.g2 (X3 : IR) : IR := (.loop X3)
def F258.b2 : IR := F258.g2 F258.b3
def F258.g1 (X2 : IR) : IR := (.block 0 X2)
def F258.b1 : IR := F258.g1 F258.b2
def F258.b6 : IR := (iSr [.s (.loadN 2 aT2), .w .none none (.store 2 aT4 aS0)] .ret)
def F258.g0 (X1 X6 : IR) : IR := (iSr [iWl 2 (.box aT0), iWl 3 (.box aT1), iWl 4 (.alloc [(I 0), .nils])] (.seq (.dreg [] [(.s (.loadN 2 aT2), 0, []), (.s (.loadN 2 aT3), 1, []), (iCa 299 [aS1], 0, []), (iCa 299 [aS1], 0, []), (.w .none none (.store 2 aT2 aS1), 0, []), (.w .none none (.store 2 aT3 aS0), 0, [])]) (.seq X1 X6)))
def F258.b0 : IR := F258.g0 F258.b1 F258.b6
def F258.res : List RV := [.cell (.of 4) (some 2)]
def F258 : Fn := { params := [(.of 0), (.of 1)], res := F258.res, body := F258.b0, init := in7 }
theorem F258.ok : fnA Tryz.prog Tryz.f258 [0, 1, 2, 3, 4, 6, 13] = some F258 := by kernel_rfl
abbrev F259.fr := fr7
def F259.b1 : IR := (iSr [.s (.loadN 2 aT2), .s (.loadN 2 aT3), iCa 201 [aS1, aS0], .s (.mv aS0), .s (.ext 0 aS0), .s (.ext 1 aS1), iWl 5 (.alloc [(I 0), .nils]), .w .push none (.alloc [(I 0), .nils]), .w .none none (.store 2 aT5 aS2), .w .none none (.store 2 aS0 aS1)] (iSr [.s (.loadN 2 aT5), .w .none none (.store 2 aT4 aS0)] .ret))
def F259.g0 (X1 : IR) : IR := (iSr [iWl 2 (.box aT0), iWl 3 (.box aT1), iWl 4 (.alloc [(I 0), .nils])] (.seq (iSr [.s (.loadN 2 aT3), iCa 194 [aS0], iQo 6 (.bin .lss .int aS0 aC0)] (.cond aT6 (.dreg [] [(.s (.loadN 2 aT2), 0, []), (.s (.loadN 2 aT3), 1, []), (iCa 193 [aS1], 0, []), (iCa 193 [aS1], 0, []), (.w .none none (.store 2 aT2 aS1), 0, []), (.w .none none (.store 2 aT3 aS0), 0, [])]) .skip)) X1))
def F259.b0 : IR := F259.g0 F259.b1
def F259.res : List RV := [.cell (.of 4) (some 2)]
def F259 : Fn := { params := [(.of 0), (.of 1)], res := F259.res, body := F259.b0, init := in7 }
theorem F259.ok : fnA Tryz.prog Tryz.f259 [0, 1, 2, 3, 4, 5, 9] = some F259 := by kernel_rfl
abbrev F263.fr := fr12
def F263.b0 : IR := (iSr [iQo 2 (.mv (.c (.int .u64 0))), iQo 3 (.mv (.c (.int .u64 0)))] (iSr [iSm 0, .s (.bin .and .int aS0 (.c (.int .u64 4294967295))), iQm 4 0] (iSr [iSm 0, .s (.bin .shr .int aS0 (.c (.int .u64 32))), iQm 5 0] (iSr [iSm 1, .s (.bin .and .int aS0 (.c (.int .u64 4294967295))), iQm 6 0] (iSr [iSm 1, .s (.bin .shr .int aS0 (.c (.int .u64 32))), iQm 7 0] (iSr [iSm 4, iSm 6, .s (.bin .mul .int aS1 aS0), iQm 8 0] (iSr [iSm 5, iSm 6, .s (.bin .mul .int aS1 aS0), iSm 8, .s (.bin .shr .int aS0 (.c (.int .u64 32))), .s (.bin .add .int aS2 aS0), iQm 9 0] (iSr [iSm 9, .s (.bin .and .int aS0 (.c (.int .u64 4294967295))), iQm 10 0] (iSr [iSm 9, .s (.bin .shr .int aS0 (.c (.int .u64 32))), iQm 11 0] (iSr [iSm 10, iSm 4, iSm 7, .s (.bin .mul .int aS1 aS0), .s (.bin .add .int aS3 aS0), iQm 10 0] (iSr [iSm 5, iSm 7, .s (.bin .mul .int aS1 aS0), iSm 11, .s (.bin .add .int aS1 aS0), iSm 10, .s (.bin .shr .int aS0 (.c (.int .u64 32))), .s (.bin .add .int aS2 aS0), iQm 2 0] (iSr [iSm 0, iSm 1, .s (.bin .mul .int aS1 aS0), iQm 3 0] .ret))))))))))))
def F263.res : List RV := [.t (.of 2), .t (.of 3)]
def F263 : Fn := { params := [(.of 0), (.of 1)], res := F263.res, body := F263.b0, init := in12 }
theorem F263.ok : fnA Tryz.prog Tryz.f263 [0, 1, 4, 5, 6, 7, 8, 9, 10, 11, 12, 13] = some F263 := by kernel_rfl
abbrev F264.fr := fr3
def F264.b1 : IR := (iSr [iSm 0, .s (.conv .u64 aS0), iQm 1 0] .ret)
def F264.g0 (X1 : IR) : IR := (iSr [iQo 1 (.mv (.c (.int .u64 0)))] (.seq (iSr [iSm 0, iQo 2 (.bin .lss .int aS0 aC0)] (.cond aT2 (iSr [iSm 0, .s (.neg aS0), .s (.conv .u64 aS0), iQm 1 0] .ret) .skip)) X1))
def F264.b0 : IR := F264.g0 F264.b1
def F264.res : List RV := [.t (.of 1)]
def F264 : Fn := { params := [(.of 0)], res := F264.res, body := F264.b0, init := in3 }
theorem F264.ok : fnA Tryz.prog Tryz.f264 [0, 2, 4] = some F264 := by kernel_rfl
abbrev F272.fr := fr8
def F272.b6 : IR := (iSr [iSm 5, iQm 3 0] (iSr [iSm 1, iSm 3, .w .push none (.call aS1 [aS0]), iSm 1, .w .push none (.call aS0 [aC0]), iQo 7 (.bin .neq .int aS2 aS0)] (.cond aT7 (iSr [iQo 2 (.mv (.c (.bool false)))] .ret) .skip)))
def F272.g5 (X6 : IR) : IR := (.block 1 X6)
def F272.b5 : IR := F272.g5 F272.b6
def F272.b7 : IR := (.reg [.s (.bin .add .int aT5 aC1), iQm 5 0])
def F272.g4 (X5 X7 : IR) : IR := (.seq X5 X7)
def F272.b4 : IR := F272.g4 F272.b5 F272.b7
def F272.g3 (X4 : IR) : IR := (iSr [iQo 6 (.bin .lss .int aT5 aT4)] (.seq (.cond aT6 .skip (.exit 0)) X4))
def F272.b3 : IR := F272.g3 F272.b4
def F272.g2 (X3 : IR) : IR := (.loop X3)
def F272.b2 : IR := F272.g2 F272.b3
def F272.g1 (X2 : IR) : IR := (.block 0 X2)
def F272.b1 : IR := F272.g1 F272.b2
def F272.b8 : IR := (iSr [iQo 2 (.mv (.c (.bool true)))] .ret)
def F272.g0 (X1 X8 : IR) : IR := (iSr [iQo 2 (.mv (.c (.bool false)))] (.seq (iSr [iQo 4 (.mv aT0), iQo 5 (.mv aC0)] X1) X8))
def F272.b0 : IR := F272.g0 F272.b1 F272.b8
def F272.res : List RV := [.t (.of 2)]
def F272 : Fn := { params := [(.of 0), (.of 1)], res := F272.res, body := F272.b0, init := in8 }
theorem F272.ok : fnA Tryz.prog Tryz.f272 [0, 1, 4, 5, 6, 7, 8, 15] = some F272 := by kernel_rfl
abbrev F273.fr := fr3
def F273.b0 : IR := (iSr [iQo 2 (.mv aC0)] (.seq (.dreg [] [(.s (.faddr 1 aT1), 0, []), (.s (.load aS0), 0, []), (iSm 0, 0, []), (.s (.iaddr 1 aS1 aS0), 0, []), (.s (.load aS0), 0, []), (.s (.faddr 1 aT1), 0, []), (.s (.load aS0), 0, []), (.s (.faddr 1 aT1), 0, []), (.s (.load aS0), 0, []), (.s (.len aS0), 0, []), (.s (.bin .sub .int aS0 aC1), 0, []), (iSm 0, 0, []), (.s (.bin .sub .int aS1 aS0), 0, []), (.s (.iaddr 1 aS6 aS0), 0, []), (.s (.load aS0), 0, []), (.s (.bin .add .int aS10 aS0), 0, []), (iQm 2 0, 0, [])]) .ret))
def F273.res : List RV := [.t (.of 2)]
def F273 : Fn := { params := [(.of 0), (.of 1)], res := F273.res, body := F273.b0, init := in3 }
theorem F273.ok : fnA Tryz.prog Tryz.f273 [0, 1, 3] = some F273 := by kernel_rfl
abbrev F274.fr := fr4
def F274.b0 : IR := (iSr [iQo 3 (.mv aC0)] (.seq (.dreg [] [(.s (.faddr 1 aT2), 0, []), (.s (.load aS0), 0, []), (iSm 0, 0, []), (.s (.faddr 0 aT2), 0, []), (.s (.load aS0), 0, []), (.s (.bin .rem .int aS2 aS0), 0, []), (.s (.faddr 0 aT2), 0, []), (.s (.load aS0), 0, []), (.s (.bin .mul .int aS2 aS0), 0, []), (iSm 1, 0, []), (.s (.faddr 0 aT2), 0, []), (.s (.load aS0), 0, []), (.s (.bin .rem .int aS2 aS0), 0, []), (.s (.bin .add .int aS4 aS0), 0, []), (.s (.iaddr 1 aS12 aS0), 0, []), (.s (.load aS0), 0, []), (iQm 3 0, 0, [])]) .ret))
def F274.res : List RV := [.t (.of 3)]
def F274 : Fn := { params := [(.of 0), (.of 1), (.of 2)], res := F274.res, body := F274.b0, init := in4 }
theorem F274.ok : fnA Tryz.prog Tryz.f274 [0, 1, 2, 5] = some F274 := by kernel_rfl
abbrev F275.fr := fr6
def F275.b0 : IR := (iSr [iQo 3 (.mv aC0)] (.seq (.dreg [] [(iSm 0, 0, []), (.s (.faddr 0 aT1), 0, []), (.s (.load aS0), 0, []), (.s (.bin .quo .int aS2 aS0), 0, []), (iSm 0, 0, []), (.s (.faddr 0 aT1), 0, []), (.s (.load aS0), 0, []), (.s (.bin .rem .int aS2 aS0), 0, []), (iQm 4 4, 0, []), (iQm 5 0, 0, [])]) (.seq (.dreg [] [(.s (.load aT2), 0, []), (iSm 4, 0, []), (iSm 5, 0, []), (.s (.load aT2), 1, []), (iSm 4, 1, []), (iSm 5, 1, []), (.s (.bin .add .int aS0 aC1), 1, []), (.s (.load aT2), 2, []), (iSm 4, 2, []), (.s (.bin .add .int aS0 aC1), 2, []), (iSm 5, 2, []), (.s (.load aT2), 3, []), (iSm 4, 3, []), (.s (.bin .add .int aS0 aC1), 3, []), (iSm 5, 3, []), (.s (.bin .add .int aS0 aC1), 3, []), (.w .push none (.call aS15 [aS14, aS13]), 0, []), (.w .push none (.call aS13 [aS12, aS10]), 0, []), (.s (.bin .add .int aS1 aS0), 2, []), (.w .push none (.call aS11 [aS9, aS8]), 0, []), (.s (.bin .add .int aS1 aS0), 1, []), (.w .push none (.call aS9 [aS7, aS5]), 0, []), (.s (.bin .add .int aS1 aS0), 0, []), (iQm 3 0, 0, [])]) .ret)))
def F275.res : List RV := [.t (.of 3)]
def F275 : Fn := { params := [(.of 0), (.of 1), (.of 2)], res := F275.res, body := F275.b0, init := in6 }
theorem F275.ok : fnA Tryz.prog Tryz.f275 [0, 1, 2, 4, 5, 6] = some F275 := by kernel_rfl
abbrev F276.fr := fr6
def F276.b0 : IR := (iSr [iQo 3 (.mv aC0)] (.seq (.dreg [] [(iSm 0, 0, []), (.s (.faddr 0 aT1), 0, []), (.s (.load aS0), 0, []), (.s (.bin .quo .int aS2 aS0), 0, []), (iSm 0, 0, []), (.s (.faddr 0 aT1), 0, []), (.s (.load aS0), 0, []), (.s (.bin .rem .int aS2 aS0), 0, []), (iQm 4 4, 0, []), (iQm 5 0, 0, [])]) (.seq (.dreg [] [(.s (.load aT2), 0, []), (iSm 4, 0, []), (iSm 5, 0, []), (.s (.load aT2), 1, []), (iSm 4, 1, []), (.s (.faddr 0 aT1), 1, []), (.s (.load aS0), 1, []), (.s (.bin .quo .int aS0 aC2), 1, []), (.s (.bin .add .int aS3 aS0), 1, []), (iSm 5, 1, []), (.s (.faddr 0 aT1), 1, []), (.s (.load aS0), 1, []), (.s (.bin .quo .int aS0 aC2), 1, []), (.s (.bin .add .int aS3 aS0), 1, []), (.w .push none (.call aS13 [aS12, aS11]), 0, []), (.w .push none (.call aS11 [aS6, aS1]), 0, []), (.s (.bin .add .int aS1 aS0), 0, []), (iQm 3 0, 0, [])]) .ret)))
def F276.res : List RV := [.t (.of 3)]
def F276 : Fn := { params := [(.of 0), (.of 1), (.of 2)], res := F276.res, body := F276.b0, init := in6 }
theorem F276.ok : fnA Tryz.prog Tryz.f276 [0, 1, 2, 4, 5, 6] = some F276 := by kernel_rfl
abbrev F277.fr := fr6
def F277.b6 : IR := (.dreg [] [(.s (.faddr 1 aT3), 0, []), (.s (.load aS0), 0, []), (.s (.faddr 1 aT1), 0, []), (.s (.load aS0), 0, []), (iSm 4, 0, []), (.s (.faddr 0 aT1), 0, []), (.s (.load aS0), 0, []), (.s (.bin .mul .int aS2 aS0), 0, []), (.s (.bin .add .int aS0 aC1), 0, []), (iSm 4, 0, []), (.s (.faddr 0 aT1), 0, []), (.s (.load aS0), 0, []), (.s (.bin .mul .int aS2 aS0), 0, []), (.s (.faddr 0 aT1), 0, []), (.s (.load aS0), 0, []), (.s (.bin .add .int aS2 aS0), 0, []), (.s (.bin .sub .int aS0 aC1), 0, []), (iSm 4, 0, []), (.s (.faddr 0 aT1), 0, []), (.s (.load aS0), 0, []), (.s (.bin .mul .int aS2 aS0), 0, []), (.s (.faddr 0 aT1), 0, []), (.s (.load aS0), 0, []), (.s (.bin .add .int aS2 aS0), 0, []), (.s (.bin .sub .int aS0 aC1), 0, []), (.s (.slice 1 aS21 (some aS16) (some aS8) (some aS0)), 0, []), (.w .push none (.app 1 8 aS24 aS0), 0, []), (.s (.faddr 1 aT3), 0, []), (.w .none none (.store 1 aS0 aS1), 0, [])])
def F277.g5 (X6 : IR) : IR := (.block 1 X6)
def F277.b5 : IR := F277.g5 F277.b6
def F277.b7 : IR := (.reg [iSm 4, .s (.bin .add .int aS0 aC1), iQm 4 0])
def F277.g4 (X5 X7 : IR) : IR := (.seq X5 X7)
def F277.b4 : IR := F277.g4 F277.b5 F277.b7
def F277.g3 (X4 : IR) : IR := (.seq (iSr [iSm 4, .s (.bin .add .int aS0 aC1), .s (.faddr 0 aT1), .s (.load aS0), iQo 5 (.bin .lss .int aS2 aS0)] (.cond aT5 .skip (.exit 0))) X4)
def F277.b3 : IR := F277.g3 F277.b4
def F277.g2 (X3 : IR) : IR := (.loop X3)
def F277.b2 : IR := F277.g2 F277.b3
def F277.g1 (X2 : IR) : IR := (.block 0 X2)
def F277.b1 : IR := F277.g1 F277.b2
def F277.b8 : IR := (iSr [.s (.loadN 2 aT3), .w .none none (.store 2 aT2 aS0)] .ret)
def F277.g0 (X1 X8 : IR) : IR := (iSr [iWl 1 (.box aT0), iWl 2 (.alloc [(I 0), .nils])] (iSr [.s (.faddr 0 aT1), .s (.load aS0), .s (.bin .sub .int aS0 aC2), .s (.build [(I 0), .nils] [(0, 1, aS0)]), iWl 3 (.alloc [(I 0), .nils]), .w .none none (.store 2 aT3 aS0)] (.seq (iSr [iQo 4 (.mv aC1)] X1) X8)))
def F277.b0 : IR := F277.g0 F277.b1 F277.b8
def F277.res : List RV := [.cell (.of 2) (some 2)]
def F277 : Fn := { params := [(.of 0)], res := F277.res, body := F277.b0, init := in6 }
theorem F277.ok : fnA Tryz.prog Tryz.f277 [0, 1, 2, 3, 4, 13] = some F277 := by kernel_rfl
abbrev F278.fr := fr5
def F278.b2 : IR := (iSr [iSm 0, iQm 2 0] .ret)
def F278.g1 (X2 : IR) : IR := (.seq (iSr [iSm 1, iSm 0, .s (.capz aS0), iSm 0, .s (.len aS0), .s (.bin .sub .int aS2 aS0), .s (.bin .sub .int aS5 aS0), iQm 1 0] (iSr [iSm 1, iQo 4 (.bin .gtr .int aS0 aC0)] (.cond aT4 (.reg [iSm 0, iSm 0, .s (.capz aS0), .s (.slice 1 aS2 none (some aS0) none), iSm 1, .w .push none (.appm 1 24 [.nils] aS1 aS0), iSm 0, .s (.len aS0), .s (.slice 1 aS2 none (some aS0) none), iQm 0 0]) .skip))) X2)
def F278.b1 : IR := F278.g1 F278.b2
def F278.g0 (X1 : IR) : IR := (iSr [iQo 2 (.mv (.c .nils))] (.seq (iSr [iSm 1, iQo 3 (.bin .lss .int aS0 aC0)] (.cond aT3 (.bad 2) .skip)) X1))
def F278.b0 : IR := F278.g0 F278.b1
def F278.res : List RV := [.t (.of 2)]
def F278 : Fn := { params := [(.of 0), (.of 1)], res := F278.res, body := F278.b0, init := in5 }
theorem F278.ok : fnA Tryz.prog Tryz.f278 [0, 1, 4, 6, 16] = some F278 := by kernel_rfl
abbrev F279.fr := fr8
def F279.b6 : IR := (iSr [iSm 5, iWl 3 (.alloc [(I 0)]), .w .none none (.store 1 aT3 aS0)] (.seq (.dreg [] [(iSm 0, 1, []), (.s (.load aT3), 1, []), (.s (.load aT1), 0, []), (.s (.fn 280 (.of 280) [aT1, aT3, aT2]), 0, []), (iCa 137 [aS1, aS0], 0, []), (.w .push none (.call aS4 [aS3, aS0]), 0, []), (iQo 7 (.not aS0), 0, [])]) (.cond aT7 .ret .skip)))
def F279.g5 (X6 : IR) : IR := (.block 1 X6)
def F279.b5 : IR := F279.g5 F279.b6
def F279.b7 : IR := (.reg [.s (.bin .add .int aT5 aC1), iQm 5 0])
def F279.g4 (X5 X7 : IR) : IR := (.seq X5 X7)
def F279.b4 : IR := F279.g4 F279.b5 F279.b7
def F279.g3 (X4 : IR) : IR := (iSr [iQo 6 (.bin .lss .int aT5 aT4)] (.seq (.cond aT6 .skip (.exit 0)) X4))
def F279.b3 : IR := F279.g3 F279.b4
def F279.g2 (X3 : IR) : IR := (.loop X3)
def F279.b2 : IR := F279.g2 F279.b3
def F279.g1 (X2 : IR) : IR := (.block 0 X2)
def F279.b1 : IR := F279.g1 F279.b2
def F279.g0 (X1 : IR) : IR := (iSr [iQo 4 (.load aT1), iQo 5 (.mv aC0)] X1)
def F279.b0 : IR := F279.g0 F279.b1
def F279.res : List RV := []
def F279 : Fn := { params := [(.of 0), (.of 1), (.of 2)], res := F279.res, body := F279.b0, init := in8 }
theorem F279.ok : fnA Tryz.prog Tryz.f279 [0, 1, 2, 4, 5, 6, 7, 15] = some F279 := by kernel_rfl
abbrev F280.fr := fr5
def F280.b0 : IR := (iSr [iQo 4 (.mv aC0)] (.seq (.dreg [] [(.s (.load aT1), 0, []), (iSm 0, 0, []), (.s (.bin .mul .int aS1 aS0), 0, []), (.s (.load aT2), 0, []), (.s (.load aT3), 0, []), (iSm 0, 0, []), (.s (.bin .mul .int aS1 aS0), 0, []), (.s (.bin .add .int aS3 aS0), 0, []), (.s (.load aT1), 0, []), (.s (.bin .rem .int aS1 aS0), 0, []), (.s (.load aT1), 0, []), (.s (.bin .add .int aS1 aS0), 0, []), (.s (.load aT1), 0, []), (.s (.bin .rem .int aS1 aS0), 0, []), (.s (.bin .add .int aS11 aS0), 0, []), (iQm 4 0, 0, [])]) .ret))
def F280.res : List RV := [.t (.of 4)]
def F280 : Fn := { params := [(.of 0), (.of 1), (.of 2), (.of 3)], res := F280.res, body := F280.b0, init := in5 }
theorem F280.ok : fnA Tryz.prog Tryz.f280 [0, 1, 2, 3, 5] = some F280 := by kernel_rfl
abbrev F282.fr := fr7
def F282.b3 : IR := (.reg [iQo 4 (.mv aT6)])
def F282.b5 : IR := (.reg [.s (.load aT2), iSm 4, .w .push none (.bslice 1 1 [(I 0)] [(0, 1, aS0)]), .w .push none (.app 1 8 aS2 aS0), .w .none none (.store 1 aT2 aS0)])
def F282.g4 (X5 : IR) : IR := (.block 1 X5)
def F282.b4 : IR := F282.g4 F282.b5
def F282.g2 (X3 X4 : IR) : IR := (.rf aT5 [(.of 6)] X3 X4)
def F282.b2 : IR := F282.g2 F282.b3 F282.b4
def F282.g1 (X2 : IR) : IR := (.block 0 X2)
def F282.b1 : IR := F282.g1 F282.b2
def F282.b6 : IR := (iSr [.s (.load aT2), iQm 3 0] .ret)
def F282.g0 (X1 X6 : IR) : IR := (iSr [iWl 2 (.box aT0), iQo 3 (.mv (.c .nils))] (.seq (iSr [iQo 5 (.mv aT1)] X1) X6))
def F282.b0 : IR := F282.g0 F282.b1 F282.b6
def F282.res : List RV := [.t (.of 3)]
def F282 : Fn := { params := [(.of 0), (.of 1)], res := F282.res, body := F282.b0, init := in7 }
theorem F282.ok : fnA Tryz.prog Tryz.f282 [0, 1, 2, 4, 5, 6, 7] = some F282 := by kernel_rfl
abbrev F283.fr := fr23
def F283.b10 : IR := (iSr [iSm 0, iSm 1, iSm 2, iSm 7, iCa 310 [aS3, aS2, aS1, aS0], .s (.mv aS0), .s (.ext 0 aS0), .s (.ext 1 aS1), iQm 10 1, iQm 11 0] (iSr [iSm 11, iQm 5 0] (iSr [iSm 10, iSm 1, .s (.bin .sub .int aS1 aS0), iSm 2, iSm 10, .s (.bin .sub .int aS1 aS0), iQm 12 3, iQm 13 0] (iSr [iSm 6, .s (.bin .quo .int aS0 aC8), iQm 14 0] (iSr [iSm 12, iSm 13, iQo 22 (.bin .lss .int aS1 aS0)] (.cond aT22 (iSr [iSm 12, iSm 14, .s (.bin .geq .int aS1 aS0), iQm 4 0] (iSr [iSm 0, iSm 1, iSm 10, iSm 3, iCa 283 [aS3, aS2, aS1, aS0]] (.reg [iSm 10, .s (.bin .add .int aS0 aC1), iQm 1 0]))) (iSr [iSm 13, iSm 14, .s (.bin .geq .int aS1 aS0), iQm 4 0] (iSr [iSm 0, iSm 10, .s (.bin .add .int aS0 aC1), iSm 2, iSm 3, iCa 283 [aS4, aS2, aS1, aS0]] (.reg [iSm 10, iQm 2 0])))))))))
def F283.g9 (X10 : IR) : IR := (.seq (.seq (.dreg [] [(iSm 1, 0, []), (.s (.bin .gtr .int aS0 aC0), 0, []), (.s (.mv aS0), 0, []), (iPt 0 (.mv aT0), 0, []), (iPt 1 (.mv aT1), 0, []), (iPt 2 (.bin .sub .int aS0 aC1), 0, []), (iPt 3 (.iaddr 1 aS2 aS0), 0, []), (iPt 4 (.load aS0), 0, []), (iPt 5 (.mv aT0), 0, []), (iPt 6 (.mv aT7), 0, []), (iPt 7 (.iaddr 1 aS1 aS0), 0, []), (iPt 8 (.load aS0), 0, []), (.w .push (some (aS9, true)) (.call (.c (.fn 308 (.of 308) [])) [aS4, aS0]), 0, []), (iPt 10 (.not aS0), 0, []), (iQo 21 (.pick aS11 aS0 (.c (.bool false))), 0, [])]) (.cond aT21 (iSr [iSm 0, iSm 1, iSm 2, iSm 7, iCa 309 [aS3, aS2, aS1, aS0], iQm 9 0] (iSr [iSm 9, iQm 1 0] (.exit 1))) .skip)) X10)
def F283.b9 : IR := F283.g9 F283.b10
def F283.g8 (X9 : IR) : IR := (.seq (iSr [iSm 4, .s (.mv aS0), iPt 0 (.mv aT5), .s (.pick aS1 aS0 (.c (.bool false))), .s (.mv aS0), iPt 0 (.mv aT8), iPt 1 (.bin .eql .int aS0 aC1), iQo 19 (.pick aS2 aS0 (.c (.bool false)))] (.cond aT19 (iSr [iSm 0, iSm 1, iSm 2, iWl 20 (.call (.c (.fn 307 (.of 307) [])) [aS2, aS1, aS0])] (.cond aT20 .ret .skip)) .skip)) X9)
def F283.b8 : IR := F283.g8 F283.b9
def F283.g7 (X8 : IR) : IR := (iSr [iSm 0, iSm 1, iSm 2, iCa 305 [aS2, aS1, aS0], .s (.mv aS0), .s (.ext 0 aS0), .s (.ext 1 aS1), iQm 7 1, iQm 8 0] (.seq (iSr [iSm 8, iQo 18 (.bin .eql .int aS0 aC2)] (.cond aT18 (iSr [iSm 0, iSm 1, iSm 2, iCa 306 [aS2, aS1, aS0]] (iSr [iSm 2, .s (.bin .sub .int aS0 aC1), iSm 7, iSm 1, .s (.bin .sub .int aS1 aS0), .s (.bin .sub .int aS3 aS0), iQm 7 0] (.reg [iQo 8 (.mv aC1)]))) .skip)) X8))
def F283.b7 : IR := F283.g7 F283.b8
def F283.g6 (X7 : IR) : IR := (.seq (iSr [iSm 4, iQo 17 (.not aS0)] (.cond aT17 (iSr [iSm 0, iSm 1, iSm 2, iCa 304 [aS2, aS1, aS0]] (.reg [iSm 3, .s (.bin .sub .int aS0 aC1), iQm 3 0])) .skip)) X7)
def F283.b6 : IR := F283.g6 F283.b7
def F283.g5 (X6 : IR) : IR := (.seq (iSr [iSm 3, iQo 16 (.bin .eql .int aS0 aC0)] (.cond aT16 (iSr [iSm 0, iSm 1, iSm 2, iCa 303 [aS2, aS1, aS0]] .ret) .skip)) X6)
def F283.b5 : IR := F283.g5 F283.b6
def F283.g4 (X5 : IR) : IR := (iSr [iSm 2, iSm 1, .s (.bin .sub .int aS1 aS0), iQm 6 0] (.seq (iSr [iSm 6, iQo 15 (.bin .leq .int aS0 aC12)] (.cond aT15 (iSr [iSm 0, iSm 1, iSm 2, iCa 302 [aS2, aS1, aS0]] .ret) .skip)) X5))
def F283.b4 : IR := F283.g4 F283.b5
def F283.g3 (X4 : IR) : IR := (.block 1 X4)
def F283.b3 : IR := F283.g3 F283.b4
def F283.g2 (X3 : IR) : IR := (.loop X3)
def F283.b2 : IR := F283.g2 F283.b3
def F283.g1 (X2 : IR) : IR := (.block 0 X2)
def F283.b1 : IR := F283.g1 F283.b2
def F283.g0 (X1 : IR) : IR := (iSr [iQo 4 (.mv (.c (.bool true)))] (iSr [iQo 5 (.mv (.c (.bool true)))] X1))
def F283.b0 : IR := F283.g0 F283.b1
def F283.res : List RV := []
def F283 : Fn := { params := [(.of 0), (.of 1), (.of 2), (.of 3)], res := F283.res, body := F283.b0, init := in23 }
theorem F283.ok : fnA Tryz.prog Tryz.f283 [0, 1, 2, 3, 8, 9, 10, 11, 12, 13, 14, 15, 16, 17, 18, 23, 29, 35, 50, 68, 72, 87, 113] = some F283 := by kernel_rfl
abbrev F284.fr := fr2
def F284.b1 : IR := (iSr [iSm 0, iCa 312 [aS0], iQm 1 0] .ret)
def F284.g0 (X1 : IR) : IR := (iSr [iQo 1 (.mv aC0)] (.seq (.cond (.c (.bool false)) (iSr [iSm 0, .s (.conv .u32 aS0), iCa 311 [aS0], iQm 1 0] .ret) .skip) X1))
def F284.b0 : IR := F284.g0 F284.b1
def F284.res : List RV := [.t (.of 1)]
def F284 : Fn := { params := [(.of 0)], res := F284.res, body := F284.b0, init := in2 }
theorem F284.ok : fnA Tryz.prog Tryz.f284 [0, 2] = some F284 := by kernel_rfl
abbrev F285.fr := fr5
def F285.b1 : IR := (iSr [iSm 3, .s (.len aS0), .s (.bin .sub .int aS0 aC1), .s (.bin .mul .int aC64 aS0), iSm 3, iSm 3, .s (.len aS0), .s (.bin .sub .int aS0 aC1), .s (.iaddr 1 aS3 aS0), .s (.load aS0), iCa 312 [aS0], .s (.bin .add .int aS7 aS0), iQm 2 0] .ret)
def F285.g0 (X1 : IR) : IR := (iSr [iWl 1 (.box aT0), iQo 2 (.mv aC0)] (iSr [.s (.loadN 2 aT1), iCa 249 [aS0], .s (.mv aS0), .s (.ext 0 aS0), .s (.ext 1 aS1), .s (.mv aS1), iQm 3 1] (.seq (iSr [iSm 3, .s (.len aS0), iQo 4 (.bin .eql .int aS0 aC0)] (.cond aT4 (iSr [iQo 2 (.mv aC0)] .ret) .skip)) X1)))
def F285.b0 : IR := F285.g0 F285.b1
def F285.res : List RV := [.t (.of 2)]
def F285 : Fn := { params := [(.of 0)], res := F285.res, body := F285.b0, init := in5 }
theorem F285.ok : fnA Tryz.prog Tryz.f285 [0, 1, 2, 4, 12] = some F285 := by kernel_rfl
abbrev F286.fr := fr3
def F286.b0 : IR := (iSr [iQo 2 (.mv (.c (.str [])))] (iSr [iSm 0, iSm 1, iCa 313 [aS1, aS0], iQm 2 0] .ret))
def F286.res : List RV := [.t (.of 2)]
def F286 : Fn := { params := [(.of 0), (.of 1)], res := F286.res, body := F286.b0, init := in3 }
theorem F286.ok : fnA Tryz.prog Tryz.f286 [0, 1, 4] = some F286 := by kernel_rfl
abbrev F287.fr := fr2
def F287.b0 : IR := (iSr [iQo 1 (.mv (.c (.str [])))] (iSr [iSm 0, iCa 314 [aS0, aC10], iQm 1 0] .ret))
def F287.res : List RV := [.t (.of 1)]
def F287 : Fn := { params := [(.of 0)], res := F287.res, body := F287.b0, init := in2 }
theorem F287.ok : fnA Tryz.prog Tryz.f287 [0, 2] = some F287 := by kernel_rfl
abbrev F299.fr := fr4
def F299.b1 : IR := (iSr [.s (.loadN 2 aT1), .w .none none (.store 2 aT2 aS0)] .ret)
def F299.g0 (X1 : IR) : IR := (iSr [iWl 1 (.box aT0), iWl 2 (.alloc [(I 0), .nils])] (.seq (iSr [.s (.faddr 0 aT1), .s (.load aS0), iQo 3 (.bin .lss .int aS0 aC0)] (.cond aT3 (iSr [.s (.loadN 2 aT1), iCa 193 [aS0], .w .none none (.store 2 aT2 aS0)] .ret) .skip)) X1))
def F299.b0 : IR := F299.g0 F299.b1
def F299.res : List RV := [.cell (.of 2) (some 2)]
def F299 : Fn := { params := [(.of 0)], res := F299.res, body := F299.b0, init := in4 }
theorem F299.ok : fnA Tryz.prog Tryz.f299 [0, 1, 2, 5] = some F299 := by kernel_rfl
abbrev F302.fr := fr7
def F302.b12 : IR := (.dreg [] [(iSm 0, 0, []), (iSm 4, 0, []), (iSm 0, 1, []), (iSm 4, 1, []), (.s (.bin .sub .int aS0 aC1), 1, []), (iSm 0, 0, []), (iSm 4, 0, []), (.s (.bin .sub .int aS0 aC1), 0, []), (.s (.iaddr 1 aS2 aS0), 0, []), (.s (.load aS0), 0, []), (iSm 0, 0, []), (iSm 4, 0, []), (.s (.iaddr 1 aS1 aS0), 0, []), (.s (.load aS0), 0, []), (.s (.iaddr 1 aS13 aS12), 0, []), (.w .none none (.store 1 aS0 aS5), 0, []), (.s (.iaddr 1 aS12 aS10), 0, []), (.w .none none (.store 1 aS0 aS2), 0, [])])
def F302.g11 (X12 : IR) : IR := (.block 3 X12)
def F302.b11 : IR := F302.g11 F302.b12
def F302.b13 : IR := (.reg [iSm 4, .s (.bin .sub .int aS0 aC1), iQm 4 0])
def F302.g10 (X11 X13 : IR) : IR := (.seq X11 X13)
def F302.b10 : IR := F302.g10 F302.b11 F302.b13
def F302.g9 (X10 : IR) : IR := (.seq (.seq (.dreg [] [(iSm 4, 0, []), (iSm 1, 0, []), (.s (.bin .gtr .int aS1 aS0), 0, []), (.s (.mv aS0), 0, []), (iPt 0 (.mv aT0), 0, []), (iPt 1 (.mv aT4), 0, []), (iPt 2 (.iaddr 1 aS1 aS0), 0, []), (iPt 3 (.load aS0), 0, []), (iPt 4 (.mv aT0), 0, []), (iPt 5 (.mv aT4), 0, []), (iPt 6 (.bin .sub .int aS0 aC1), 0, []), (iPt 7 (.iaddr 1 aS2 aS0), 0, []), (iPt 8 (.load aS0), 0, []), (.w .push (some (aS9, true)) (.call (.c (.fn 308 (.of 308) [])) [aS5, aS0]), 0, []), (iQo 6 (.pick aS10 aS0 (.c (.bool false))), 0, [])]) (.cond aT6 .skip (.exit 2))) X10)
def F302.b9 : IR := F302.g9 F302.b10
def F302.g8 (X9 : IR) : IR := (.loop X9)
def F302.b8 : IR := F302.g8 F302.b9
def F302.g7 (X8 : IR) : IR := (.block 2 X8)
def F302.b7 : IR := F302.g7 F302.b8
def F302.g6 (X7 : IR) : IR := (iSr [iSm 3, iQm 4 0] X7)
def F302.b6 : IR := F302.g6 F302.b7
def F302.g5 (X6 : IR) : IR := (.block 1 X6)
def F302.b5 : IR := F302.g5 F302.b6
def F302.b14 : IR := (.reg [iSm 3, .s (.bin .add .int aS0 aC1), iQm 3 0])
def F302.g4 (X5 X14 : IR) : IR := (.seq X5 X14)
def F302.b4 : IR := F302.g4 F302.b5 F302.b14
def F302.g3 (X4 : IR) : IR := (.seq (iSr [iSm 3, iSm 2, iQo 5 (.bin .lss .int aS1 aS0)] (.cond aT5 .skip (.exit 0))) X4)
def F302.b3 : IR := F302.g3 F302.b4
def F302.g2 (X3 : IR) : IR := (.loop X3)
def F302.b2 : IR := F302.g2 F302.b3
def F302.g1 (X2 : IR) : IR := (.block 0 X2)
def F302.b1 : IR := F302.g1 F302.b2
def F302.g0 (X1 : IR) : IR := (iSr [iSm 1, .s (.bin .add .int aS0 aC1), iQm 3 0] X1)
def F302.b0 : IR := F302.g0 F302.b1
def F302.res : List RV := []
def F302 : Fn := { params := [(.of 0), (.of 1), (.of 2)], res := F302.res, body := F302.b0, init := in7 }
theorem F302.ok : fnA Tryz.prog Tryz.f302 [0, 1, 2, 6, 7, 12, 30] = some F302 := by kernel_rfl
abbrev F308.fr := fr3
def F308.b0 : IR := (iSr [iQo 2 (.mv (.c (.bool false)))] (iSr [iSm 0, iCa 328 [aS0], .s (.mv aS0), iPt 0 (.mv aT1), .w .push (some (aS1, true)) (.call (.c (.fn 328 (.of 328) [])) [aS0]), iPt 2 (.not aS0), .s (.pick aS3 aS0 (.c (.bool false))), .s (.mv aS0), iPf 0 (.mv aT0), iPf 1 (.mv aT1), iPf 2 (.bin .lss .int aS1 aS0), .s (.pick aS3 (.c (.bool true)) aS0), iQm 2 0] .ret))
def F308.res : List RV := [.t (.of 2)]
def F308 : Fn := { params := [(.of 0), (.of 1)], res := F308.res, body := F308.b0, init := in3 }
theorem F308.ok : fnA Tryz.prog Tryz.f308 [0, 1, 4] = some F308 := by kernel_rfl
abbrev F311.fr := fr4
def F311.b2 : IR := (iSr [iSm 1, iSm 0, .s (.conv .u8 aS0), .s (.sidx (.c (.str [0, 1, 2, 2, 3, 3, 3, 3, 4, 4, 4, 4, 4, 4, 4, 4, 5, 5, 5, 5, 5, 5, 5, 5, 5, 5, 5, 5, 5, 5, 5, 5, 6, 6, 6, 6, 6, 6, 6, 6, 6, 6, 6, 6, 6, 6, 6, 6, 6, 6, 6, 6, 6, 6, 6, 6, 6, 6, 6, 6, 6, 6, 6, 6, 7, 7, 7, 7, 7, 7, 7, 7, 7, 7, 7, 7, 7, 7, 7, 7, 7, 7, 7, 7, 7, 7, 7, 7, 7, 7, 7, 7, 7, 7, 7, 7, 7, 7, 7, 7, 7, 7, 7, 7, 7, 7, 7, 7, 7, 7, 7, 7, 7, 7, 7, 7, 7, 7, 7, 7, 7, 7, 7, 7, 7, 7, 7, 7, 8, 8, 8, 8, 8, 8, 8, 8, 8, 8, 8, 8, 8, 8, 8, 8, 8, 8, 8, 8, 8, 8, 8, 8, 8, 8, 8, 8, 8, 8, 8, 8, 8, 8, 8, 8, 8, 8, 8, 8, 8, 8, 8, 8, 8, 8, 8, 8, 8, 8, 8, 8, 8, 8, 8, 8, 8, 8, 8, 8, 8, 8, 8, 8, 8, 8, 8, 8, 8, 8, 8, 8, 8, 8, 8, 8, 8, 8, 8, 8, 8, 8, 8, 8, 8, 8, 8, 8, 8, 8, 8, 8, 8, 8, 8, 8, 8, 8, 8, 8, 8, 8, 8, 8, 8, 8, 8, 8, 8, 8, 8, 8, 8, 8, 8, 8, 8, 8, 8, 8, 8, 8, 8, 8, 8, 8, 8, 8])) aS0), .s (.conv .i64 aS0), .s (.bin .add .int aS4 aS0), iQm 1 0] .ret)
def F311.g1 (X2 : IR) : IR := (.seq (iSr [iSm 0, iQo 3 (.bin .geq .int aS0 (.c (.int .u32 256)))] (.cond aT3 (iSr [iSm 0, .s (.bin .shr .int aS0 (.c (.int .u64 8))), iQm 0 0] (.reg [iSm 1, .s (.bin .add .int aS0 aC8), iQm 1 0])) .skip)) X2)
def F311.b1 : IR := F311.g1 F311.b2
def F311.g0 (X1 : IR) : IR := (iSr [iQo 1 (.mv aC0)] (.seq (iSr [iSm 0, iQo 2 (.bin .geq .int aS0 (.c (.int .u32 65536)))] (.cond aT2 (iSr [iSm 0, .s (.bin .shr .int aS0 (.c (.int .u64 16))), iQm 0 0] (.reg [iQo 1 (.mv aC16)])) .skip)) X1))
def F311.b0 : IR := F311.g0 F311.b1
def F311.res : List RV := [.t (.of 1)]
def F311 : Fn := { params := [(.of 0)], res := F311.res, body := F311.b0, init := in4 }
theorem F311.ok : fnA Tryz.prog Tryz.f311 [0, 2, 4, 8] = some F311 := by kernel_rfl
abbrev F312.fr := fr5
def F312.b3 : IR := (iSr [iSm 1, iSm 0, .s (.conv .u8 aS0), .s (.sidx (.c (.str [0, 1, 2, 2, 3, 3, 3, 3, 4, 4, 4, 4, 4, 4, 4, 4, 5, 5, 5, 5, 5, 5, 5, 5, 5, 5, 5, 5, 5, 5, 5, 5, 6, 6, 6, 6, 6, 6, 6, 6, 6, 6, 6, 6, 6, 6, 6, 6, 6, 6, 6, 6, 6, 6, 6, 6, 6, 6, 6, 6, 6, 6, 6, 6, 7, 7, 7, 7, 7, 7, 7, 7, 7, 7, 7, 7, 7, 7, 7, 7, 7, 7, 7, 7, 7, 7, 7, 7, 7, 7, 7, 7, 7, 7, 7, 7, 7, 7, 7, 7, 7, 7, 7, 7, 7, 7, 7, 7, 7, 7, 7, 7, 7, 7, 7, 7, 7, 7, 7, 7, 7, 7, 7, 7, 7, 7, 7, 7, 8, 8, 8, 8, 8, 8, 8, 8, 8, 8, 8, 8, 8, 8, 8, 8, 8, 8, 8, 8, 8, 8, 8, 8, 8, 8, 8, 8, 8, 8, 8, 8, 8, 8, 8, 8, 8, 8, 8, 8, 8, 8, 8, 8, 8, 8, 8, 8, 8, 8, 8, 8, 8, 8, 8, 8, 8, 8, 8, 8, 8, 8, 8, 8, 8, 8, 8, 8, 8, 8, 8, 8, 8, 8, 8, 8, 8, 8, 8, 8, 8, 8, 8, 8, 8, 8, 8, 8, 8, 8, 8, 8, 8, 8, 8, 8, 8, 8, 8, 8, 8, 8, 8, 8, 8, 8, 8, 8, 8, 8, 8, 8, 8, 8, 8, 8, 8, 8, 8, 8, 8, 8, 8, 8, 8, 8, 8, 8])) aS0), .s (.conv .i64 aS0), .s (.bin .add .int aS4 aS0), iQm 1 0] .ret)
def F312.g2 (X3 : IR) : IR := (.seq (iSr [iSm 0, iQo 4 (.bin .geq .int aS0 (.c (.int .u64 256)))] (.cond aT4 (iSr [iSm 0, .s (.bin .shr .int aS0 (.c (.int .u64 8))), iQm 0 0] (.reg [iSm 1, .s (.bin .add .int aS0 aC8), iQm 1 0])) .skip)) X3)
def F312.b2 : IR := F312.g2 F312.b3
def F312.g1 (X2 : IR) : IR := (.seq (iSr [iSm 0, iQo 3 (.bin .geq .int aS0 (.c (.int .u64 65536)))] (.cond aT3 (iSr [iSm 0, .s (.bin .shr .int aS0 (.c (.int .u64 16))), iQm 0 0] (.reg [iSm 1, .s (.bin .add .int aS0 aC16), iQm 1 0])) .skip)) X2)
def F312.b1 : IR := F312.g1 F312.b2
def F312.g0 (X1 : IR) : IR := (iSr [iQo 1 (.mv aC0)] (.seq (iSr [iSm 0, iQo 2 (.bin .geq .int aS0 (.c (.int .u64 4294967296)))] (.cond aT2 (iSr [iSm 0, .s (.bin .shr .int aS0 (.c (.int .u64 32))), iQm 0 0] (.reg [iQo 1 (.mv aC32)])) .skip)) X1))
def F312.b0 : IR := F312.g0 F312.b1
def F312.res : List RV := [.t (.of 1)]
def F312 : Fn := { params := [(.of 0)], res := F312.res, body := F312.b0, init := in5 }
theorem F312.ok : fnA Tryz.prog Tryz.f312 [0, 2, 4, 8, 14] = some F312 := by kernel_rfl
abbrev F313.fr := fr4
def F313.b1 : IR := (iSr [iSm 0, iQm 2 0] .ret)
def F313.g0 (X1 : IR) : IR := (iSr [iQo 2 (.mv (.c (.str [])))] (.seq (iSr [iSm 0, iSm 1, iWl 3 (.call (.c (.fn 320 (.of 320) [])) [aS1, aS0])] (.cond aT3 (iSr [iSm 0, iSm 1, .s (.slen aS0), .s (.sslice aS2 (some aS0) none), iQm 2 0] .ret) .skip)) X1))
def F313.b0 : IR := F313.g0 F313.b1
def F313.res : List RV := [.t (.of 2)]
def F313 : Fn := { params := [(.of 0), (.of 1)], res := F313.res, body := F313.b0, init := in4 }
theorem F313.ok : fnA Tryz.prog Tryz.f313 [0, 1, 4, 7] = some F313 := by kernel_rfl
abbrev F314.fr := fr11
def F314.b3 : IR := (iSr [iSm 5, .s (.bin .add .int aC1 aS0), .s (.aslice 1 24 aT3 (some aC1) (some aS0) none), .s (.b2s aS0), iQm 2 0] .ret)
def F314.g2 (X3 : IR) : IR := (iSr [iSm 4, iCa 316 [aS0], iQm 5 0] (iSr [iSm 5, .s (.bin .add .int aC1 aS0), .s (.aslice 1 24 aT3 (some aC1) (some aS0) none), iSm 4, iCa 317 [aS1, aS0]] (.seq (iSr [iSm 0, iQo 10 (.bin .lss .int aS0 aC0)] (.cond aT10 (iSr [.s (.aaddr 1 24 aT3 aC0), .w .none none (.store 1 aS0 (.c (.int .u8 45)))] (iSr [iSm 5, .s (.bin .add .int aC1 aS0), .s (.aslice 1 24 aT3 none (some aS0) none), .s (.b2s aS0), iQm 2 0] .ret)) .skip)) X3)))
def F314.b2 : IR := F314.g2 F314.b3
def F314.g1 (X2 : IR) : IR := (iSr [iWl 3 (.alloc [(.int .u8 0), (.int .u8 0), (.int .u8 0), (.int .u8 0), (.int .u8 0), (.int .u8 0), (.int .u8 0), (.int .u8 0), (.int .u8 0), (.int .u8 0), (.int .u8 0), (.int .u8 0), (.int .u8 0), (.int .u8 0), (.int .u8 0), (.int .u8 0), (.int .u8 0), (.int .u8 0), (.int .u8 0), (.int .u8 0), (.int .u8 0), (.int .u8 0), (.int .u8 0), (.int .u8 0)])] (iSr [iSm 0, .s (.conv .u64 aS0), iQm 4 0] (.seq (iSr [iSm 0, iQo 9 (.bin .lss .int aS0 aC0)] (.cond aT9 (.reg [iSm 4, .s (.neg aS0), iQm 4 0]) .skip)) X2)))
def F314.b1 : IR := F314.g1 F314.b2
def F314.b4 : IR := (iSr [iSm 0, .s (.conv .u64 aS0), iSm 1, iSm 0, .s (.bin .lss .int aS0 aC0), iCa 318 [(.c .nils), aS3, aS2, aS0, (.c (.bool false))], .s (.mv aS0), .s (.ext 0 aS0), .s (.ext 1 aS1), .s (.mv aS1), iQm 6 1] (iSr [iSm 6, iQm 2 0] .ret))
def F314.g0 (X1 X4 : IR) : IR := (iSr [iQo 2 (.mv (.c (.str [])))] (.seq (iSr [iSm 1, iQo 7 (.bin .eql .int aS0 aC10)] (.cond aT7 (.seq (iSr [iSm 0, .s (.bin .leq .int aC0 aS0), .s (.mv aS0), iPt 0 (.mv aT0), iPt 1 (.bin .lss .int aS0 aC100), iQo 8 (.pick aS2 aS0 (.c (.bool false)))] (.cond aT8 (iSr [iSm 0, iCa 315 [aS0], iQm 2 0] .ret) .skip)) X1) .skip)) X4))
def F314.b0 : IR := F314.g0 F314.b1 F314.b4
def F314.res : List RV := [.t (.of 2)]
def F314 : Fn := { params := [(.of 0), (.of 1)], res := F314.res, body := F314.b0, init := in11 }
theorem F314.ok : fnA Tryz.prog Tryz.f314 [0, 1, 4, 5, 6, 7, 9, 11, 17, 23, 34] = some F314 := by kernel_rfl
abbrev F315.fr := fr3
def F315.b1 : IR := (iSr [iSm 0, .s (.bin .mul .int aS0 aC2), iSm 0, .s (.bin .mul .int aS0 aC2), .s (.bin .add .int aS0 aC2), .s (.sslice (.c (.str [48, 48, 48, 49, 48, 50, 48, 51, 48, 52, 48, 53, 48, 54, 48, 55, 48, 56, 48, 57, 49, 48, 49, 49, 49, 50, 49, 51, 49, 52, 49, 53, 49, 54, 49, 55, 49, 56, 49, 57, 50, 48, 50, 49, 50, 50, 50, 51, 50, 52, 50, 53, 50, 54, 50, 55, 50, 56, 50, 57, 51, 48, 51, 49, 51, 50, 51, 51, 51, 52, 51, 53, 51, 54, 51, 55, 51, 56, 51, 57, 52, 48, 52, 49, 52, 50, 52, 51, 52, 52, 52, 53, 52, 54, 52, 55, 52, 56, 52, 57, 53, 48, 53, 49, 53, 50, 53, 51, 53, 52, 53, 53, 53, 54, 53, 55, 53, 56, 53, 57, 54, 48, 54, 49, 54, 50, 54, 51, 54, 52, 54, 53, 54, 54, 54, 55, 54, 56, 54, 57, 55, 48, 55, 49, 55, 50, 55, 51, 55, 52, 55, 53, 55, 54, 55, 55, 55, 56, 55, 57, 56, 48, 56, 49, 56, 50, 56, 51, 56, 52, 56, 53, 56, 54, 56, 55, 56, 56, 56, 57, 57, 48, 57, 49, 57, 50, 57, 51, 57, 52, 57, 53, 57, 54, 57, 55, 57, 56, 57, 57])) (some aS3) (some aS0)), iQm 1 0] .ret)
def F315.g0 (X1 : IR) : IR := (iSr [iQo 1 (.mv (.c (.str [])))] (.seq (iSr [iSm 0, iQo 2 (.bin .lss .int aS0 aC10)] (.cond aT2 (iSr [iSm 0, iSm 0, .s (.bin .add .int aS0 aC1), .s (.sslice (.c (.str [48, 49, 50, 51, 52, 53, 54, 55, 56, 57, 97, 98, 99, 100, 101, 102, 103, 104, 105, 106, 107, 108, 109, 110, 111, 112, 113, 114, 115, 116, 117, 118, 119, 120, 121, 122])) (some aS2) (some aS0)), iQm 1 0] .ret) .skip)) X1))
def F315.b0 : IR := F315.g0 F315.b1
def F315.res : List RV := [.t (.of 1)]
def F315 : Fn := { params := [(.of 0)], res := F315.res, body := F315.b0, init := in3 }
theorem F315.ok : fnA Tryz.prog Tryz.f315 [0, 2, 4] = some F315 := by kernel_rfl
abbrev F316.fr := fr3
def F316.b0 : IR := (iSr [iQo 1 (.mv aC0)] (iSr [iSm 0, iCa 312 [aS0], iCa 329 [aS0], iQm 2 0] (iSr [iSm 2, iSm 0, iSm 2, .s (.aaddr 1 20 (.c (.fp (layL 2))) aS0), .s (.load aS0), .s (.bin .geq .int aS3 aS0), iCa 330 [aS0], .s (.bin .add .int aS6 aS0), iQm 1 0] .ret)))
def F316.res : List RV := [.t (.of 1)]
def F316 : Fn := { params := [(.of 0)], res := F316.res, body := F316.b0, init := in3 }
theorem F316.ok : fnA Tryz.prog Tryz.f316 [0, 2, 3] = some F316 := by kernel_rfl
abbrev F317.fr := fr19
def F317.b5 : IR := (iSr [iSm 1, .s (.bin .rem .int aS0 (.c (.int .u64 100000000))), .s (.conv .u32 aS0), iQm 3 0] (iSr [iSm 1, .s (.bin .quo .int aS0 (.c (.int .u64 100000000))), iQm 1 0] (iSr [iSm 3, .s (.bin .quo .int aS0 (.c (.int .u32 10000))), iSm 3, .s (.bin .rem .int aS0 (.c (.int .u32 10000))), iQm 4 2, iQm 5 0] (iSr [iSm 5, .s (.bin .quo .int aS0 (.c (.int .u32 100))), .s (.bin .mul .int aS0 (.c (.int .u32 2))), iSm 5, .s (.bin .rem .int aS0 (.c (.int .u32 100))), .s (.bin .mul .int aS0 (.c (.int .u32 2))), iQm 6 3, iQm 7 0] (iSr [iSm 4, .s (.bin .quo .int aS0 (.c (.int .u32 100))), .s (.bin .mul .int aS0 (.c (.int .u32 2))), iSm 4, .s (.bin .rem .int aS0 (.c (.int .u32 100))), .s (.bin .mul .int aS0 (.c (.int .u32 2))), iQm 8 3, iQm 9 0] (.seq (.dreg [] [(iSm 0, 0, []), (iSm 2, 0, []), (.s (.bin .sub .int aS0 aC1), 0, []), (iSm 0, 1, []), (iSm 2, 1, []), (.s (.bin .sub .int aS0 aC2), 1, []), (iSm 7, 0, []), (.s (.bin .add .int aS0 (.c (.int .u32 1))), 0, []), (.s (.sidx (.c (.str [48, 48, 48, 49, 48, 50, 48, 51, 48, 52, 48, 53, 48, 54, 48, 55, 48, 56, 48, 57, 49, 48, 49, 49, 49, 50, 49, 51, 49, 52, 49, 53, 49, 54, 49, 55, 49, 56, 49, 57, 50, 48, 50, 49, 50, 50, 50, 51, 50, 52, 50, 53, 50, 54, 50, 55, 50, 56, 50, 57, 51, 48, 51, 49, 51, 50, 51, 51, 51, 52, 51, 53, 51, 54, 51, 55, 51, 56, 51, 57, 52, 48, 52, 49, 52, 50, 52, 51, 52, 52, 52, 53, 52, 54, 52, 55, 52, 56, 52, 57, 53, 48, 53, 49, 53, 50, 53, 51, 53, 52, 53, 53, 53, 54, 53, 55, 53, 56, 53, 57, 54, 48, 54, 49, 54, 50, 54, 51, 54, 52, 54, 53, 54, 54, 54, 55, 54, 56, 54, 57, 55, 48, 55, 49, 55, 50, 55, 51, 55, 52, 55, 53, 55, 54, 55, 55, 55, 56, 55, 57, 56, 48, 56, 49, 56, 50, 56, 51, 56, 52, 56, 53, 56, 54, 56, 55, 56, 56, 56, 57, 57, 48, 57, 49, 57, 50, 57, 51, 57, 52, 57, 53, 57, 54, 57, 55, 57, 56, 57, 57])) aS0), 0, []), (iSm 7, 1, []), (.s (.sidx (.c (.str [48, 48, 48, 49, 48, 50, 48, 51, 48, 52, 48, 53, 48, 54, 48, 55, 48, 56, 48, 57, 49, 48, 49, 49, 49, 50, 49, 51, 49, 52, 49, 53, 49, 54, 49, 55, 49, 56, 49, 57, 50, 48, 50, 49, 50, 50, 50, 51, 50, 52, 50, 53, 50, 54, 50, 55, 50, 56, 50, 57, 51, 48, 51, 49, 51, 50, 51, 51, 51, 52, 51, 53, 51, 54, 51, 55, 51, 56, 51, 57, 52, 48, 52, 49, 52, 50, 52, 51, 52, 52, 52, 53, 52, 54, 52, 55, 52, 56, 52, 57, 53, 48, 53, 49, 53, 50, 53, 51, 53, 52, 53, 53, 53, 54, 53, 55, 53, 56, 53, 57, 54, 48, 54, 49, 54, 50, 54, 51, 54, 52, 54, 53, 54, 54, 54, 55, 54, 56, 54, 57, 55, 48, 55, 49, 55, 50, 55, 51, 55, 52, 55, 53, 55, 54, 55, 55, 55, 56, 55, 57, 56, 48, 56, 49, 56, 50, 56, 51, 56, 52, 56, 53, 56, 54, 56, 55, 56, 56, 56, 57, 57, 48, 57, 49, 57, 50, 57, 51, 57, 52, 57, 53, 57, 54, 57, 55, 57, 56, 57, 57])) aS0), 1, []), (.s (.iaddr 1 aS10 aS8), 0, []), (.w .none none (.store 1 aS0 aS3), 0, []), (.s (.iaddr 1 aS8 aS6), 0, []), (.w .none none (.store 1 aS0 aS2), 0, [])]) (.seq (.dreg [] [(iSm 0, 0, []), (iSm 2, 0, []), (.s (.bin .sub .int aS0 aC3), 0, []), (iSm 0, 1, []), (iSm 2, 1, []), (.s (.bin .sub .int aS0 aC4), 1, []), (iSm 6, 0, []), (.s (.bin .add .int aS0 (.c (.int .u32 1))), 0, []), (.s (.sidx (.c (.str [48, 48, 48, 49, 48, 50, 48, 51, 48, 52, 48, 53, 48, 54, 48, 55, 48, 56, 48, 57, 49, 48, 49, 49, 49, 50, 49, 51, 49, 52, 49, 53, 49, 54, 49, 55, 49, 56, 49, 57, 50, 48, 50, 49, 50, 50, 50, 51, 50, 52, 50, 53, 50, 54, 50, 55, 50, 56, 50, 57, 51, 48, 51, 49, 51, 50, 51, 51, 51, 52, 51, 53, 51, 54, 51, 55, 51, 56, 51, 57, 52, 48, 52, 49, 52, 50, 52, 51, 52, 52, 52, 53, 52, 54, 52, 55, 52, 56, 52, 57, 53, 48, 53, 49, 53, 50, 53, 51, 53, 52, 53, 53, 53, 54, 53, 55, 53, 56, 53, 57, 54, 48, 54, 49, 54, 50, 54, 51, 54, 52, 54, 53, 54, 54, 54, 55, 54, 56, 54, 57, 55, 48, 55, 49, 55, 50, 55, 51, 55, 52, 55, 53, 55, 54, 55, 55, 55, 56, 55, 57, 56, 48, 56, 49, 56, 50, 56, 51, 56, 52, 56, 53, 56, 54, 56, 55, 56, 56, 56, 57, 57, 48, 57, 49, 57, 50, 57, 51, 57, 52, 57, 53, 57, 54, 57, 55, 57, 56, 57, 57])) aS0), 0, []), (iSm 6, 1, []), (.s (.sidx (.c (.str [48, 48, 48, 49, 48, 50, 48, 51, 48, 52, 48, 53, 48, 54, 48, 55, 48, 56, 48, 57, 49, 48, 49, 49, 49, 50, 49, 51, 49, 52, 49, 53, 49, 54, 49, 55, 49, 56, 49, 57, 50, 48, 50, 49, 50, 50, 50, 51, 50, 52, 50, 53, 50, 54, 50, 55, 50, 56, 50, 57, 51, 48, 51, 49, 51, 50, 51, 51, 51, 52, 51, 53, 51, 54, 51, 55, 51, 56, 51, 57, 52, 48, 52, 49, 52, 50, 52, 51, 52, 52, 52, 53, 52, 54, 52, 55, 52, 56, 52, 57, 53, 48, 53, 49, 53, 50, 53, 51, 53, 52, 53, 53, 53, 54, 53, 55, 53, 56, 53, 57, 54, 48, 54, 49, 54, 50, 54, 51, 54, 52, 54, 53, 54, 54, 54, 55, 54, 56, 54, 57, 55, 48, 55, 49, 55, 50, 55, 51, 55, 52, 55, 53, 55, 54, 55, 55, 55, 56, 55, 57, 56, 48, 56, 49, 56, 50, 56, 51, 56, 52, 56, 53, 56, 54, 56, 55, 56, 56, 56, 57, 57, 48, 57, 49, 57, 50, 57, 51, 57, 52, 57, 53, 57, 54, 57, 55, 57, 56, 57, 57])) aS0), 1, []), (.s (.iaddr 1 aS10 aS8), 0, []), (.w .none none (.store 1 aS0 aS3), 0, []), (.s (.iaddr 1 aS8 aS6), 0, []), (.w .none none (.store 1 aS0 aS2), 0, [])]) (.seq (.dreg [] [(iSm 0, 0, []), (iSm 2, 0, []), (.s (.bin .sub .int aS0 aC5), 0, []), (iSm 0, 1, []), (iSm 2, 1, []), (.s (.bin .sub .int aS0 aC6), 1, []), (iSm 9, 0, []), (.s (.bin .add .int aS0 (.c (.int .u32 1))), 0, []), (.s (.sidx (.c (.str [48, 48, 48, 49, 48, 50, 48, 51, 48, 52, 48, 53, 48, 54, 48, 55, 48, 56, 48, 57, 49, 48, 49, 49, 49, 50, 49, 51, 49, 52, 49, 53, 49, 54, 49, 55, 49, 56, 49, 57, 50, 48, 50, 49, 50, 50, 50, 51, 50, 52, 50, 53, 50, 54, 50, 55, 50, 56, 50, 57, 51, 48, 51, 49, 51, 50, 51, 51, 51, 52, 51, 53, 51, 54, 51, 55, 51, 56, 51, 57, 52, 48, 52, 49, 52, 50, 52, 51, 52, 52, 52, 53, 52, 54, 52, 55, 52, 56, 52, 57, 53, 48, 53, 49, 53, 50, 53, 51, 53, 52, 53, 53, 53, 54, 53, 55, 53, 56, 53, 57, 54, 48, 54, 49, 54, 50, 54, 51, 54, 52, 54, 53, 54, 54, 54, 55, 54, 56, 54, 57, 55, 48, 55, 49, 55, 50, 55, 51, 55, 52, 55, 53, 55, 54, 55, 55, 55, 56, 55, 57, 56, 48, 56, 49, 56, 50, 56, 51, 56, 52, 56, 53, 56, 54, 56, 55, 56, 56, 56, 57, 57, 48, 57, 49, 57, 50, 57, 51, 57, 52, 57, 53, 57, 54, 57, 55, 57, 56, 57, 57])) aS0), 0, []), (iSm 9, 1, []), (.s (.sidx (.c (.str [48, 48, 48, 49, 48, 50, 48, 51, 48, 52, 48, 53, 48, 54, 48, 55, 48, 56, 48, 57, 49, 48, 49, 49, 49, 50, 49, 51, 49, 52, 49, 53, 49, 54, 49, 55, 49, 56, 49, 57, 50, 48, 50, 49, 50, 50, 50, 51, 50, 52, 50, 53, 50, 54, 50, 55, 50, 56, 50, 57, 51, 48, 51, 49, 51, 50, 51, 51, 51, 52, 51, 53, 51, 54, 51, 55, 51, 56, 51, 57, 52, 48, 52, 49, 52, 50, 52, 51, 52, 52, 52, 53, 52, 54, 52, 55, 52, 56, 52, 57, 53, 48, 53, 49, 53, 50, 53, 51, 53, 52, 53, 53, 53, 54, 53, 55, 53, 56, 53, 57, 54, 48, 54, 49, 54, 50, 54, 51, 54, 52, 54, 53, 54, 54, 54, 55, 54, 56, 54, 57, 55, 48, 55, 49, 55, 50, 55, 51, 55, 52, 55, 53, 55, 54, 55, 55, 55, 56, 55, 57, 56, 48, 56, 49, 56, 50, 56, 51, 56, 52, 56, 53, 56, 54, 56, 55, 56, 56, 56, 57, 57, 48, 57, 49, 57, 50, 57, 51, 57, 52, 57, 53, 57, 54, 57, 55, 57, 56, 57, 57])) aS0), 1, []), (.s (.iaddr 1 aS10 aS8), 0, []), (.w .none none (.store 1 aS0 aS3), 0, []), (.s (.iaddr 1 aS8 aS6), 0, []), (.w .none none (.store 1 aS0 aS2), 0, [])]) (.seq (.dreg [] [(iSm 0, 0, []), (iSm 2, 0, []), (.s (.bin .sub .int aS0 aC7), 0, []), (iSm 0, 1, []), (iSm 2, 1, []), (.s (.bin .sub .int aS0 aC8), 1, []), (iSm 8, 0, []), (.s (.bin .add .int aS0 (.c (.int .u32 1))), 0, []), (.s (.sidx (.c (.str [48, 48, 48, 49, 48, 50, 48, 51, 48, 52, 48, 53, 48, 54, 48, 55, 48, 56, 48, 57, 49, 48, 49, 49, 49, 50, 49, 51, 49, 52, 49, 53, 49, 54, 49, 55, 49, 56, 49, 57, 50, 48, 50, 49, 50, 50, 50, 51, 50, 52, 50, 53, 50, 54, 50, 55, 50, 56, 50, 57, 51, 48, 51, 49, 51, 50, 51, 51, 51, 52, 51, 53, 51, 54, 51, 55, 51, 56, 51, 57, 52, 48, 52, 49, 52, 50, 52, 51, 52, 52, 52, 53, 52, 54, 52, 55, 52, 56, 52, 57, 53, 48, 53, 49, 53, 50, 53, 51, 53, 52, 53, 53, 53, 54, 53, 55, 53, 56, 53, 57, 54, 48, 54, 49, 54, 50, 54, 51, 54, 52, 54, 53, 54, 54, 54, 55, 54, 56, 54, 57, 55, 48, 55, 49, 55, 50, 55, 51, 55, 52, 55, 53, 55, 54, 55, 55, 55, 56, 55, 57, 56, 48, 56, 49, 56, 50, 56, 51, 56, 52, 56, 53, 56, 54, 56, 55, 56, 56, 56, 57, 57, 48, 57, 49, 57, 50, 57, 51, 57, 52, 57, 53, 57, 54, 57, 55, 57, 56, 57, 57])) aS0), 0, []), (iSm 8, 1, []), (.s (.sidx (.c (.str [48, 48, 48, 49, 48, 50, 48, 51, 48, 52, 48, 53, 48, 54, 48, 55, 48, 56, 48, 57, 49, 48, 49, 49, 49, 50, 49, 51, 49, 52, 49, 53, 49, 54, 49, 55, 49, 56, 49, 57, 50, 48, 50, 49, 50, 50, 50, 51, 50, 52, 50, 53, 50, 54, 50, 55, 50, 56, 50, 57, 51, 48, 51, 49, 51, 50, 51, 51, 51, 52, 51, 53, 51, 54, 51, 55, 51, 56, 51, 57, 52, 48, 52, 49, 52, 50, 52, 51, 52, 52, 52, 53, 52, 54, 52, 55, 52, 56, 52, 57, 53, 48, 53, 49, 53, 50, 53, 51, 53, 52, 53, 53, 53, 54, 53, 55, 53, 56, 53, 57, 54, 48, 54, 49, 54, 50, 54, 51, 54, 52, 54, 53, 54, 54, 54, 55, 54, 56, 54, 57, 55, 48, 55, 49, 55, 50, 55, 51, 55, 52, 55, 53, 55, 54, 55, 55, 55, 56, 55, 57, 56, 48, 56, 49, 56, 50, 56, 51, 56, 52, 56, 53, 56, 54, 56, 55, 56, 56, 56, 57, 57, 48, 57, 49, 57, 50, 57, 51, 57, 52, 57, 53, 57, 54, 57, 55, 57, 56, 57, 57])) aS0), 1, []), (.s (.iaddr 1 aS10 aS8), 0, []), (.w .none none (.store 1 aS0 aS3), 0, []), (.s (.iaddr 1 aS8 aS6), 0, []), (.w .none none (.store 1 aS0 aS2), 0, [])]) (.reg [iSm 2, .s (.bin .sub .int aS0 aC8), iQm 2 0]))))))))))
def F317.g4 (X5 : IR) : IR := (.block 1 X5)
def F317.b4 : IR := F317.g4 F317.b5
def F317.g3 (X4 : IR) : IR := (.seq (iSr [iSm 2, iQo 15 (.bin .geq .int aS0 aC8)] (.cond aT15 .skip (.exit 0))) X4)
def F317.b3 : IR := F317.g3 F317.b4
def F317.g2 (X3 : IR) : IR := (.loop X3)
def F317.b2 : IR := F317.g2 F317.b3
def F317.g1 (X2 : IR) : IR := (.block 0 X2)
def F317.b1 : IR := F317.g1 F317.b2
def F317.b8 : IR := (iSr [iSm 2, iQo 18 (.bin .gtr .int aS0 aC0)] (.cond aT18 (.reg [iSm 0, iSm 10, .s (.bin .add .int (.c (.int .u32 48)) aS0), .s (.conv .u8 aS0), .s (.iaddr 1 aS3 aC0), .w .none none (.store 1 aS0 aS1)]) .skip))
def F317.g7 (X8 : IR) : IR := (.seq (iSr [iSm 2, iQo 17 (.bin .geq .int aS0 aC2)] (.cond aT17 (iSr [iSm 10, .s (.bin .rem .int aS0 (.c (.int .u32 100))), .s (.bin .mul .int aS0 (.c (.int .u32 2))), iQm 14 0] (iSr [iSm 10, .s (.bin .quo .int aS0 (.c (.int .u32 100))), iQm 10 0] (.seq (.dreg [] [(iSm 0, 0, []), (iSm 2, 0, []), (.s (.bin .sub .int aS0 aC1), 0, []), (iSm 0, 1, []), (iSm 2, 1, []), (.s (.bin .sub .int aS0 aC2), 1, []), (iSm 14, 0, []), (.s (.bin .add .int aS0 (.c (.int .u32 1))), 0, []), (.s (.sidx (.c (.str [48, 48, 48, 49, 48, 50, 48, 51, 48, 52, 48, 53, 48, 54, 48, 55, 48, 56, 48, 57, 49, 48, 49, 49, 49, 50, 49, 51, 49, 52, 49, 53, 49, 54, 49, 55, 49, 56, 49, 57, 50, 48, 50, 49, 50, 50, 50, 51, 50, 52, 50, 53, 50, 54, 50, 55, 50, 56, 50, 57, 51, 48, 51, 49, 51, 50, 51, 51, 51, 52, 51, 53, 51, 54, 51, 55, 51, 56, 51, 57, 52, 48, 52, 49, 52, 50, 52, 51, 52, 52, 52, 53, 52, 54, 52, 55, 52, 56, 52, 57, 53, 48, 53, 49, 53, 50, 53, 51, 53, 52, 53, 53, 53, 54, 53, 55, 53, 56, 53, 57, 54, 48, 54, 49, 54, 50, 54, 51, 54, 52, 54, 53, 54, 54, 54, 55, 54, 56, 54, 57, 55, 48, 55, 49, 55, 50, 55, 51, 55, 52, 55, 53, 55, 54, 55, 55, 55, 56, 55, 57, 56, 48, 56, 49, 56, 50, 56, 51, 56, 52, 56, 53, 56, 54, 56, 55, 56, 56, 56, 57, 57, 48, 57, 49, 57, 50, 57, 51, 57, 52, 57, 53, 57, 54, 57, 55, 57, 56, 57, 57])) aS0), 0, []), (iSm 14, 1, []), (.s (.sidx (.c (.str [48, 48, 48, 49, 48, 50, 48, 51, 48, 52, 48, 53, 48, 54, 48, 55, 48, 56, 48, 57, 49, 48, 49, 49, 49, 50, 49, 51, 49, 52, 49, 53, 49, 54, 49, 55, 49, 56, 49, 57, 50, 48, 50, 49, 50, 50, 50, 51, 50, 52, 50, 53, 50, 54, 50, 55, 50, 56, 50, 57, 51, 48, 51, 49, 51, 50, 51, 51, 51, 52, 51, 53, 51, 54, 51, 55, 51, 56, 51, 57, 52, 48, 52, 49, 52, 50, 52, 51, 52, 52, 52, 53, 52, 54, 52, 55, 52, 56, 52, 57, 53, 48, 53, 49, 53, 50, 53, 51, 53, 52, 53, 53, 53, 54, 53, 55, 53, 56, 53, 57, 54, 48, 54, 49, 54, 50, 54, 51, 54, 52, 54, 53, 54, 54, 54, 55, 54, 56, 54, 57, 55, 48, 55, 49, 55, 50, 55, 51, 55, 52, 55, 53, 55, 54, 55, 55, 55, 56, 55, 57, 56, 48, 56, 49, 56, 50, 56, 51, 56, 52, 56, 53, 56, 54, 56, 55, 56, 56, 56, 57, 57, 48, 57, 49, 57, 50, 57, 51, 57, 52, 57, 53, 57, 54, 57, 55, 57, 56, 57, 57])) aS0), 1, []), (.s (.iaddr 1 aS10 aS8), 0, []), (.w .none none (.store 1 aS0 aS3), 0, []), (.s (.iaddr 1 aS8 aS6), 0, []), (.w .none none (.store 1 aS0 aS2), 0, [])]) (.reg [iSm 2, .s (.bin .sub .int aS0 aC2), iQm 2 0])))) .skip)) X8)
def F317.b7 : IR := F317.g7 F317.b8
def F317.g6 (X7 : IR) : IR := (iSr [iSm 1, .s (.conv .u32 aS0), iQm 10 0] (.seq (iSr [iSm 2, iQo 16 (.bin .geq .int aS0 aC4)] (.cond aT16 (iSr [iSm 10, .s (.bin .rem .int aS0 (.c (.int .u32 10000))), iQm 11 0] (iSr [iSm 10, .s (.bin .quo .int aS0 (.c (.int .u32 10000))), iQm 10 0] (iSr [iSm 11, .s (.bin .quo .int aS0 (.c (.int .u32 100))), .s (.bin .mul .int aS0 (.c (.int .u32 2))), iSm 11, .s (.bin .rem .int aS0 (.c (.int .u32 100))), .s (.bin .mul .int aS0 (.c (.int .u32 2))), iQm 12 3, iQm 13 0] (.seq (.dreg [] [(iSm 0, 0, []), (iSm 2, 0, []), (.s (.bin .sub .int aS0 aC1), 0, []), (iSm 0, 1, []), (iSm 2, 1, []), (.s (.bin .sub .int aS0 aC2), 1, []), (iSm 13, 0, []), (.s (.bin .add .int aS0 (.c (.int .u32 1))), 0, []), (.s (.sidx (.c (.str [48, 48, 48, 49, 48, 50, 48, 51, 48, 52, 48, 53, 48, 54, 48, 55, 48, 56, 48, 57, 49, 48, 49, 49, 49, 50, 49, 51, 49, 52, 49, 53, 49, 54, 49, 55, 49, 56, 49, 57, 50, 48, 50, 49, 50, 50, 50, 51, 50, 52, 50, 53, 50, 54, 50, 55, 50, 56, 50, 57, 51, 48, 51, 49, 51, 50, 51, 51, 51, 52, 51, 53, 51, 54, 51, 55, 51, 56, 51, 57, 52, 48, 52, 49, 52, 50, 52, 51, 52, 52, 52, 53, 52, 54, 52, 55, 52, 56, 52, 57, 53, 48, 53, 49, 53, 50, 53, 51, 53, 52, 53, 53, 53, 54, 53, 55, 53, 56, 53, 57, 54, 48, 54, 49, 54, 50, 54, 51, 54, 52, 54, 53, 54, 54, 54, 55, 54, 56, 54, 57, 55, 48, 55, 49, 55, 50, 55, 51, 55, 52, 55, 53, 55, 54, 55, 55, 55, 56, 55, 57, 56, 48, 56, 49, 56, 50, 56, 51, 56, 52, 56, 53, 56, 54, 56, 55, 56, 56, 56, 57, 57, 48, 57, 49, 57, 50, 57, 51, 57, 52, 57, 53, 57, 54, 57, 55, 57, 56, 57, 57])) aS0), 0, []), (iSm 13, 1, []), (.s (.sidx (.c (.str [48, 48, 48, 49, 48, 50, 48, 51, 48, 52, 48, 53, 48, 54, 48, 55, 48, 56, 48, 57, 49, 48, 49, 49, 49, 50, 49, 51, 49, 52, 49, 53, 49, 54, 49, 55, 49, 56, 49, 57, 50, 48, 50, 49, 50, 50, 50, 51, 50, 52, 50, 53, 50, 54, 50, 55, 50, 56, 50, 57, 51, 48, 51, 49, 51, 50, 51, 51, 51, 52, 51, 53, 51, 54, 51, 55, 51, 56, 51, 57, 52, 48, 52, 49, 52, 50, 52, 51, 52, 52, 52, 53, 52, 54, 52, 55, 52, 56, 52, 57, 53, 48, 53, 49, 53, 50, 53, 51, 53, 52, 53, 53, 53, 54, 53, 55, 53, 56, 53, 57, 54, 48, 54, 49, 54, 50, 54, 51, 54, 52, 54, 53, 54, 54, 54, 55, 54, 56, 54, 57, 55, 48, 55, 49, 55, 50, 55, 51, 55, 52, 55, 53, 55, 54, 55, 55, 55, 56, 55, 57, 56, 48, 56, 49, 56, 50, 56, 51, 56, 52, 56, 53, 56, 54, 56, 55, 56, 56, 56, 57, 57, 48, 57, 49, 57, 50, 57, 51, 57, 52, 57, 53, 57, 54, 57, 55, 57, 56, 57, 57])) aS0), 1, []), (.s (.iaddr 1 aS10 aS8), 0, []), (.w .none none (.store 1 aS0 aS3), 0, []), (.s (.iaddr 1 aS8 aS6), 0, []), (.w .none none (.store 1 aS0 aS2), 0, [])]) (.seq (.dreg [] [(iSm 0, 0, []), (iSm 2, 0, []), (.s (.bin .sub .int aS0 aC3), 0, []), (iSm 0, 1, []), (iSm 2, 1, []), (.s (.bin .sub .int aS0 aC4), 1, []), (iSm 12, 0, []), (.s (.bin .add .int aS0 (.c (.int .u32 1))), 0, []), (.s (.sidx (.c (.str [48, 48, 48, 49, 48, 50, 48, 51, 48, 52, 48, 53, 48, 54, 48, 55, 48, 56, 48, 57, 49, 48, 49, 49, 49, 50, 49, 51, 49, 52, 49, 53, 49, 54, 49, 55, 49, 56, 49, 57, 50, 48, 50, 49, 50, 50, 50, 51, 50, 52, 50, 53, 50, 54, 50, 55, 50, 56, 50, 57, 51, 48, 51, 49, 51, 50, 51, 51, 51, 52, 51, 53, 51, 54, 51, 55, 51, 56, 51, 57, 52, 48, 52, 49, 52, 50, 52, 51, 52, 52, 52, 53, 52, 54, 52, 55, 52, 56, 52, 57, 53, 48, 53, 49, 53, 50, 53, 51, 53, 52, 53, 53, 53, 54, 53, 55, 53, 56, 53, 57, 54, 48, 54, 49, 54, 50, 54, 51, 54, 52, 54, 53, 54, 54, 54, 55, 54, 56, 54, 57, 55, 48, 55, 49, 55, 50, 55, 51, 55, 52, 55, 53, 55, 54, 55, 55, 55, 56, 55, 57, 56, 48, 56, 49, 56, 50, 56, 51, 56, 52, 56, 53, 56, 54, 56, 55, 56, 56, 56, 57, 57, 48, 57, 49, 57, 50, 57, 51, 57, 52, 57, 53, 57, 54, 57, 55, 57, 56, 57, 57])) aS0), 0, []), (iSm 12, 1, []), (.s (.sidx (.c (.str [48, 48, 48, 49, 48, 50, 48, 51, 48, 52, 48, 53, 48, 54, 48, 55, 48, 56, 48, 57, 49, 48, 49, 49, 49, 50, 49, 51, 49, 52, 49, 53, 49, 54, 49, 55, 49, 56, 49, 57, 50, 48, 50, 49, 50, 50, 50, 51, 50, 52, 50, 53, 50, 54, 50, 55, 50, 56, 50, 57, 51, 48, 51, 49, 51, 50, 51, 51, 51, 52, 51, 53, 51, 54, 51, 55, 51, 56, 51, 57, 52, 48, 52, 49, 52, 50, 52, 51, 52, 52, 52, 53, 52, 54, 52, 55, 52, 56, 52, 57, 53, 48, 53, 49, 53, 50, 53, 51, 53, 52, 53, 53, 53, 54, 53, 55, 53, 56, 53, 57, 54, 48, 54, 49, 54, 50, 54, 51, 54, 52, 54, 53, 54, 54, 54, 55, 54, 56, 54, 57, 55, 48, 55, 49, 55, 50, 55, 51, 55, 52, 55, 53, 55, 54, 55, 55, 55, 56, 55, 57, 56, 48, 56, 49, 56, 50, 56, 51, 56, 52, 56, 53, 56, 54, 56, 55, 56, 56, 56, 57, 57, 48, 57, 49, 57, 50, 57, 51, 57, 52, 57, 53, 57, 54, 57, 55, 57, 56, 57, 57])) aS0), 1, []), (.s (.iaddr 1 aS10 aS8), 0, []), (.w .none none (.store 1 aS0 aS3), 0, []), (.s (.iaddr 1 aS8 aS6), 0, []), (.w .none none (.store 1 aS0 aS2), 0, [])]) (.reg [iSm 2, .s (.bin .sub .int aS0 aC4), iQm 2 0])))))) .skip)) X7))
def F317.b6 : IR := F317.g6 F317.b7
def F317.g0 (X1 X6 : IR) : IR := (iSr [iSm 0, .s (.len aS0), iQm 2 0] (.seq X1 X6))
def F317.b0 : IR := F317.g0 F317.b1 F317.b6
def F317.res : List RV := []
def F317 : Fn := { params := [(.of 0), (.of 1)], res := F317.res, body := F317.b0, init := in19 }
theorem F317.ok : fnA Tryz.prog Tryz.f317 [0, 1, 4, 5, 6, 7, 8, 9, 10, 11, 12, 13, 14, 15, 16, 20, 99, 139, 161] = some F317 := by kernel_rfl
end
end Go.Ev
