import Derived.Test.YtepfaegpjddehaaGreatDoorIrA
import Derived.Test.YtepfaegpjddehaaGreatDoorEvC
import Derived.Test.YtepfaegpjddehaaGreatDoorProg
import Derived.KernelRfl
set_option linter.unusedSimpArgs false
set_option linter.unusedVariables false
namespace Go.Ev
open Go Go.Proofs
set_option maxRecDepth 100000
noncomputable section

abbrev F134.fr := fr16
def F134.b12 : IR := (.seq (.dreg [] [(.s (.load aT5), 0, []), (iSm 10, 0, []), (.s (.bin .shl .int (.c (.int .u64 1)) aS0), 0, []), (.s (.bin .andNot .int aS2 aS0), 0, []), (.w .none none (.store 1 aT5 aS0), 0, [])]) (iSr [iSm 11, iQo 15 (.not aS0)] (.cond aT15 (iSr [iQo 7 (.mv (.c (.bool false)))] .ret) .skip)))
def F134.g11 (X12 : IR) : IR := (.seq (.dreg [] [(.s (.load aT2), 0, []), (.s (.aaddr 1 2 aT9 aC0), 0, []), (.s (.load aS0), 0, []), (.s (.load aT2), 1, []), (.s (.aaddr 1 2 aT9 aC1), 1, []), (.s (.load aS0), 1, []), (.s (.load aT2), 0, []), (.s (.aaddr 1 2 aT9 aC0), 0, []), (.s (.load aS0), 0, []), (.s (.iaddr 1 aS2 aS0), 0, []), (.s (.load aS0), 0, []), (iSm 10, 0, []), (.s (.bin .sub .int aS1 aS0), 0, []), (.s (.load aT2), 0, []), (.s (.aaddr 1 2 aT9 aC1), 0, []), (.s (.load aS0), 0, []), (.s (.iaddr 1 aS2 aS0), 0, []), (.s (.load aS0), 0, []), (iSm 10, 1, []), (.s (.bin .sub .int aS1 aS0), 1, []), (.s (.iaddr 1 aS19 aS17), 0, []), (.w .none none (.store 1 aS0 aS8), 0, []), (.s (.iaddr 1 aS17 aS15), 0, []), (.w .none none (.store 1 aS0 aS2), 0, [])]) X12)
def F134.b11 : IR := F134.g11 F134.b12
def F134.g10 (X11 : IR) : IR := (iSr [.s (.load aT6), iSm 0, .s (.bin .add .int aS0 aC1), .w .push none (.call aS2 [aS0]), iQm 11 0] X11)
def F134.b10 : IR := F134.g10 F134.b11
def F134.g9 (X10 : IR) : IR := (.seq (.dreg [] [(.s (.load aT2), 0, []), (.s (.aaddr 1 2 aT9 aC0), 0, []), (.s (.load aS0), 0, []), (.s (.load aT2), 1, []), (.s (.aaddr 1 2 aT9 aC1), 1, []), (.s (.load aS0), 1, []), (.s (.load aT2), 0, []), (.s (.aaddr 1 2 aT9 aC0), 0, []), (.s (.load aS0), 0, []), (.s (.iaddr 1 aS2 aS0), 0, []), (.s (.load aS0), 0, []), (iSm 10, 0, []), (.s (.bin .add .int aS1 aS0), 0, []), (.s (.load aT2), 0, []), (.s (.aaddr 1 2 aT9 aC1), 0, []), (.s (.load aS0), 0, []), (.s (.iaddr 1 aS2 aS0), 0, []), (.s (.load aS0), 0, []), (iSm 10, 1, []), (.s (.bin .add .int aS1 aS0), 1, []), (.s (.iaddr 1 aS19 aS17), 0, []), (.w .none none (.store 1 aS0 aS8), 0, []), (.s (.iaddr 1 aS17 aS15), 0, []), (.w .none none (.store 1 aS0 aS2), 0, [])]) X10)
def F134.b9 : IR := F134.g9 F134.b10
def F134.g8 (X9 : IR) : IR := (iSr [.s (.load aT1), iSm 0, iSm 10, .s (.iaddr 1 aS2 aS1), .w .none none (.store 1 aS0 aS1)] (.seq (.dreg [] [(.s (.load aT5), 0, []), (iSm 10, 0, []), (.s (.bin .shl .int (.c (.int .u64 1)) aS0), 0, []), (.s (.bin .or .int aS2 aS0), 0, []), (.w .none none (.store 1 aT5 aS0), 0, [])]) X9))
def F134.b8 : IR := F134.g8 F134.b9
def F134.g7 (X8 : IR) : IR := (.seq (iSr [.s (.load aT5), iSm 10, .s (.bin .shr .int aS1 aS0), .s (.bin .and .int aS0 (.c (.int .u64 1))), iQo 14 (.bin .eql .int aS0 (.c (.int .u64 1)))] (.cond aT14 (.exit 1) .skip)) X8)
def F134.b7 : IR := F134.g7 F134.b8
def F134.g6 (X7 : IR) : IR := (.block 1 X7)
def F134.b6 : IR := F134.g6 F134.b7
def F134.b13 : IR := (.reg [iSm 10, .s (.bin .add .int aS0 aC1), iQm 10 0])
def F134.g5 (X6 X13 : IR) : IR := (.seq X6 X13)
def F134.b5 : IR := F134.g5 F134.b6 F134.b13
def F134.g4 (X5 : IR) : IR := (.seq (iSr [iSm 10, .s (.load aT1), .s (.len aS0), iQo 13 (.bin .leq .int aS2 aS0)] (.cond aT13 .skip (.exit 0))) X5)
def F134.b4 : IR := F134.g4 F134.b5
def F134.g3 (X4 : IR) : IR := (.loop X4)
def F134.b3 : IR := F134.g3 F134.b4
def F134.g2 (X3 : IR) : IR := (.block 0 X3)
def F134.b2 : IR := F134.g2 F134.b3
def F134.b14 : IR := (iSr [iQo 7 (.mv (.c (.bool true)))] .ret)
def F134.g1 (X2 X14 : IR) : IR := (iSr [.s (.faddr 1 aT3), .s (.load aS0), iSm 0, .s (.iaddr 2 aS1 aS0), .s (.loadN 2 aS0), iWl 9 (.alloc [(I 0), (I 0)]), .w .none none (.store 2 aT9 aS0)] (.seq (iSr [iQo 10 (.mv aC1)] X2) X14))
def F134.b1 : IR := F134.g1 F134.b2 F134.b14
def F134.g0 (X1 : IR) : IR := (iSr [iQo 7 (.mv (.c (.bool false)))] (.seq (iSr [iSm 0, .s (.load aT1), .s (.len aS0), iQo 12 (.bin .eql .int aS2 aS0)] (.cond aT12 (iSr [.s (.load aT2), iCa 126 [aS0], iCa 125 [aS0], iQm 8 0] (.seq (.dreg [] [(iSm 8, 0, []), (.s (.faddr 0 aT3), 1, []), (.s (.load aS0), 1, []), (iCa 135 [aS2], 0, []), (.s (.len aS0), 0, []), (.s (.bin .lss .int aS0 aS2), 0, []), (.s (.mv aS0), 0, []), (iPf 0 (.load aT4), 0, []), (iPf 1 (.load aT1), 0, []), (.w .push (some (aS2, false)) (.call aS1 [aS0]), 0, []), (.s (.pick aS3 (.c (.bool true)) aS0), 0, []), (iQm 7 0, 0, [])]) .ret)) .skip)) X1))
def F134.b0 : IR := F134.g0 F134.b1
def F134.res : List RV := [.t (.of 7)]
def F134 : Fn := { params := [(.of 0), (.of 1), (.of 2), (.of 3), (.of 4), (.of 5), (.of 6)], res := F134.res, body := F134.b0, init := in16 }
theorem F134.ok : fnA Tryz.prog Tryz.f134 [0, 1, 2, 3, 4, 5, 6, 8, 9, 10, 11, 12, 16, 39, 46, 108] = some F134 := by kernel_rfl
abbrev F135.fr := fr10
def F135.b13 : IR := (.seq (.dreg [] [(iSm 3, 0, []), (iSm 4, 0, []), (.s (.iaddr 1 aS1 aS0), 0, []), (.s (.load aS0), 0, []), (iSm 3, 0, []), (iSm 4, 0, []), (.s (.bin .sub .int aS0 aC1), 0, []), (.s (.iaddr 1 aS2 aS0), 0, []), (.s (.load aS0), 0, []), (iQo 9 (.bin .neq .int aS5 aS0), 0, [])]) (.cond aT9 (iSr [iSm 0, iSm 2, iSm 3, iSm 4, .s (.iaddr 1 aS1 aS0), .s (.load aS0), .s (.iaddr 1 aS5 aS4), .w .none none (.store 1 aS0 aS1)] (.reg [iSm 2, .s (.bin .add .int aS0 aC1), iQm 2 0])) .skip))
def F135.g12 (X13 : IR) : IR := (.block 3 X13)
def F135.b12 : IR := F135.g12 F135.b13
def F135.b14 : IR := (.reg [iSm 4, .s (.bin .add .int aS0 aC1), iQm 4 0])
def F135.g11 (X12 X14 : IR) : IR := (.seq X12 X14)
def F135.b11 : IR := F135.g11 F135.b12 F135.b14
def F135.g10 (X11 : IR) : IR := (.seq (iSr [iSm 4, iSm 3, .s (.len aS0), iQo 8 (.bin .lss .int aS2 aS0)] (.cond aT8 .skip (.exit 2))) X11)
def F135.b10 : IR := F135.g10 F135.b11
def F135.g9 (X10 : IR) : IR := (.loop X10)
def F135.b9 : IR := F135.g9 F135.b10
def F135.g8 (X9 : IR) : IR := (.block 2 X9)
def F135.b8 : IR := F135.g8 F135.b9
def F135.b15 : IR := (iSr [iSm 0, iSm 2, .s (.slice 1 aS1 (some aS0) none none), .w .none none (.clr 1 [(I 0)] aS0)] (iSr [iSm 0, iSm 2, .s (.slice 1 aS1 none (some aS0) none), iQm 1 0] .ret))
def F135.g7 (X8 X15 : IR) : IR := (.seq (.dreg [] [(iSm 0, 0, []), (iSm 2, 0, []), (.s (.iaddr 1 aS1 aS0), 0, []), (.s (.load aS0), 0, []), (iSm 0, 0, []), (iSm 2, 0, []), (.s (.bin .sub .int aS0 aC1), 0, []), (.s (.iaddr 1 aS2 aS0), 0, []), (.s (.load aS0), 0, []), (iQo 7 (.bin .eql .int aS5 aS0), 0, [])]) (.cond aT7 (iSr [iSm 0, iSm 2, .s (.slice 1 aS1 (some aS0) none none), iQm 3 0] (.seq (iSr [iQo 4 (.mv aC1)] X8) X15)) .skip))
def F135.b7 : IR := F135.g7 F135.b8 F135.b15
def F135.g6 (X7 : IR) : IR := (.block 1 X7)
def F135.b6 : IR := F135.g6 F135.b7
def F135.b16 : IR := (.reg [iSm 2, .s (.bin .add .int aS0 aC1), iQm 2 0])
def F135.g5 (X6 X16 : IR) : IR := (.seq X6 X16)
def F135.b5 : IR := F135.g5 F135.b6 F135.b16
def F135.g4 (X5 : IR) : IR := (.seq (iSr [iSm 2, iSm 0, .s (.len aS0), iQo 6 (.bin .lss .int aS2 aS0)] (.cond aT6 .skip (.exit 0))) X5)
def F135.b4 : IR := F135.g4 F135.b5
def F135.g3 (X4 : IR) : IR := (.loop X4)
def F135.b3 : IR := F135.g3 F135.b4
def F135.g2 (X3 : IR) : IR := (.block 0 X3)
def F135.b2 : IR := F135.g2 F135.b3
def F135.b17 : IR := (iSr [iSm 0, iQm 1 0] .ret)
def F135.g1 (X2 X17 : IR) : IR := (.seq (iSr [iQo 2 (.mv aC1)] X2) X17)
def F135.b1 : IR := F135.g1 F135.b2 F135.b17
def F135.g0 (X1 : IR) : IR := (iSr [iQo 1 (.mv (.c .nils))] (.seq (iSr [iSm 0, .s (.len aS0), iQo 5 (.bin .lss .int aS0 aC2)] (.cond aT5 (iSr [iSm 0, iQm 1 0] .ret) .skip)) X1))
def F135.b0 : IR := F135.g0 F135.b1
def F135.res : List RV := [.t (.of 1)]
def F135 : Fn := { params := [(.of 0)], res := F135.res, body := F135.b0, init := in10 }
theorem F135.ok : fnA Tryz.prog Tryz.f135 [0, 2, 3, 4, 5, 8, 13, 25, 32, 44] = some F135 := by kernel_rfl
abbrev F136.fr := fr8
def F136.b0 : IR := (iSr [iWl 3 (.box aT0)] (iSr [.s (.faddr 0 aT1), .s (.load aS0), .w .push none (.mkslice 1 8 [(I 0)] aS0 aS0), iWl 4 (.alloc [.nils]), .w .none none (.store 1 aT4 aS0)] (iSr [.s (.loadN 2 aT1), iCa 137 [aS0], iWl 5 (.alloc [.nils]), .w .none none (.store 1 aT5 aS0)] (iSr [iWl 6 (.alloc [(.int .u64 0)])] (iSr [iWl 7 (.alloc [.nilf])] (iSr [.s (.fn 138 (.of 138) [aT1, aT3, aT4, aT6, aT5, aT2, aT7]), .w .none none (.store 1 aT7 aS0)] (.reg [.s (.load aT7), .w .push none (.call aS0 [aC0])])))))))
def F136.res : List RV := []
def F136 : Fn := { params := [(.of 0), (.of 1), (.of 2)], res := F136.res, body := F136.b0, init := in8 }
theorem F136.ok : fnA Tryz.prog Tryz.f136 [0, 1, 2, 3, 4, 5, 6, 7] = some F136 := by kernel_rfl
abbrev F137.fr := fr10
def F137.b6 : IR := (iSr [.s (.iaddr 1 aT6 aT8), .s (.load aS0), iQm 4 0] (iSr [iSm 4, iSm 4, .s (.len aS0), .s (.bin .sub .int aS0 aC1), .s (.iaddr 1 aS3 aS0), .s (.load aS0), iQm 5 0] (.reg [iSm 3, iSm 5, iSm 3, iSm 5, .s (.iaddr 1 aS1 aS0), .s (.load aS0), iSm 4, .w .push none (.bslice 1 1 [.nils] [(0, 1, aS0)]), .w .push none (.app 1 24 aS2 aS0), .s (.iaddr 1 aS8 aS7), .w .none none (.store 1 aS0 aS1)])))
def F137.g5 (X6 : IR) : IR := (.block 1 X6)
def F137.b5 : IR := F137.g5 F137.b6
def F137.b7 : IR := (.reg [.s (.bin .add .int aT8 aC1), iQm 8 0])
def F137.g4 (X5 X7 : IR) : IR := (.seq X5 X7)
def F137.b4 : IR := F137.g4 F137.b5 F137.b7
def F137.g3 (X4 : IR) : IR := (iSr [iQo 9 (.bin .lss .int aT8 aT7)] (.seq (.cond aT9 .skip (.exit 0)) X4))
def F137.b3 : IR := F137.g3 F137.b4
def F137.g2 (X3 : IR) : IR := (.loop X3)
def F137.b2 : IR := F137.g2 F137.b3
def F137.g1 (X2 : IR) : IR := (.block 0 X2)
def F137.b1 : IR := F137.g1 F137.b2
def F137.b8 : IR := (iSr [iSm 3, iQm 2 0] .ret)
def F137.g0 (X1 X8 : IR) : IR := (iSr [iWl 1 (.box aT0), iQo 2 (.mv (.c .nils))] (iSr [.s (.faddr 0 aT1), .s (.load aS0), .w .push none (.mkslice 1 24 [.nils] aS0 aS0), iQm 3 0] (.seq (iSr [.s (.faddr 1 aT1), iQo 6 (.load aS0), iQo 7 (.len aT6), iQo 8 (.mv aC0)] X1) X8)))
def F137.b0 : IR := F137.g0 F137.b1 F137.b8
def F137.res : List RV := [.t (.of 2)]
def F137 : Fn := { params := [(.of 0)], res := F137.res, body := F137.b0, init := in10 }
theorem F137.ok : fnA Tryz.prog Tryz.f137 [0, 1, 2, 3, 5, 6, 11, 12, 13, 14] = some F137 := by kernel_rfl
abbrev F138.fr := fr27
def F138.b20 : IR := (iSr [.s (.iaddr 1 aT21 aT23), .s (.load aS0), iQm 12 0] (.reg [iSm 11, .s (.load aT3), iSm 12, .s (.iaddr 1 aS1 aS0), .s (.load aS0), .s (.bin .sub .int aS4 aS0), iQm 11 0]))
def F138.g19 (X20 : IR) : IR := (.block 5 X20)
def F138.b19 : IR := F138.g19 F138.b20
def F138.b21 : IR := (.reg [.s (.bin .add .int aT23 aC1), iQm 23 0])
def F138.g18 (X19 X21 : IR) : IR := (.seq X19 X21)
def F138.b18 : IR := F138.g18 F138.b19 F138.b21
def F138.g17 (X18 : IR) : IR := (iSr [iQo 24 (.bin .lss .int aT23 aT22)] (.seq (.cond aT24 .skip (.exit 4)) X18))
def F138.b17 : IR := F138.g17 F138.b18
def F138.g16 (X17 : IR) : IR := (.loop X17)
def F138.b16 : IR := F138.g16 F138.b17
def F138.g15 (X16 : IR) : IR := (.block 4 X16)
def F138.b15 : IR := F138.g15 F138.b16
def F138.b22 : IR := (iSr [iSm 11, iQo 25 (.bin .neq .int aS0 aC0)] (.cond aT25 (.exit 1) .skip))
def F138.g14 (X15 X22 : IR) : IR := (iSr [.s (.iaddr 1 aT17 aT19), .s (.load aS0), iQm 10 0] (iSr [.s (.load aT6), iQm 11 0] (.seq (iSr [iQo 21 (.mv aT10), iQo 22 (.len aT21), iQo 23 (.mv aC0)] X15) X22)))
def F138.b14 : IR := F138.g14 F138.b15 F138.b22
def F138.g13 (X14 : IR) : IR := (.block 3 X14)
def F138.b13 : IR := F138.g13 F138.b14
def F138.b23 : IR := (.reg [.s (.bin .add .int aT19 aC1), iQm 19 0])
def F138.g12 (X13 X23 : IR) : IR := (.seq X13 X23)
def F138.b12 : IR := F138.g12 F138.b13 F138.b23
def F138.g11 (X12 : IR) : IR := (iSr [iQo 20 (.bin .lss .int aT19 aT18)] (.seq (.cond aT20 .skip (.exit 2)) X12))
def F138.b11 : IR := F138.g11 F138.b12
def F138.g10 (X11 : IR) : IR := (.loop X11)
def F138.b10 : IR := F138.g10 F138.b11
def F138.g9 (X10 : IR) : IR := (.block 2 X10)
def F138.b9 : IR := F138.g9 F138.b10
def F138.b24 : IR := (.seq (.dreg [] [(.s (.load aT4), 0, []), (iSm 9, 0, []), (.s (.bin .shl .int (.c (.int .u64 1)) aS0), 0, []), (.s (.bin .or .int aS2 aS0), 0, []), (.w .none none (.store 1 aT4 aS0), 0, [])]) (iSr [.s (.load aT7), iSm 0, .s (.bin .add .int aS0 aC1), .w .push none (.call aS2 [aS0]), iQm 13 0] (.seq (.dreg [] [(.s (.load aT4), 0, []), (iSm 9, 0, []), (.s (.bin .shl .int (.c (.int .u64 1)) aS0), 0, []), (.s (.bin .andNot .int aS2 aS0), 0, []), (.w .none none (.store 1 aT4 aS0), 0, [])]) (iSr [iSm 13, iQo 26 (.not aS0)] (.cond aT26 (iSr [iQo 8 (.mv (.c (.bool false)))] .ret) .skip)))))
def F138.g8 (X9 X24 : IR) : IR := (iSr [.s (.load aT3), iSm 0, iSm 9, .s (.iaddr 1 aS2 aS1), .w .none none (.store 1 aS0 aS1)] (.seq (iSr [.s (.load aT5), iSm 0, .s (.iaddr 1 aS1 aS0), iQo 17 (.load aS0), iQo 18 (.len aT17), iQo 19 (.mv aC0)] X9) X24))
def F138.b8 : IR := F138.g8 F138.b9 F138.b24
def F138.g7 (X8 : IR) : IR := (.seq (iSr [.s (.load aT4), iSm 9, .s (.bin .shr .int aS1 aS0), .s (.bin .and .int aS0 (.c (.int .u64 1))), iQo 16 (.bin .eql .int aS0 (.c (.int .u64 1)))] (.cond aT16 (.exit 1) .skip)) X8)
def F138.b7 : IR := F138.g7 F138.b8
def F138.g6 (X7 : IR) : IR := (.block 1 X7)
def F138.b6 : IR := F138.g6 F138.b7
def F138.b25 : IR := (.reg [iSm 9, .s (.bin .add .int aS0 aC1), iQm 9 0])
def F138.g5 (X6 X25 : IR) : IR := (.seq X6 X25)
def F138.b5 : IR := F138.g5 F138.b6 F138.b25
def F138.g4 (X5 : IR) : IR := (.seq (iSr [iSm 9, .s (.faddr 0 aT1), .s (.load aS0), iQo 15 (.bin .leq .int aS2 aS0)] (.cond aT15 .skip (.exit 0))) X5)
def F138.b4 : IR := F138.g4 F138.b5
def F138.g3 (X4 : IR) : IR := (.loop X4)
def F138.b3 : IR := F138.g3 F138.b4
def F138.g2 (X3 : IR) : IR := (.block 0 X3)
def F138.b2 : IR := F138.g2 F138.b3
def F138.b26 : IR := (iSr [iQo 8 (.mv (.c (.bool true)))] .ret)
def F138.g1 (X2 X26 : IR) : IR := (.seq .skip (.seq (iSr [iQo 9 (.mv aC1)] X2) X26))
def F138.b1 : IR := F138.g1 F138.b2 F138.b26
def F138.g0 (X1 : IR) : IR := (iSr [iQo 8 (.mv (.c (.bool false)))] (.seq (iSr [iSm 0, .s (.faddr 0 aT1), .s (.load aS0), iQo 14 (.bin .eql .int aS2 aS0)] (.cond aT14 (iSr [.s (.load aT2), .s (.load aT3), .w .push none (.call aS1 [aS0]), iQm 8 0] .ret) .skip)) X1))
def F138.b0 : IR := F138.g0 F138.b1
def F138.res : List RV := [.t (.of 8)]
def F138 : Fn := { params := [(.of 0), (.of 1), (.of 2), (.of 3), (.of 4), (.of 5), (.of 6), (.of 7)], res := F138.res, body := F138.b0, init := in27 }
theorem F138.ok : fnA Tryz.prog Tryz.f138 [0, 1, 2, 3, 4, 5, 6, 7, 9, 10, 12, 13, 15, 16, 20, 27, 34, 42, 43, 44, 45, 49, 50, 51, 52, 63, 78] = some F138 := by kernel_rfl
abbrev F140.fr := fr4
def F140.b0 : IR := (iSr [iQo 2 (.mv aC0)] (iSr [iSm 0, iSm 1, iCa 167 [aS1, aS0], .s (.mv aS0), .s (.ext 0 aS0), .s (.ext 1 aS1), .s (.ext 2 aS2), .s (.mv aS2), .s (.mv aS2), iQm 3 2] (iSr [iSm 3, iQm 2 0] .ret)))
def F140.res : List RV := [.t (.of 2)]
def F140 : Fn := { params := [(.of 0), (.of 1)], res := F140.res, body := F140.b0, init := in4 }
theorem F140.ok : fnA Tryz.prog Tryz.f140 [0, 1, 4, 7] = some F140 := by kernel_rfl
abbrev F141.fr := fr5
def F141.b0 : IR := (iSr [iQo 3 (.mv aC0), iQo 4 (.mv (.c (.bool false)))] (iSr [iSm 0, iSm 1, iSm 2, iCa 168 [aS2, aS1, aS0], .s (.ext 0 aS0), .s (.ext 1 aS1), iQm 3 1, iQm 4 0] .ret))
def F141.res : List RV := [.t (.of 3), .t (.of 4)]
def F141 : Fn := { params := [(.of 0), (.of 1), (.of 2)], res := F141.res, body := F141.b0, init := in5 }
theorem F141.ok : fnA Tryz.prog Tryz.f141 [0, 1, 2, 6, 7] = some F141 := by kernel_rfl
abbrev F142.fr := fr12
def F142.b7 : IR := (.reg [iSm 4, .s (.faddr 0 aT2), .s (.load aS0), iSm 5, .s (.iaddr 1 aS1 aS0), .s (.load aS0), iSm 6, .s (.iaddr 1 aS6 aS1), .w .none none (.store 1 aS0 aS1)])
def F142.g6 (X7 : IR) : IR := (iSr [iSm 9, .s (.iaddr 1 aT7 aT9), .s (.load aS0), iQm 5 2, iQm 6 0] (.seq (iSr [.s (.faddr 1 aT2), iQo 11 (.load aS0)] (.cond aT11 (.reg [iSm 1, .s (.len aS0), .s (.bin .add .int aS0 aC1), iSm 6, .s (.bin .sub .int aS1 aS0), iQm 6 0]) .skip)) X7))
def F142.b6 : IR := F142.g6 F142.b7
def F142.g5 (X6 : IR) : IR := (.block 1 X6)
def F142.b5 : IR := F142.g5 F142.b6
def F142.b8 : IR := (.reg [.s (.bin .add .int aT9 aC1), iQm 9 0])
def F142.g4 (X5 X8 : IR) : IR := (.seq X5 X8)
def F142.b4 : IR := F142.g4 F142.b5 F142.b8
def F142.g3 (X4 : IR) : IR := (iSr [iQo 10 (.bin .lss .int aT9 aT8)] (.seq (.cond aT10 .skip (.exit 0)) X4))
def F142.b3 : IR := F142.g3 F142.b4
def F142.g2 (X3 : IR) : IR := (.loop X3)
def F142.b2 : IR := F142.g2 F142.b3
def F142.g1 (X2 : IR) : IR := (.block 0 X2)
def F142.b1 : IR := F142.g1 F142.b2
def F142.b9 : IR := (iSr [iSm 4, iQm 3 0] .ret)
def F142.g0 (X1 X9 : IR) : IR := (iSr [iWl 2 (.box aT0), iQo 3 (.mv (.c .nils))] (iSr [iSm 1, .s (.len aS0), .w .push none (.mkslice 1 8 [(I 0)] aS0 aS0), iQm 4 0] (.seq (iSr [iQo 7 (.mv aT1), iQo 8 (.len aT7), iQo 9 (.mv aC0)] X1) X9)))
def F142.b0 : IR := F142.g0 F142.b1 F142.b9
def F142.res : List RV := [.t (.of 3)]
def F142 : Fn := { params := [(.of 0), (.of 1)], res := F142.res, body := F142.b0, init := in12 }
theorem F142.ok : fnA Tryz.prog Tryz.f142 [0, 1, 2, 4, 5, 6, 7, 11, 12, 13, 14, 19] = some F142 := by kernel_rfl
abbrev F143.fr := fr6
def F143.b1 : IR := (iSr [.s (.faddr 0 aT2), .s (.load aS0), .s (.faddr 0 aT3), .s (.load aS0), iCa 74 [aS2, aS0], iQm 4 0] .ret)
def F143.g0 (X1 : IR) : IR := (iSr [iWl 2 (.box aT0), iWl 3 (.box aT1), iQo 4 (.mv (.c (.bool false)))] (.seq (iSr [.s (.faddr 0 aT2), .s (.load aS0), .s (.faddr 0 aT3), .s (.load aS0), iWl 5 (.call (.c (.fn 35 (.of 35) [])) [aS2, aS0])] (.cond aT5 (iSr [.s (.faddr 1 aT2), .s (.load aS0), .s (.not aS0), .s (.mv aS0), iPt 0 (.faddr 1 aT3), iPt 1 (.load aS0), .s (.pick aS2 aS0 (.c (.bool false))), iQm 4 0] .ret) .skip)) X1))
def F143.b0 : IR := F143.g0 F143.b1
def F143.res : List RV := [.t (.of 4)]
def F143 : Fn := { params := [(.of 0), (.of 1)], res := F143.res, body := F143.b0, init := in6 }
theorem F143.ok : fnA Tryz.prog Tryz.f143 [0, 1, 2, 3, 4, 9] = some F143 := by kernel_rfl
abbrev F144.fr := fr7
def F144.b6 : IR := (.seq (.dreg [] [(iSm 0, 0, []), (iSm 4, 0, []), (.s (.iaddr 2 aS1 aS0), 0, []), (.s (.loadN 2 aS0), 0, []), (.s (.loadN 2 aT2), 0, []), (iWl 6 (.call (.c (.fn 169 (.of 169) [])) [aS1, aS0]), 0, [])]) (.cond aT6 (iSr [iSm 4, iQm 3 0] .ret) .skip))
def F144.g5 (X6 : IR) : IR := (.block 1 X6)
def F144.b5 : IR := F144.g5 F144.b6
def F144.b7 : IR := (.reg [iSm 4, .s (.bin .add .int aS0 aC1), iQm 4 0])
def F144.g4 (X5 X7 : IR) : IR := (.seq X5 X7)
def F144.b4 : IR := F144.g4 F144.b5 F144.b7
def F144.g3 (X4 : IR) : IR := (.seq (iSr [iSm 4, iSm 0, .s (.len aS0), iQo 5 (.bin .lss .int aS2 aS0)] (.cond aT5 .skip (.exit 0))) X4)
def F144.b3 : IR := F144.g3 F144.b4
def F144.g2 (X3 : IR) : IR := (.loop X3)
def F144.b2 : IR := F144.g2 F144.b3
def F144.g1 (X2 : IR) : IR := (.block 0 X2)
def F144.b1 : IR := F144.g1 F144.b2
def F144.b8 : IR := (iSr [iQo 3 (.mv (.c (I (-1))))] .ret)
def F144.g0 (X1 X8 : IR) : IR := (iSr [iWl 2 (.box aT1), iQo 3 (.mv aC0)] (.seq (iSr [iQo 4 (.mv aC0)] X1) X8))
def F144.b0 : IR := F144.g0 F144.b1 F144.b8
def F144.res : List RV := [.t (.of 3)]
def F144 : Fn := { params := [(.of 0), (.of 1)], res := F144.res, body := F144.b0, init := in7 }
theorem F144.ok : fnA Tryz.prog Tryz.f144 [0, 1, 3, 4, 5, 9, 17] = some F144 := by kernel_rfl
abbrev F145.fr := fr5
def F145.b0 : IR := (iSr [iWl 2 (.box aT0), iWl 3 (.box aT1), iWl 4 (.alloc [.nils, (.bool false)])] (.seq (.dreg [] [(.s (.faddr 0 aT2), 0, []), (.s (.load aS0), 0, []), (.s (.faddr 0 aT3), 0, []), (.s (.load aS0), 0, []), (.s (.faddr 1 aT2), 1, []), (.s (.load aS0), 1, []), (.s (.faddr 1 aT3), 1, []), (.s (.load aS0), 1, []), (.s (.bin .neq .bool aS2 aS0), 1, []), (iCa 170 [aS7, aS5], 0, []), (.s (.build [.nils, (.bool false)] [(0, 1, aS0), (1, 1, aS1)]), 0, []), (.w .none none (.store 2 aT4 aS0), 0, [])]) .ret))
def F145.res : List RV := [.cell (.of 4) (some 2)]
def F145 : Fn := { params := [(.of 0), (.of 1)], res := F145.res, body := F145.b0, init := in5 }
theorem F145.ok : fnA Tryz.prog Tryz.f145 [0, 1, 2, 3, 4] = some F145 := by kernel_rfl
abbrev F146.fr := fr12
def F146.b6 : IR := (iSr [.s (.iaddr 1 aT7 aT9), .s (.load aS0), iQm 5 0] (iSr [iSm 5, iCa 126 [aS0], iCa 125 [aS0], iQm 5 0] (iSr [iSm 5, iCa 171 [aS0], iQm 6 0] (iSr [iSm 3, iSm 6, .s (.look .str (.bool false) false aS1 aS0), iQo 11 (.not aS0)] (.cond aT11 (iSr [iSm 3, iSm 6, .w .none none (.mapup .str aS1 aS0 (.c (.bool true)))] (.reg [.s (.faddr 1 aT4), .s (.load aS0), iSm 5, .w .push none (.bslice 1 1 [.nils] [(0, 1, aS0)]), .w .push none (.app 1 24 aS2 aS0), .s (.faddr 1 aT4), .w .none none (.store 1 aS0 aS1)])) .skip)))))
def F146.g5 (X6 : IR) : IR := (.block 1 X6)
def F146.b5 : IR := F146.g5 F146.b6
def F146.b7 : IR := (.reg [.s (.bin .add .int aT9 aC1), iQm 9 0])
def F146.g4 (X5 X7 : IR) : IR := (.seq X5 X7)
def F146.b4 : IR := F146.g4 F146.b5 F146.b7
def F146.g3 (X4 : IR) : IR := (iSr [iQo 10 (.bin .lss .int aT9 aT8)] (.seq (.cond aT10 .skip (.exit 0)) X4))
def F146.b3 : IR := F146.g3 F146.b4
def F146.g2 (X3 : IR) : IR := (.loop X3)
def F146.b2 : IR := F146.g2 F146.b3
def F146.g1 (X2 : IR) : IR := (.block 0 X2)
def F146.b1 : IR := F146.g1 F146.b2
def F146.b8 : IR := (iSr [.s (.loadN 2 aT4), .w .none none (.store 2 aT2 aS0)] .ret)
def F146.g0 (X1 X8 : IR) : IR := (iSr [iWl 2 (.alloc [(I 0), .nils])] (iSr [.w .push none .mkmap, iQm 3 0] (iSr [iSm 0, .s (.build [(I 0), .nils] [(0, 1, aS0)]), iWl 4 (.alloc [(I 0), .nils]), .w .none none (.store 2 aT4 aS0)] (.seq (iSr [iQo 7 (.mv aT1), iQo 8 (.len aT7), iQo 9 (.mv aC0)] X1) X8))))
def F146.b0 : IR := F146.g0 F146.b1 F146.b8
def F146.res : List RV := [.cell (.of 2) (some 2)]
def F146 : Fn := { params := [(.of 0), (.of 1)], res := F146.res, body := F146.b0, init := in12 }
theorem F146.ok : fnA Tryz.prog Tryz.f146 [0, 1, 4, 5, 6, 8, 9, 13, 14, 15, 16, 27] = some F146 := by kernel_rfl
abbrev F147.fr := fr4
def F147.b0 : IR := (iSr [iQo 3 (.mv (.c (.bool false)))] (iSr [iSm 0, .s (.load aT1), .s (.bin .lss .int aS1 aS0), .s (.mv aS0), iPf 0 (.mv aT0), iPf 1 (.load aT2), iPf 2 (.bin .gtr .int aS1 aS0), .s (.pick aS3 (.c (.bool true)) aS0), iQm 3 0] .ret))
def F147.res : List RV := [.t (.of 3)]
def F147 : Fn := { params := [(.of 0), (.of 1), (.of 2)], res := F147.res, body := F147.b0, init := in4 }
theorem F147.ok : fnA Tryz.prog Tryz.f147 [0, 1, 2, 4] = some F147 := by kernel_rfl
abbrev F148.fr := fr3
def F148.b0 : IR := (iSr [iQo 2 (.mv (.c (.bool false)))] (iSr [iSm 0, iSm 1, iCa 172 [aS1, aS0], .s (.bin .geq .int aS0 aC0), iQm 2 0] .ret))
def F148.res : List RV := [.t (.of 2)]
def F148 : Fn := { params := [(.of 0), (.of 1)], res := F148.res, body := F148.b0, init := in3 }
theorem F148.ok : fnA Tryz.prog Tryz.f148 [0, 1, 4] = some F148 := by kernel_rfl
abbrev F149.fr := fr3
def F149.b0 : IR := (iSr [iQo 2 (.mv (.c (.bool false)))] (iSr [iSm 0, .s (.load aT1), iCa 150 [aS1, aS0], iQm 2 0] .ret))
def F149.res : List RV := [.t (.of 2)]
def F149 : Fn := { params := [(.of 0), (.of 1)], res := F149.res, body := F149.b0, init := in3 }
theorem F149.ok : fnA Tryz.prog Tryz.f149 [0, 1, 3] = some F149 := by kernel_rfl
abbrev F150.fr := fr9
def F150.b7 : IR := (iSr [iSm 6, iQm 3 0] (.seq (.dreg [] [(iSm 0, 0, []), (iSm 3, 0, []), (.s (.iaddr 1 aS1 aS0), 0, []), (.s (.load aS0), 0, []), (iSm 1, 0, []), (iSm 3, 0, []), (.s (.iaddr 1 aS1 aS0), 0, []), (.s (.load aS0), 0, []), (iQo 8 (.bin .neq .int aS4 aS0), 0, [])]) (.cond aT8 (iSr [iQo 2 (.mv (.c (.bool false)))] .ret) .skip)))
def F150.g6 (X7 : IR) : IR := (.block 1 X7)
def F150.b6 : IR := F150.g6 F150.b7
def F150.b8 : IR := (.reg [.s (.bin .add .int aT6 aC1), iQm 6 0])
def F150.g5 (X6 X8 : IR) : IR := (.seq X6 X8)
def F150.b5 : IR := F150.g5 F150.b6 F150.b8
def F150.g4 (X5 : IR) : IR := (iSr [iQo 7 (.bin .lss .int aT6 aT5)] (.seq (.cond aT7 .skip (.exit 0)) X5))
def F150.b4 : IR := F150.g4 F150.b5
def F150.g3 (X4 : IR) : IR := (.loop X4)
def F150.b3 : IR := F150.g3 F150.b4
def F150.g2 (X3 : IR) : IR := (.block 0 X3)
def F150.b2 : IR := F150.g2 F150.b3
def F150.b9 : IR := (iSr [iQo 2 (.mv (.c (.bool true)))] .ret)
def F150.g1 (X2 X9 : IR) : IR := (.seq (iSr [iSm 0, iQo 5 (.len aS0), iQo 6 (.mv aC0)] X2) X9)
def F150.b1 : IR := F150.g1 F150.b2 F150.b9
def F150.g0 (X1 : IR) : IR := (iSr [iQo 2 (.mv (.c (.bool false)))] (.seq (iSr [iSm 0, .s (.len aS0), iSm 1, .s (.len aS0), iQo 4 (.bin .neq .int aS2 aS0)] (.cond aT4 (iSr [iQo 2 (.mv (.c (.bool false)))] .ret) .skip)) X1))
def F150.b0 : IR := F150.g0 F150.b1
def F150.res : List RV := [.t (.of 2)]
def F150 : Fn := { params := [(.of 0), (.of 1)], res := F150.res, body := F150.b0, init := in9 }
theorem F150.ok : fnA Tryz.prog Tryz.f150 [0, 1, 4, 5, 10, 12, 13, 14, 24] = some F150 := by kernel_rfl
abbrev F151.fr := fr2
def F151.b0 : IR := (iSr [iQo 1 (.mv (.c .nils))] (iSr [iSm 0, iCa 173 [(.c .nils), aS0], iQm 1 0] .ret))
def F151.res : List RV := [.t (.of 1)]
def F151 : Fn := { params := [(.of 0)], res := F151.res, body := F151.b0, init := in2 }
theorem F151.ok : fnA Tryz.prog Tryz.f151 [0, 2] = some F151 := by kernel_rfl
abbrev F152.fr := fr2
def F152.b0 : IR := (iSr [iSm 0, .s (.len aS0), iQm 1 0] (.reg [iSm 0, iSm 1, iSm 1, .s (.conv .u64 aS0), iCa 129 [aS0], iCa 174 [aS4, aC0, aS3, aS0]]))
def F152.res : List RV := []
def F152 : Fn := { params := [(.of 0)], res := F152.res, body := F152.b0, init := in2 }
theorem F152.ok : fnA Tryz.prog Tryz.f152 [0, 2] = some F152 := by kernel_rfl
abbrev F153.fr := fr8
def F153.b6 : IR := (iSr [.s (.iaddr 1 aT3 aT5), .s (.load aS0), iQm 2 0] (iSr [iSm 0, iSm 2, .w .push none (.call aS1 [aS0]), iQo 7 (.not aS0)] (.cond aT7 .ret .skip)))
def F153.g5 (X6 : IR) : IR := (.block 1 X6)
def F153.b5 : IR := F153.g5 F153.b6
def F153.b7 : IR := (.reg [.s (.bin .add .int aT5 aC1), iQm 5 0])
def F153.g4 (X5 X7 : IR) : IR := (.seq X5 X7)
def F153.b4 : IR := F153.g4 F153.b5 F153.b7
def F153.g3 (X4 : IR) : IR := (iSr [iQo 6 (.bin .lss .int aT5 aT4)] (.seq (.cond aT6 .skip (.exit 0)) X4))
def F153.b3 : IR := F153.g3 F153.b4
def F153.g2 (X3 : IR) : IR := (.loop X3)
def F153.b2 : IR := F153.g2 F153.b3
def F153.g1 (X2 : IR) : IR := (.block 0 X2)
def F153.b1 : IR := F153.g1 F153.b2
def F153.g0 (X1 : IR) : IR := (iSr [iQo 3 (.load aT1), iQo 4 (.len aT3), iQo 5 (.mv aC0)] X1)
def F153.b0 : IR := F153.g0 F153.b1
def F153.res : List RV := []
def F153 : Fn := { params := [(.of 0), (.of 1)], res := F153.res, body := F153.b0, init := in8 }
theorem F153.ok : fnA Tryz.prog Tryz.f153 [0, 1, 4, 5, 6, 7, 8, 14] = some F153 := by kernel_rfl
abbrev F154.fr := fr8
def F154.b12 : IR := (.dreg [] [(iSm 0, 0, []), (iSm 5, 0, []), (iSm 0, 1, []), (iSm 5, 1, []), (.s (.bin .sub .int aS0 aC1), 1, []), (iSm 0, 0, []), (iSm 5, 0, []), (.s (.bin .sub .int aS0 aC1), 0, []), (.s (.iaddr 1 aS2 aS0), 0, []), (.s (.load aS0), 0, []), (iSm 0, 0, []), (iSm 5, 0, []), (.s (.iaddr 1 aS1 aS0), 0, []), (.s (.load aS0), 0, []), (.s (.iaddr 1 aS13 aS12), 0, []), (.w .none none (.store 1 aS0 aS5), 0, []), (.s (.iaddr 1 aS12 aS10), 0, []), (.w .none none (.store 1 aS0 aS2), 0, [])])
def F154.g11 (X12 : IR) : IR := (.block 3 X12)
def F154.b11 : IR := F154.g11 F154.b12
def F154.b13 : IR := (.reg [iSm 5, .s (.bin .sub .int aS0 aC1), iQm 5 0])
def F154.g10 (X11 X13 : IR) : IR := (.seq X11 X13)
def F154.b10 : IR := F154.g10 F154.b11 F154.b13
def F154.g9 (X10 : IR) : IR := (.seq (.seq (.dreg [] [(iSm 5, 0, []), (iSm 1, 0, []), (.s (.bin .gtr .int aS1 aS0), 0, []), (.s (.mv aS0), 0, []), (iPt 0 (.mv aT3), 0, []), (iPt 1 (.mv aT0), 0, []), (iPt 2 (.mv aT5), 0, []), (iPt 3 (.iaddr 1 aS1 aS0), 0, []), (iPt 4 (.load aS0), 0, []), (iPt 5 (.mv aT0), 0, []), (iPt 6 (.mv aT5), 0, []), (iPt 7 (.bin .sub .int aS0 aC1), 0, []), (iPt 8 (.iaddr 1 aS2 aS0), 0, []), (iPt 9 (.load aS0), 0, []), (.w .push (some (aS10, true)) (.call aS9 [aS5, aS0]), 0, []), (iPt 11 (.bin .lss .int aS0 aC0), 0, []), (iQo 7 (.pick aS12 aS0 (.c (.bool false))), 0, [])]) (.cond aT7 .skip (.exit 2))) X10)
def F154.b9 : IR := F154.g9 F154.b10
def F154.g8 (X9 : IR) : IR := (.loop X9)
def F154.b8 : IR := F154.g8 F154.b9
def F154.g7 (X8 : IR) : IR := (.block 2 X8)
def F154.b7 : IR := F154.g7 F154.b8
def F154.g6 (X7 : IR) : IR := (iSr [iSm 4, iQm 5 0] X7)
def F154.b6 : IR := F154.g6 F154.b7
def F154.g5 (X6 : IR) : IR := (.block 1 X6)
def F154.b5 : IR := F154.g5 F154.b6
def F154.b14 : IR := (.reg [iSm 4, .s (.bin .add .int aS0 aC1), iQm 4 0])
def F154.g4 (X5 X14 : IR) : IR := (.seq X5 X14)
def F154.b4 : IR := F154.g4 F154.b5 F154.b14
def F154.g3 (X4 : IR) : IR := (.seq (iSr [iSm 4, iSm 2, iQo 6 (.bin .lss .int aS1 aS0)] (.cond aT6 .skip (.exit 0))) X4)
def F154.b3 : IR := F154.g3 F154.b4
def F154.g2 (X3 : IR) : IR := (.loop X3)
def F154.b2 : IR := F154.g2 F154.b3
def F154.g1 (X2 : IR) : IR := (.block 0 X2)
def F154.b1 : IR := F154.g1 F154.b2
def F154.g0 (X1 : IR) : IR := (iSr [iSm 1, .s (.bin .add .int aS0 aC1), iQm 4 0] X1)
def F154.b0 : IR := F154.g0 F154.b1
def F154.res : List RV := []
def F154 : Fn := { params := [(.of 0), (.of 1), (.of 2), (.of 3)], res := F154.res, body := F154.b0, init := in8 }
theorem F154.ok : fnA Tryz.prog Tryz.f154 [0, 1, 2, 3, 8, 9, 14, 34] = some F154 := by kernel_rfl
abbrev F162.fr := fr4
def F162.b2 : IR := (iSr [iSm 1, iSm 0, .s (.conv .u8 aS0), .s (.sidx (.c (.str [0, 1, 2, 2, 3, 3, 3, 3, 4, 4, 4, 4, 4, 4, 4, 4, 5, 5, 5, 5, 5, 5, 5, 5, 5, 5, 5, 5, 5, 5, 5, 5, 6, 6, 6, 6, 6, 6, 6, 6, 6, 6, 6, 6, 6, 6, 6, 6, 6, 6, 6, 6, 6, 6, 6, 6, 6, 6, 6, 6, 6, 6, 6, 6, 7, 7, 7, 7, 7, 7, 7, 7, 7, 7, 7, 7, 7, 7, 7, 7, 7, 7, 7, 7, 7, 7, 7, 7, 7, 7, 7, 7, 7, 7, 7, 7, 7, 7, 7, 7, 7, 7, 7, 7, 7, 7, 7, 7, 7, 7, 7, 7, 7, 7, 7, 7, 7, 7, 7, 7, 7, 7, 7, 7, 7, 7, 7, 7, 8, 8, 8, 8, 8, 8, 8, 8, 8, 8, 8, 8, 8, 8, 8, 8, 8, 8, 8, 8, 8, 8, 8, 8, 8, 8, 8, 8, 8, 8, 8, 8, 8, 8, 8, 8, 8, 8, 8, 8, 8, 8, 8, 8, 8, 8, 8, 8, 8, 8, 8, 8, 8, 8, 8, 8, 8, 8, 8, 8, 8, 8, 8, 8, 8, 8, 8, 8, 8, 8, 8, 8, 8, 8, 8, 8, 8, 8, 8, 8, 8, 8, 8, 8, 8, 8, 8, 8, 8, 8, 8, 8, 8, 8, 8, 8, 8, 8, 8, 8, 8, 8, 8, 8, 8, 8, 8, 8, 8, 8, 8, 8, 8, 8, 8, 8, 8, 8, 8, 8, 8, 8, 8, 8, 8, 8, 8, 8])) aS0), .s (.conv .i64 aS0), .s (.bin .add .int aS4 aS0), iQm 1 0] .ret)
def F162.g1 (X2 : IR) : IR := (.seq (iSr [iSm 0, iQo 3 (.bin .geq .int aS0 (.c (.int .u32 256)))] (.cond aT3 (iSr [iSm 0, .s (.bin .shr .int aS0 (.c (.int .u64 8))), iQm 0 0] (.reg [iSm 1, .s (.bin .add .int aS0 aC8), iQm 1 0])) .skip)) X2)
def F162.b1 : IR := F162.g1 F162.b2
def F162.g0 (X1 : IR) : IR := (iSr [iQo 1 (.mv aC0)] (.seq (iSr [iSm 0, iQo 2 (.bin .geq .int aS0 (.c (.int .u32 65536)))] (.cond aT2 (iSr [iSm 0, .s (.bin .shr .int aS0 (.c (.int .u64 16))), iQm 0 0] (.reg [iQo 1 (.mv aC16)])) .skip)) X1))
def F162.b0 : IR := F162.g0 F162.b1
def F162.res : List RV := [.t (.of 1)]
def F162 : Fn := { params := [(.of 0)], res := F162.res, body := F162.b0, init := in4 }
theorem F162.ok : fnA Tryz.prog Tryz.f162 [0, 2, 4, 8] = some F162 := by kernel_rfl
abbrev F163.fr := fr5
def F163.b3 : IR := (iSr [iSm 1, iSm 0, .s (.conv .u8 aS0), .s (.sidx (.c (.str [0, 1, 2, 2, 3, 3, 3, 3, 4, 4, 4, 4, 4, 4, 4, 4, 5, 5, 5, 5, 5, 5, 5, 5, 5, 5, 5, 5, 5, 5, 5, 5, 6, 6, 6, 6, 6, 6, 6, 6, 6, 6, 6, 6, 6, 6, 6, 6, 6, 6, 6, 6, 6, 6, 6, 6, 6, 6, 6, 6, 6, 6, 6, 6, 7, 7, 7, 7, 7, 7, 7, 7, 7, 7, 7, 7, 7, 7, 7, 7, 7, 7, 7, 7, 7, 7, 7, 7, 7, 7, 7, 7, 7, 7, 7, 7, 7, 7, 7, 7, 7, 7, 7, 7, 7, 7, 7, 7, 7, 7, 7, 7, 7, 7, 7, 7, 7, 7, 7, 7, 7, 7, 7, 7, 7, 7, 7, 7, 8, 8, 8, 8, 8, 8, 8, 8, 8, 8, 8, 8, 8, 8, 8, 8, 8, 8, 8, 8, 8, 8, 8, 8, 8, 8, 8, 8, 8, 8, 8, 8, 8, 8, 8, 8, 8, 8, 8, 8, 8, 8, 8, 8, 8, 8, 8, 8, 8, 8, 8, 8, 8, 8, 8, 8, 8, 8, 8, 8, 8, 8, 8, 8, 8, 8, 8, 8, 8, 8, 8, 8, 8, 8, 8, 8, 8, 8, 8, 8, 8, 8, 8, 8, 8, 8, 8, 8, 8, 8, 8, 8, 8, 8, 8, 8, 8, 8, 8, 8, 8, 8, 8, 8, 8, 8, 8, 8, 8, 8, 8, 8, 8, 8, 8, 8, 8, 8, 8, 8, 8, 8, 8, 8, 8, 8, 8, 8])) aS0), .s (.conv .i64 aS0), .s (.bin .add .int aS4 aS0), iQm 1 0] .ret)
def F163.g2 (X3 : IR) : IR := (.seq (iSr [iSm 0, iQo 4 (.bin .geq .int aS0 (.c (.int .u64 256)))] (.cond aT4 (iSr [iSm 0, .s (.bin .shr .int aS0 (.c (.int .u64 8))), iQm 0 0] (.reg [iSm 1, .s (.bin .add .int aS0 aC8), iQm 1 0])) .skip)) X3)
def F163.b2 : IR := F163.g2 F163.b3
def F163.g1 (X2 : IR) : IR := (.seq (iSr [iSm 0, iQo 3 (.bin .geq .int aS0 (.c (.int .u64 65536)))] (.cond aT3 (iSr [iSm 0, .s (.bin .shr .int aS0 (.c (.int .u64 16))), iQm 0 0] (.reg [iSm 1, .s (.bin .add .int aS0 aC16), iQm 1 0])) .skip)) X2)
def F163.b1 : IR := F163.g1 F163.b2
def F163.g0 (X1 : IR) : IR := (iSr [iQo 1 (.mv aC0)] (.seq (iSr [iSm 0, iQo 2 (.bin .geq .int aS0 (.c (.int .u64 4294967296)))] (.cond aT2 (iSr [iSm 0, .s (.bin .shr .int aS0 (.c (.int .u64 32))), iQm 0 0] (.reg [iQo 1 (.mv aC32)])) .skip)) X1))
def F163.b0 : IR := F163.g0 F163.b1
def F163.res : List RV := [.t (.of 1)]
def F163 : Fn := { params := [(.of 0)], res := F163.res, body := F163.b0, init := in5 }
theorem F163.ok : fnA Tryz.prog Tryz.f163 [0, 2, 4, 8, 14] = some F163 := by kernel_rfl
abbrev F164.fr := fr2
def F164.b0 : IR := (iSr [iQo 1 (.mv (.c (.bool false)))] (iSr [iSm 0, iSm 0, .s (.bin .neq .int aS1 aS0), iQm 1 0] .ret))
def F164.res : List RV := [.t (.of 1)]
def F164 : Fn := { params := [(.of 0)], res := F164.res, body := F164.b0, init := in2 }
theorem F164.ok : fnA Tryz.prog Tryz.f164 [0, 2] = some F164 := by kernel_rfl
abbrev F165.fr := fr8
def F165.b6 : IR := (iSr [iSm 5, iQm 3 0] (iSr [iSm 1, iSm 0, iSm 3, .s (.iaddr 1 aS1 aS0), .s (.load aS0), iWl 7 (.call aS4 [aS0])] (.cond aT7 (iSr [iSm 3, iQm 2 0] .ret) .skip)))
def F165.g5 (X6 : IR) : IR := (.block 1 X6)
def F165.b5 : IR := F165.g5 F165.b6
def F165.b7 : IR := (.reg [.s (.bin .add .int aT5 aC1), iQm 5 0])
def F165.g4 (X5 X7 : IR) : IR := (.seq X5 X7)
def F165.b4 : IR := F165.g4 F165.b5 F165.b7
def F165.g3 (X4 : IR) : IR := (iSr [iQo 6 (.bin .lss .int aT5 aT4)] (.seq (.cond aT6 .skip (.exit 0)) X4))
def F165.b3 : IR := F165.g3 F165.b4
def F165.g2 (X3 : IR) : IR := (.loop X3)
def F165.b2 : IR := F165.g2 F165.b3
def F165.g1 (X2 : IR) : IR := (.block 0 X2)
def F165.b1 : IR := F165.g1 F165.b2
def F165.b8 : IR := (iSr [iQo 2 (.mv (.c (I (-1))))] .ret)
def F165.g0 (X1 X8 : IR) : IR := (iSr [iQo 2 (.mv aC0)] (.seq (iSr [iSm 0, iQo 4 (.len aS0), iQo 5 (.mv aC0)] X1) X8))
def F165.b0 : IR := F165.g0 F165.b1 F165.b8
def F165.res : List RV := [.t (.of 2)]
def F165 : Fn := { params := [(.of 0), (.of 1)], res := F165.res, body := F165.b0, init := in8 }
theorem F165.ok : fnA Tryz.prog Tryz.f165 [0, 1, 4, 5, 7, 8, 9, 16] = some F165 := by kernel_rfl
abbrev F166.fr := fr4
def F166.b0 : IR := (iSr [iWl 2 (.box aT1), iQo 3 (.mv (.c (.bool false)))] (iSr [iSm 0, .s (.loadN 2 aT2), iCa 180 [aS1, aS0], .s (.bin .geq .int aS0 aC0), iQm 3 0] .ret))
def F166.res : List RV := [.t (.of 3)]
def F166 : Fn := { params := [(.of 0), (.of 1)], res := F166.res, body := F166.b0, init := in4 }
theorem F166.ok : fnA Tryz.prog Tryz.f166 [0, 1, 3, 4] = some F166 := by kernel_rfl
abbrev F167.fr := fr20
def F167.b5 : IR := (iSr [iQo 8 (.mv aT16)] (.reg [iWl 9 (.alloc [.nils, (.bool false)]), .w .none none (.store 2 aT9 aT17)]))
def F167.b7 : IR := (.seq (.dreg [] [(iSm 8, 0, []), (.s (.bin .gtr .int aS0 aC0), 0, []), (.s (.mv aS0), 0, []), (iPt 0 (.load aT2), 0, []), (iPt 1 (.mv aT8), 0, []), (iPt 2 (.bin .sub .int aS0 aC1), 0, []), (iPt 3 (.iaddr 2 aS2 aS0), 0, []), (iPt 4 (.loadN 2 aS0), 0, []), (iPt 5 (.loadN 2 aT9), 0, []), (.w .push (some (aS6, true)) (.call (.c (.fn 186 (.of 186) [])) [aS1, aS0]), 0, []), (iPt 7 (.bin .geq .int aS0 aC0), 0, []), (iQo 18 (.pick aS8 aS0 (.c (.bool false))), 0, [])]) (.cond aT18 (iSr [.w .none none (.store 1 aT3 (.c .nilm)), .w .none none (.store 1 aT4 (.c .nils)), .w .none none (.store 1 aT5 aC11)] .ret) .skip))
def F167.g6 (X7 : IR) : IR := (.block 1 X7)
def F167.b6 : IR := F167.g6 F167.b7
def F167.g4 (X5 X6 : IR) : IR := (.rf aT15 [(.of 16), (.of 17)] X5 X6)
def F167.b4 : IR := F167.g4 F167.b5 F167.b6
def F167.g3 (X4 : IR) : IR := (.block 0 X4)
def F167.b3 : IR := F167.g3 F167.b4
def F167.b9 : IR := (iSr [iSm 10, iSm 11, .w .none none (.store 1 aT3 aS1), .w .none none (.store 1 aT4 aS0), .w .none none (.store 1 aT5 aC0)] .ret)
def F167.g8 (X9 : IR) : IR := (iSr [.s (.load aT2), iSm 1, .s (.load aT2), .s (.len aS0), iCa 187 [aS3, aS2, aS0], .s (.mv aS0), .s (.ext 0 aS0), .s (.ext 1 aS1), .s (.ext 2 aS2), iQm 10 2, iQm 11 1, iQm 12 0] (.seq (iSr [iSm 12, .s (.not aS0), .s (.mv aS0), iPf 0 (.mv aT10), iPf 1 (.mlen aS0), iPf 2 (.load aT2), iPf 3 (.len aS0), iPf 4 (.bin .neq .int aS2 aS0), iQo 19 (.pick aS5 (.c (.bool true)) aS0)] (.cond aT19 (iSr [.w .none none (.store 1 aT3 (.c .nilm)), .w .none none (.store 1 aT4 (.c .nils)), .w .none none (.store 1 aT5 aC28)] .ret) .skip)) X9))
def F167.b8 : IR := F167.g8 F167.b9
def F167.g2 (X3 X8 : IR) : IR := (.seq (iSr [.s (.load aT2), iWl 15 (.call (.c (.fn 185 (.of 185) [])) [aS0])] X3) X8)
def F167.b2 : IR := F167.g2 F167.b3 F167.b8
def F167.g1 (X2 : IR) : IR := (.seq (iSr [.s (.load aT2), iSm 1, iCa 184 [aS1, aS0], iQm 7 0] (iSr [iSm 7, iQo 14 (.bin .neq .int aS0 aC0)] (.cond aT14 (iSr [iSm 7, .w .none none (.store 1 aT3 (.c .nilm)), .w .none none (.store 1 aT4 (.c .nils)), .w .none none (.store 1 aT5 aS0)] .ret) .skip))) X2)
def F167.b1 : IR := F167.g1 F167.b2
def F167.g0 (X1 : IR) : IR := (iSr [iWl 2 (.box aT0), iWl 3 (.alloc [.nilm]), iWl 4 (.alloc [.nils]), iWl 5 (.alloc [(I 0)])] (.seq (.seq (.dreg [] [(iSm 1, 0, []), (.s (.load aT2), 1, []), (.s (.len aS0), 1, []), (.s (.bin .eql .int aS0 aC0), 1, []), (.s (.load aT2), 2, []), (.s (.len aS0), 2, []), (.s (.bin .gtr .int aS0 aC1536), 2, []), (iCa 182 [aS6], 0, []), (iCa 183 [aS4, aC12], 0, []), (iCa 183 [aS2, aC5], 0, []), (.w .push none (.bslice 1 3 [(I 0)] [(0, 1, aS2), (1, 1, aS1), (2, 1, aS0)]), 0, []), (iCa 181 [aS0], 0, []), (iQm 6 0, 0, [])]) (iSr [iSm 6, iQo 13 (.bin .neq .int aS0 aC0)] (.cond aT13 (iSr [iSm 6, .w .none none (.store 1 aT3 (.c .nilm)), .w .none none (.store 1 aT4 (.c .nils)), .w .none none (.store 1 aT5 aS0)] .ret) .skip))) X1))
def F167.b0 : IR := F167.g0 F167.b1
def F167.res : List RV := [.cell (.of 3) none, .cell (.of 4) none, .cell (.of 5) none]
def F167 : Fn := { params := [(.of 0), (.of 1)], res := F167.res, body := F167.b0, init := in20 }
theorem F167.ok : fnA Tryz.prog Tryz.f167 [0, 1, 2, 4, 5, 6, 7, 8, 9, 10, 11, 12, 13, 27, 33, 36, 37, 38, 50, 68] = some F167 := by kernel_rfl
abbrev F168.fr := fr11
def F168.b5 : IR := (iSr [iSm 6, iSm 7, .s (.bin .add .int aS1 aS0), .s (.conv .u64 aS0), .s (.bin .shr .int aS0 (.c (.int .u64 1))), .s (.conv .i64 aS0), iQm 8 0] (iSr [iSm 2, iSm 0, iSm 8, .s (.iaddr 1 aS1 aS0), .s (.load aS0), iSm 1, .w .push none (.call aS5 [aS1, aS0]), iQo 10 (.bin .lss .int aS0 aC0)] (.cond aT10 (.reg [iSm 8, .s (.bin .add .int aS0 aC1), iQm 6 0]) (.reg [iSm 8, iQm 7 0]))))
def F168.g4 (X5 : IR) : IR := (.block 1 X5)
def F168.b4 : IR := F168.g4 F168.b5
def F168.g3 (X4 : IR) : IR := (.seq (iSr [iSm 6, iSm 7, iQo 9 (.bin .lss .int aS1 aS0)] (.cond aT9 .skip (.exit 0))) X4)
def F168.b3 : IR := F168.g3 F168.b4
def F168.g2 (X3 : IR) : IR := (.loop X3)
def F168.b2 : IR := F168.g2 F168.b3
def F168.g1 (X2 : IR) : IR := (.block 0 X2)
def F168.b1 : IR := F168.g1 F168.b2
def F168.b6 : IR := (iSr [iSm 6, iSm 6, iSm 5, .s (.bin .lss .int aS1 aS0), .s (.mv aS0), iPt 0 (.mv aT2), iPt 1 (.mv aT0), iPt 2 (.mv aT6), iPt 3 (.iaddr 1 aS1 aS0), iPt 4 (.load aS0), iPt 5 (.mv aT1), .w .push (some (aS6, true)) (.call aS5 [aS1, aS0]), iPt 7 (.bin .eql .int aS0 aC0), .s (.pick aS8 aS0 (.c (.bool false))), iQm 3 13, iQm 4 0] .ret)
def F168.g0 (X1 X6 : IR) : IR := (iSr [iQo 3 (.mv aC0), iQo 4 (.mv (.c (.bool false)))] (iSr [iSm 0, .s (.len aS0), iQm 5 0] (iSr [iSm 5, iQo 6 (.mv aC0), iQm 7 0] (.seq X1 X6))))
def F168.b0 : IR := F168.g0 F168.b1 F168.b6
def F168.res : List RV := [.t (.of 3), .t (.of 4)]
def F168 : Fn := { params := [(.of 0), (.of 1), (.of 2)], res := F168.res, body := F168.b0, init := in11 }
theorem F168.ok : fnA Tryz.prog Tryz.f168 [0, 1, 2, 6, 7, 8, 9, 10, 11, 17, 31] = some F168 := by kernel_rfl
abbrev F169.fr := fr5
def F169.b0 : IR := (iSr [iWl 2 (.box aT0), iWl 3 (.box aT1), iQo 4 (.mv (.c (.bool false)))] (iSr [.s (.faddr 1 aT2), .s (.load aS0), .s (.faddr 1 aT3), .s (.load aS0), .s (.bin .eql .bool aS2 aS0), .s (.mv aS0), iPt 0 (.faddr 0 aT2), iPt 1 (.load aS0), iPt 2 (.faddr 0 aT3), iPt 3 (.load aS0), .w .push (some (aS4, true)) (.call (.c (.fn 35 (.of 35) [])) [aS2, aS0]), .s (.pick aS5 aS0 (.c (.bool false))), iQm 4 0] .ret))
def F169.res : List RV := [.t (.of 4)]
def F169 : Fn := { params := [(.of 0), (.of 1)], res := F169.res, body := F169.b0, init := in5 }
theorem F169.ok : fnA Tryz.prog Tryz.f169 [0, 1, 2, 3, 4] = some F169 := by kernel_rfl
abbrev F170.fr := fr6
def F170.b6 : IR := (.reg [iSm 3, iSm 0, iSm 1, iSm 4, .s (.iaddr 1 aS1 aS0), .s (.load aS0), .s (.iaddr 1 aS4 aS0), .s (.load aS0), .w .push none (.bslice 1 1 [(I 0)] [(0, 1, aS0)]), .w .push none (.app 1 8 aS8 aS0), iQm 3 0])
def F170.g5 (X6 : IR) : IR := (.block 1 X6)
def F170.b5 : IR := F170.g5 F170.b6
def F170.b7 : IR := (.reg [iSm 4, .s (.bin .add .int aS0 aC1), iQm 4 0])
def F170.g4 (X5 X7 : IR) : IR := (.seq X5 X7)
def F170.b4 : IR := F170.g4 F170.b5 F170.b7
def F170.g3 (X4 : IR) : IR := (.seq (iSr [iSm 4, iSm 1, .s (.len aS0), iQo 5 (.bin .lss .int aS2 aS0)] (.cond aT5 .skip (.exit 0))) X4)
def F170.b3 : IR := F170.g3 F170.b4
def F170.g2 (X3 : IR) : IR := (.loop X3)
def F170.b2 : IR := F170.g2 F170.b3
def F170.g1 (X2 : IR) : IR := (.block 0 X2)
def F170.b1 : IR := F170.g1 F170.b2
def F170.b8 : IR := (iSr [iSm 3, iQm 2 0] .ret)
def F170.g0 (X1 X8 : IR) : IR := (iSr [iQo 2 (.mv (.c .nils))] (iSr [iQo 3 (.mv (.c .nils))] (.seq (iSr [iQo 4 (.mv aC0)] X1) X8)))
def F170.b0 : IR := F170.g0 F170.b1 F170.b8
def F170.res : List RV := [.t (.of 2)]
def F170 : Fn := { params := [(.of 0), (.of 1)], res := F170.res, body := F170.b0, init := in6 }
theorem F170.ok : fnA Tryz.prog Tryz.f170 [0, 1, 4, 5, 6, 10] = some F170 := by kernel_rfl
abbrev F171.fr := fr8
def F171.b6 : IR := (iSr [.s (.iaddr 1 aT4 aT6), .s (.load aS0), iQm 3 0] (.reg [iSm 2, iSm 3, iCa 188 [aS0], .w .push none (.bslice 1 1 [(.str [])] [(0, 1, aS0)]), .w .push none (.app 1 16 aS3 aS0), iQm 2 0]))
def F171.g5 (X6 : IR) : IR := (.block 1 X6)
def F171.b5 : IR := F171.g5 F171.b6
def F171.b7 : IR := (.reg [.s (.bin .add .int aT6 aC1), iQm 6 0])
def F171.g4 (X5 X7 : IR) : IR := (.seq X5 X7)
def F171.b4 : IR := F171.g4 F171.b5 F171.b7
def F171.g3 (X4 : IR) : IR := (iSr [iQo 7 (.bin .lss .int aT6 aT5)] (.seq (.cond aT7 .skip (.exit 0)) X4))
def F171.b3 : IR := F171.g3 F171.b4
def F171.g2 (X3 : IR) : IR := (.loop X3)
def F171.b2 : IR := F171.g2 F171.b3
def F171.g1 (X2 : IR) : IR := (.block 0 X2)
def F171.b1 : IR := F171.g1 F171.b2
def F171.b8 : IR := (iSr [iSm 2, .w .push none (.call (.c (.fn 189 (.of 189) [])) [aS0, (.c (.str [32]))]), iQm 1 0] .ret)
def F171.g0 (X1 X8 : IR) : IR := (iSr [iQo 1 (.mv (.c (.str [])))] (iSr [iQo 2 (.mv (.c .nils))] (.seq (iSr [iQo 4 (.mv aT0), iQo 5 (.len aT4), iQo 6 (.mv aC0)] X1) X8)))
def F171.b0 : IR := F171.g0 F171.b1 F171.b8
def F171.res : List RV := [.t (.of 1)]
def F171 : Fn := { params := [(.of 0)], res := F171.res, body := F171.b0, init := in8 }
theorem F171.ok : fnA Tryz.prog Tryz.f171 [0, 2, 3, 5, 6, 7, 8, 9] = some F171 := by kernel_rfl
abbrev F172.fr := fr8
def F172.b6 : IR := (iSr [iSm 5, iQm 3 0] (iSr [iSm 1, iSm 0, iSm 3, .s (.iaddr 1 aS1 aS0), .s (.load aS0), iWl 7 (.call aS4 [aS0])] (.cond aT7 (iSr [iSm 3, iQm 2 0] .ret) .skip)))
def F172.g5 (X6 : IR) : IR := (.block 1 X6)
def F172.b5 : IR := F172.g5 F172.b6
def F172.b7 : IR := (.reg [.s (.bin .add .int aT5 aC1), iQm 5 0])
def F172.g4 (X5 X7 : IR) : IR := (.seq X5 X7)
def F172.b4 : IR := F172.g4 F172.b5 F172.b7
def F172.g3 (X4 : IR) : IR := (iSr [iQo 6 (.bin .lss .int aT5 aT4)] (.seq (.cond aT6 .skip (.exit 0)) X4))
def F172.b3 : IR := F172.g3 F172.b4
def F172.g2 (X3 : IR) : IR := (.loop X3)
def F172.b2 : IR := F172.g2 F172.b3
def F172.g1 (X2 : IR) : IR := (.block 0 X2)
def F172.b1 : IR := F172.g1 F172.b2
def F172.b8 : IR := (iSr [iQo 2 (.mv (.c (I (-1))))] .ret)
def F172.g0 (X1 X8 : IR) : IR := (iSr [iQo 2 (.mv aC0)] (.seq (iSr [iSm 0, iQo 4 (.len aS0), iQo 5 (.mv aC0)] X1) X8))
def F172.b0 : IR := F172.g0 F172.b1 F172.b8
def F172.res : List RV := [.t (.of 2)]
def F172 : Fn := { params := [(.of 0), (.of 1)], res := F172.res, body := F172.b0, init := in8 }
theorem F172.ok : fnA Tryz.prog Tryz.f172 [0, 1, 4, 5, 7, 8, 9, 16] = some F172 := by kernel_rfl
abbrev F173.fr := fr7
def F173.b3 : IR := (.reg [iQo 4 (.mv aT6)])
def F173.b5 : IR := (.reg [.s (.load aT2), iSm 4, .w .push none (.bslice 1 1 [(I 0)] [(0, 1, aS0)]), .w .push none (.app 1 8 aS2 aS0), .w .none none (.store 1 aT2 aS0)])
def F173.g4 (X5 : IR) : IR := (.block 1 X5)
def F173.b4 : IR := F173.g4 F173.b5
def F173.g2 (X3 X4 : IR) : IR := (.rf aT5 [(.of 6)] X3 X4)
def F173.b2 : IR := F173.g2 F173.b3 F173.b4
def F173.g1 (X2 : IR) : IR := (.block 0 X2)
def F173.b1 : IR := F173.g1 F173.b2
def F173.b6 : IR := (iSr [.s (.load aT2), iQm 3 0] .ret)
def F173.g0 (X1 X6 : IR) : IR := (iSr [iWl 2 (.box aT0), iQo 3 (.mv (.c .nils))] (.seq (iSr [iQo 5 (.mv aT1)] X1) X6))
def F173.b0 : IR := F173.g0 F173.b1 F173.b6
def F173.res : List RV := [.t (.of 3)]
def F173 : Fn := { params := [(.of 0), (.of 1)], res := F173.res, body := F173.b0, init := in7 }
theorem F173.ok : fnA Tryz.prog Tryz.f173 [0, 1, 2, 4, 5, 6, 7] = some F173 := by kernel_rfl
abbrev F174.fr := fr23
def F174.b10 : IR := (iSr [iSm 0, iSm 1, iSm 2, iSm 7, iCa 198 [aS3, aS2, aS1, aS0], .s (.mv aS0), .s (.ext 0 aS0), .s (.ext 1 aS1), iQm 10 1, iQm 11 0] (iSr [iSm 11, iQm 5 0] (iSr [iSm 10, iSm 1, .s (.bin .sub .int aS1 aS0), iSm 2, iSm 10, .s (.bin .sub .int aS1 aS0), iQm 12 3, iQm 13 0] (iSr [iSm 6, .s (.bin .quo .int aS0 aC8), iQm 14 0] (iSr [iSm 12, iSm 13, iQo 22 (.bin .lss .int aS1 aS0)] (.cond aT22 (iSr [iSm 12, iSm 14, .s (.bin .geq .int aS1 aS0), iQm 4 0] (iSr [iSm 0, iSm 1, iSm 10, iSm 3, iCa 174 [aS3, aS2, aS1, aS0]] (.reg [iSm 10, .s (.bin .add .int aS0 aC1), iQm 1 0]))) (iSr [iSm 13, iSm 14, .s (.bin .geq .int aS1 aS0), iQm 4 0] (iSr [iSm 0, iSm 10, .s (.bin .add .int aS0 aC1), iSm 2, iSm 3, iCa 174 [aS4, aS2, aS1, aS0]] (.reg [iSm 10, iQm 2 0])))))))))
def F174.g9 (X10 : IR) : IR := (.seq (.seq (.dreg [] [(iSm 1, 0, []), (.s (.bin .gtr .int aS0 aC0), 0, []), (.s (.mv aS0), 0, []), (iPt 0 (.mv aT0), 0, []), (iPt 1 (.mv aT1), 0, []), (iPt 2 (.bin .sub .int aS0 aC1), 0, []), (iPt 3 (.iaddr 1 aS2 aS0), 0, []), (iPt 4 (.load aS0), 0, []), (iPt 5 (.mv aT0), 0, []), (iPt 6 (.mv aT7), 0, []), (iPt 7 (.iaddr 1 aS1 aS0), 0, []), (iPt 8 (.load aS0), 0, []), (.w .push (some (aS9, true)) (.call (.c (.fn 196 (.of 196) [])) [aS4, aS0]), 0, []), (iPt 10 (.not aS0), 0, []), (iQo 21 (.pick aS11 aS0 (.c (.bool false))), 0, [])]) (.cond aT21 (iSr [iSm 0, iSm 1, iSm 2, iSm 7, iCa 197 [aS3, aS2, aS1, aS0], iQm 9 0] (iSr [iSm 9, iQm 1 0] (.exit 1))) .skip)) X10)
def F174.b9 : IR := F174.g9 F174.b10
def F174.g8 (X9 : IR) : IR := (.seq (iSr [iSm 4, .s (.mv aS0), iPt 0 (.mv aT5), .s (.pick aS1 aS0 (.c (.bool false))), .s (.mv aS0), iPt 0 (.mv aT8), iPt 1 (.bin .eql .int aS0 aC1), iQo 19 (.pick aS2 aS0 (.c (.bool false)))] (.cond aT19 (iSr [iSm 0, iSm 1, iSm 2, iWl 20 (.call (.c (.fn 195 (.of 195) [])) [aS2, aS1, aS0])] (.cond aT20 .ret .skip)) .skip)) X9)
def F174.b8 : IR := F174.g8 F174.b9
def F174.g7 (X8 : IR) : IR := (iSr [iSm 0, iSm 1, iSm 2, iCa 193 [aS2, aS1, aS0], .s (.mv aS0), .s (.ext 0 aS0), .s (.ext 1 aS1), iQm 7 1, iQm 8 0] (.seq (iSr [iSm 8, iQo 18 (.bin .eql .int aS0 aC2)] (.cond aT18 (iSr [iSm 0, iSm 1, iSm 2, iCa 194 [aS2, aS1, aS0]] (iSr [iSm 2, .s (.bin .sub .int aS0 aC1), iSm 7, iSm 1, .s (.bin .sub .int aS1 aS0), .s (.bin .sub .int aS3 aS0), iQm 7 0] (.reg [iQo 8 (.mv aC1)]))) .skip)) X8))
def F174.b7 : IR := F174.g7 F174.b8
def F174.g6 (X7 : IR) : IR := (.seq (iSr [iSm 4, iQo 17 (.not aS0)] (.cond aT17 (iSr [iSm 0, iSm 1, iSm 2, iCa 192 [aS2, aS1, aS0]] (.reg [iSm 3, .s (.bin .sub .int aS0 aC1), iQm 3 0])) .skip)) X7)
def F174.b6 : IR := F174.g6 F174.b7
def F174.g5 (X6 : IR) : IR := (.seq (iSr [iSm 3, iQo 16 (.bin .eql .int aS0 aC0)] (.cond aT16 (iSr [iSm 0, iSm 1, iSm 2, iCa 191 [aS2, aS1, aS0]] .ret) .skip)) X6)
def F174.b5 : IR := F174.g5 F174.b6
def F174.g4 (X5 : IR) : IR := (iSr [iSm 2, iSm 1, .s (.bin .sub .int aS1 aS0), iQm 6 0] (.seq (iSr [iSm 6, iQo 15 (.bin .leq .int aS0 aC12)] (.cond aT15 (iSr [iSm 0, iSm 1, iSm 2, iCa 190 [aS2, aS1, aS0]] .ret) .skip)) X5))
def F174.b4 : IR := F174.g4 F174.b5
def F174.g3 (X4 : IR) : IR := (.block 1 X4)
def F174.b3 : IR := F174.g3 F174.b4
def F174.g2 (X3 : IR) : IR := (.loop X3)
def F174.b2 : IR := F174.g2 F174.b3
def F174.g1 (X2 : IR) : IR := (.block 0 X2)
def F174.b1 : IR := F174.g1 F174.b2
def F174.g0 (X1 : IR) : IR := (iSr [iQo 4 (.mv (.c (.bool true)))] (iSr [iQo 5 (.mv (.c (.bool true)))] X1))
def F174.b0 : IR := F174.g0 F174.b1
def F174.res : List RV := []
def F174 : Fn := { params := [(.of 0), (.of 1), (.of 2), (.of 3)], res := F174.res, body := F174.b0, init := in23 }
theorem F174.ok : fnA Tryz.prog Tryz.f174 [0, 1, 2, 3, 8, 9, 10, 11, 12, 13, 14, 15, 16, 17, 18, 23, 29, 35, 50, 68, 72, 87, 113] = some F174 := by kernel_rfl
abbrev F180.fr := fr9
def F180.b6 : IR := (iSr [iSm 6, iQm 4 0] (.seq (.dreg [] [(.s (.loadN 2 aT2), 0, []), (iSm 0, 0, []), (iSm 4, 0, []), (.s (.iaddr 2 aS1 aS0), 0, []), (.s (.loadN 2 aS0), 0, []), (iQo 8 (.bin .eql (.agg 2) aS4 aS0), 0, [])]) (.cond aT8 (iSr [iSm 4, iQm 3 0] .ret) .skip)))
def F180.g5 (X6 : IR) : IR := (.block 1 X6)
def F180.b5 : IR := F180.g5 F180.b6
def F180.b7 : IR := (.reg [.s (.bin .add .int aT6 aC1), iQm 6 0])
def F180.g4 (X5 X7 : IR) : IR := (.seq X5 X7)
def F180.b4 : IR := F180.g4 F180.b5 F180.b7
def F180.g3 (X4 : IR) : IR := (iSr [iQo 7 (.bin .lss .int aT6 aT5)] (.seq (.cond aT7 .skip (.exit 0)) X4))
def F180.b3 : IR := F180.g3 F180.b4
def F180.g2 (X3 : IR) : IR := (.loop X3)
def F180.b2 : IR := F180.g2 F180.b3
def F180.g1 (X2 : IR) : IR := (.block 0 X2)
def F180.b1 : IR := F180.g1 F180.b2
def F180.b8 : IR := (iSr [iQo 3 (.mv (.c (I (-1))))] .ret)
def F180.g0 (X1 X8 : IR) : IR := (iSr [iWl 2 (.box aT1), iQo 3 (.mv aC0)] (.seq (iSr [iSm 0, iQo 5 (.len aS0), iQo 6 (.mv aC0)] X1) X8))
def F180.b0 : IR := F180.g0 F180.b1 F180.b8
def F180.res : List RV := [.t (.of 3)]
def F180 : Fn := { params := [(.of 0), (.of 1)], res := F180.res, body := F180.b0, init := in9 }
theorem F180.ok : fnA Tryz.prog Tryz.f180 [0, 1, 3, 4, 5, 7, 8, 9, 16] = some F180 := by kernel_rfl
abbrev F181.fr := fr8
def F181.b6 : IR := (iSr [.s (.iaddr 1 aT3 aT5), .s (.load aS0), iQm 2 0] (iSr [iSm 2, iQo 7 (.bin .neq .int aS0 aC0)] (.cond aT7 (iSr [iSm 2, iQm 1 0] .ret) .skip)))
def F181.g5 (X6 : IR) : IR := (.block 1 X6)
def F181.b5 : IR := F181.g5 F181.b6
def F181.b7 : IR := (.reg [.s (.bin .add .int aT5 aC1), iQm 5 0])
def F181.g4 (X5 X7 : IR) : IR := (.seq X5 X7)
def F181.b4 : IR := F181.g4 F181.b5 F181.b7
def F181.g3 (X4 : IR) : IR := (iSr [iQo 6 (.bin .lss .int aT5 aT4)] (.seq (.cond aT6 .skip (.exit 0)) X4))
def F181.b3 : IR := F181.g3 F181.b4
def F181.g2 (X3 : IR) : IR := (.loop X3)
def F181.b2 : IR := F181.g2 F181.b3
def F181.g1 (X2 : IR) : IR := (.block 0 X2)
def F181.b1 : IR := F181.g1 F181.b2
def F181.b8 : IR := (iSr [iQo 1 (.mv aC0)] .ret)
def F181.g0 (X1 X8 : IR) : IR := (iSr [iQo 1 (.mv aC0)] (.seq (iSr [iQo 3 (.mv aT0), iQo 4 (.len aT3), iQo 5 (.mv aC0)] X1) X8))
def F181.b0 : IR := F181.g0 F181.b1 F181.b8
def F181.res : List RV := [.t (.of 1)]
def F181 : Fn := { params := [(.of 0)], res := F181.res, body := F181.b0, init := in8 }
theorem F181.ok : fnA Tryz.prog Tryz.f181 [0, 2, 4, 5, 6, 7, 8, 12] = some F181 := by kernel_rfl
abbrev F182.fr := fr2
def F182.b0 : IR := (iSr [iQo 1 (.mv aC0)] (iSr [iSm 0, .s (.bin .lss .int aS0 aC0), .s (.mv aS0), iPf 0 (.mv aT0), iPf 1 (.bin .gtr .int aS0 aC256), .s (.pick aS2 (.c (.bool true)) aS0), iCa 183 [aS0, aC3], iQm 1 0] .ret))
def F182.res : List RV := [.t (.of 1)]
def F182 : Fn := { params := [(.of 0)], res := F182.res, body := F182.b0, init := in2 }
theorem F182.ok : fnA Tryz.prog Tryz.f182 [0, 2] = some F182 := by kernel_rfl
abbrev F183.fr := fr4
def F183.b1 : IR := (iSr [iQo 2 (.mv aC0)] .ret)
def F183.g0 (X1 : IR) : IR := (iSr [iQo 2 (.mv aC0)] (.seq (iSr [iQo 3 (.mv aT0)] (.cond aT3 (iSr [iSm 1, iQm 2 0] .ret) .skip)) X1))
def F183.b0 : IR := F183.g0 F183.b1
def F183.res : List RV := [.t (.of 2)]
def F183 : Fn := { params := [(.of 0), (.of 1)], res := F183.res, body := F183.b0, init := in4 }
theorem F183.ok : fnA Tryz.prog Tryz.f183 [0, 1, 4, 5] = some F183 := by kernel_rfl
abbrev F184.fr := fr10
def F184.b6 : IR := (iSr [.s (.iaddr 2 aT5 aT7), .s (.loadN 2 aS0), iWl 3 (.alloc [.nils, (.bool false)]), .w .none none (.store 2 aT3 aS0)] (iSr [.s (.loadN 2 aT3), iSm 1, iCa 200 [aS1, aS0], iQm 4 0] (iSr [iSm 4, iQo 9 (.bin .neq .int aS0 aC0)] (.cond aT9 (iSr [iSm 4, iQm 2 0] .ret) .skip))))
def F184.g5 (X6 : IR) : IR := (.block 1 X6)
def F184.b5 : IR := F184.g5 F184.b6
def F184.b7 : IR := (.reg [.s (.bin .add .int aT7 aC1), iQm 7 0])
def F184.g4 (X5 X7 : IR) : IR := (.seq X5 X7)
def F184.b4 : IR := F184.g4 F184.b5 F184.b7
def F184.g3 (X4 : IR) : IR := (iSr [iQo 8 (.bin .lss .int aT7 aT6)] (.seq (.cond aT8 .skip (.exit 0)) X4))
def F184.b3 : IR := F184.g3 F184.b4
def F184.g2 (X3 : IR) : IR := (.loop X3)
def F184.b2 : IR := F184.g2 F184.b3
def F184.g1 (X2 : IR) : IR := (.block 0 X2)
def F184.b1 : IR := F184.g1 F184.b2
def F184.b8 : IR := (iSr [iQo 2 (.mv aC0)] .ret)
def F184.g0 (X1 X8 : IR) : IR := (iSr [iQo 2 (.mv aC0)] (.seq (iSr [iQo 5 (.mv aT0), iQo 6 (.len aT5), iQo 7 (.mv aC0)] X1) X8))
def F184.b0 : IR := F184.g0 F184.b1 F184.b8
def F184.res : List RV := [.t (.of 2)]
def F184 : Fn := { params := [(.of 0), (.of 1)], res := F184.res, body := F184.b0, init := in10 }
theorem F184.ok : fnA Tryz.prog Tryz.f184 [0, 1, 4, 6, 7, 8, 9, 10, 11, 18] = some F184 := by kernel_rfl
abbrev F185.fr := fr3
def F185.b0 : IR := (iSr [iWl 1 (.box aT0), iQo 2 (.mv (.c .nilf))] (iSr [.s (.fn 201 (.of 201) [aT1]), iQm 2 0] .ret))
def F185.res : List RV := [.t (.of 2)]
def F185 : Fn := { params := [(.of 0)], res := F185.res, body := F185.b0, init := in3 }
theorem F185.ok : fnA Tryz.prog Tryz.f185 [0, 1, 2] = some F185 := by kernel_rfl
abbrev F186.fr := fr8
def F186.b2 : IR := (iSr [iQo 4 (.mv (.c (I (-1))))] .ret)
def F186.g1 (X2 : IR) : IR := (.seq (iSr [.s (.faddr 1 aT2), iQo 7 (.load aS0)] (.cond aT7 (iSr [iQo 4 (.mv aC1)] .ret) .skip)) X2)
def F186.b1 : IR := F186.g1 F186.b2
def F186.g0 (X1 : IR) : IR := (iSr [iWl 2 (.box aT0), iWl 3 (.box aT1), iQo 4 (.mv aC0)] (.seq (iSr [.s (.faddr 0 aT2), .s (.load aS0), .s (.faddr 0 aT3), .s (.load aS0), iCa 92 [aS2, aS0], iQm 5 0] (iSr [iSm 5, .s (.bin .neq .int aS0 aC0), .s (.mv aS0), iPf 0 (.faddr 1 aT2), iPf 1 (.load aS0), iPf 2 (.faddr 1 aT3), iPf 3 (.load aS0), iPf 4 (.bin .eql .bool aS2 aS0), iQo 6 (.pick aS5 (.c (.bool true)) aS0)] (.cond aT6 (iSr [iSm 5, iQm 4 0] .ret) .skip))) X1))
def F186.b0 : IR := F186.g0 F186.b1
def F186.res : List RV := [.t (.of 4)]
def F186 : Fn := { params := [(.of 0), (.of 1)], res := F186.res, body := F186.b0, init := in8 }
theorem F186.ok : fnA Tryz.prog Tryz.f186 [0, 1, 2, 3, 4, 5, 19, 22] = some F186 := by kernel_rfl
abbrev F187.fr := fr25
def F187.b3 : IR := (.reg [iWl 10 (.alloc [.nils, (.bool false)]), .w .none none (.store 2 aT10 aT16)])
def F187.b20 : IR := (.seq (.dreg [] [(.s (.load aT8), 1, []), (.s (.loadN 2 aT13), 0, []), (.s (.loadN 2 aT13), 1, []), (iCa 203 [aS1], 0, []), (.w .none none (.mapup .str aS3 aS0 aS1), 0, [])]) (.reg [iSm 11, .s (.loadN 2 aT13), .w .push none (.bslice 2 1 [.nils, (.bool false)] [(0, 2, aS0)]), .w .push none (.appq 2 32 aS2 aS0), iQm 11 0]))
def F187.g19 (X20 : IR) : IR := (.seq (iSr [.s (.load aT8), .s (.mlen aS0), .s (.load aT3), iQo 24 (.bin .eql .int aS1 aS0)] (.cond aT24 (iSr [.w .none none (.store 1 aT4 (.c .nilm)), .w .none none (.store 1 aT5 (.c .nils)), .w .none none (.store 1 aT6 (.c (.bool false)))] .ret) .skip)) X20)
def F187.b19 : IR := F187.g19 F187.b20
def F187.g18 (X19 : IR) : IR := (iSr [.s (.iaddr 2 aT19 aT21), .s (.loadN 2 aS0), iWl 12 (.alloc [.nils, (.bool false)]), .w .none none (.store 2 aT12 aS0)] (.seq (.dreg [(.alloc [.nils, (.bool false)])] [(.s (.loadN 2 aT12), 2, []), (iSm 11, 2, []), (.s (.iaddr 2 aS0 aC0), 2, []), (.s (.loadN 2 aS0), 2, []), (iCa 205 [aS3, aS0], 0, []), (iWl 13 (.alloc [.nils, (.bool false)]), 0, []), (.w .none none (.store 2 aT13 aS0), 0, [])]) (.seq (iSr [.s (.load aT8), .s (.loadN 2 aT13), iWl 23 (.call (.c (.fn 204 (.of 204) [])) [aS1, aS0])] (.cond aT23 (.exit 5) .skip)) X19)))
def F187.b18 : IR := F187.g18 F187.b19
def F187.g17 (X18 : IR) : IR := (.block 5 X18)
def F187.b17 : IR := F187.g17 F187.b18
def F187.b21 : IR := (.reg [.s (.bin .add .int aT21 aC1), iQm 21 0])
def F187.g16 (X17 X21 : IR) : IR := (.seq X17 X21)
def F187.b16 : IR := F187.g16 F187.b17 F187.b21
def F187.g15 (X16 : IR) : IR := (iSr [iQo 22 (.bin .lss .int aT21 aT20)] (.seq (.cond aT22 .skip (.exit 4)) X16))
def F187.b15 : IR := F187.g15 F187.b16
def F187.g14 (X15 : IR) : IR := (.loop X15)
def F187.b14 : IR := F187.g14 F187.b15
def F187.g13 (X14 : IR) : IR := (.block 4 X14)
def F187.b13 : IR := F187.g13 F187.b14
def F187.g12 (X13 : IR) : IR := (iSr [iQo 19 (.load aT9), iQo 20 (.len aT19), iQo 21 (.mv aC0)] X13)
def F187.b12 : IR := F187.g12 F187.b13
def F187.g11 (X12 : IR) : IR := (.block 3 X12)
def F187.b11 : IR := F187.g11 F187.b12
def F187.b22 : IR := (.reg [iSm 11, .s (.slice 2 aS0 (some aC1) none none), iQm 11 0])
def F187.g10 (X11 X22 : IR) : IR := (.seq X11 X22)
def F187.b10 : IR := F187.g10 F187.b11 F187.b22
def F187.g9 (X10 : IR) : IR := (.seq (iSr [iSm 11, .s (.len aS0), iQo 18 (.bin .gtr .int aS0 aC0)] (.cond aT18 .skip (.exit 2))) X10)
def F187.b9 : IR := F187.g9 F187.b10
def F187.g8 (X9 : IR) : IR := (.loop X9)
def F187.b8 : IR := F187.g8 F187.b9
def F187.g7 (X8 : IR) : IR := (.block 2 X8)
def F187.b7 : IR := F187.g7 F187.b8
def F187.g6 (X7 : IR) : IR := (iSr [.s (.load aT9), .s (.loadN 2 aT10), .w .push none (.bslice 2 1 [.nils, (.bool false)] [(0, 2, aS0)]), .w .push none (.appq 2 32 aS2 aS0), .w .none none (.store 1 aT9 aS0)] (.seq (.dreg [.mkmap] [(.s (.loadN 2 aT7), 2, []), (.s (.loadN 2 aT7), 2, []), (iCa 203 [aS1], 0, []), (.w .push none .mkmap, 0, []), (.w .none none (.mapup .str aS0 aS1 aS2), 0, []), (.s (.mv aS0), 0, []), (.w .none none (.store 1 aT8 aS0), 0, [])]) (iSr [.s (.loadN 2 aT7), .w .push none (.bslice 2 1 [.nils, (.bool false)] [(0, 2, aS0)]), iQm 11 0] X7)))
def F187.b6 : IR := F187.g6 F187.b7
def F187.g5 (X6 : IR) : IR := (.seq (iSr [.s (.load aT8), .s (.loadN 2 aT10), iWl 17 (.call (.c (.fn 204 (.of 204) [])) [aS1, aS0])] (.cond aT17 (.exit 1) .skip)) X6)
def F187.b5 : IR := F187.g5 F187.b6
def F187.g4 (X5 : IR) : IR := (.block 1 X5)
def F187.b4 : IR := F187.g4 F187.b5
def F187.g2 (X3 X4 : IR) : IR := (.rf aT14 [(.of 15), (.of 16)] X3 X4)
def F187.b2 : IR := F187.g2 F187.b3 F187.b4
def F187.g1 (X2 : IR) : IR := (.block 0 X2)
def F187.b1 : IR := F187.g1 F187.b2
def F187.b23 : IR := (.seq (.dreg [] [(.s (.load aT8), 0, []), (.s (.load aT9), 1, []), (.w .none none (.store 1 aT4 aS1), 0, []), (.w .none none (.store 1 aT5 aS0), 0, []), (.w .none none (.store 1 aT6 (.c (.bool true))), 0, [])]) .ret)
def F187.g0 (X1 X23 : IR) : IR := (iSr [iWl 3 (.box aT2), iWl 4 (.alloc [.nilm]), iWl 5 (.alloc [.nils]), iWl 6 (.alloc [(.bool false)])] (iSr [iSm 1, iCa 202 [aS0], iWl 7 (.alloc [.nils, (.bool false)]), .w .none none (.store 2 aT7 aS0)] (.seq (.dreg [.mkmap, (.alloc [.nilm])] [(.s (.loadN 2 aT7), 4, []), (.s (.loadN 2 aT7), 4, []), (iCa 203 [aS1], 0, []), (.w .push none .mkmap, 0, []), (.w .none none (.mapup .str aS0 aS1 aS2), 0, []), (.s (.mv aS0), 1, []), (iWl 8 (.alloc [.nilm]), 0, []), (.w .none none (.store 1 aT8 aS0), 0, [])]) (iSr [iWl 9 (.alloc [.nils])] (.seq (iSr [iSm 0, iWl 14 (.call (.c (.fn 185 (.of 185) [])) [aS0])] X1) X23)))))
def F187.b0 : IR := F187.g0 F187.b1 F187.b23
def F187.res : List RV := [.cell (.of 4) none, .cell (.of 5) none, .cell (.of 6) none]
def F187 : Fn := { params := [(.of 0), (.of 1), (.of 2)], res := F187.res, body := F187.b0, init := in25 }
theorem F187.ok : fnA Tryz.prog Tryz.f187 [0, 1, 2, 5, 6, 7, 8, 9, 10, 11, 13, 14, 16, 17, 26, 27, 28, 31, 45, 48, 49, 50, 51, 61, 65] = some F187 := by kernel_rfl
abbrev F188.fr := fr2
def F188.b0 : IR := (iSr [iQo 1 (.mv (.c (.str [])))] (iSr [iSm 0, iCa 206 [aS0], iQm 1 0] .ret))
def F188.res : List RV := [.t (.of 1)]
def F188 : Fn := { params := [(.of 0)], res := F188.res, body := F188.b0, init := in2 }
theorem F188.ok : fnA Tryz.prog Tryz.f188 [0, 2] = some F188 := by kernel_rfl
abbrev F190.fr := fr7
def F190.b12 : IR := (.dreg [] [(iSm 0, 0, []), (iSm 4, 0, []), (iSm 0, 1, []), (iSm 4, 1, []), (.s (.bin .sub .int aS0 aC1), 1, []), (iSm 0, 0, []), (iSm 4, 0, []), (.s (.bin .sub .int aS0 aC1), 0, []), (.s (.iaddr 1 aS2 aS0), 0, []), (.s (.load aS0), 0, []), (iSm 0, 0, []), (iSm 4, 0, []), (.s (.iaddr 1 aS1 aS0), 0, []), (.s (.load aS0), 0, []), (.s (.iaddr 1 aS13 aS12), 0, []), (.w .none none (.store 1 aS0 aS5), 0, []), (.s (.iaddr 1 aS12 aS10), 0, []), (.w .none none (.store 1 aS0 aS2), 0, [])])
def F190.g11 (X12 : IR) : IR := (.block 3 X12)
def F190.b11 : IR := F190.g11 F190.b12
def F190.b13 : IR := (.reg [iSm 4, .s (.bin .sub .int aS0 aC1), iQm 4 0])
def F190.g10 (X11 X13 : IR) : IR := (.seq X11 X13)
def F190.b10 : IR := F190.g10 F190.b11 F190.b13
def F190.g9 (X10 : IR) : IR := (.seq (.seq (.dreg [] [(iSm 4, 0, []), (iSm 1, 0, []), (.s (.bin .gtr .int aS1 aS0), 0, []), (.s (.mv aS0), 0, []), (iPt 0 (.mv aT0), 0, []), (iPt 1 (.mv aT4), 0, []), (iPt 2 (.iaddr 1 aS1 aS0), 0, []), (iPt 3 (.load aS0), 0, []), (iPt 4 (.mv aT0), 0, []), (iPt 5 (.mv aT4), 0, []), (iPt 6 (.bin .sub .int aS0 aC1), 0, []), (iPt 7 (.iaddr 1 aS2 aS0), 0, []), (iPt 8 (.load aS0), 0, []), (.w .push (some (aS9, true)) (.call (.c (.fn 196 (.of 196) [])) [aS5, aS0]), 0, []), (iQo 6 (.pick aS10 aS0 (.c (.bool false))), 0, [])]) (.cond aT6 .skip (.exit 2))) X10)
def F190.b9 : IR := F190.g9 F190.b10
def F190.g8 (X9 : IR) : IR := (.loop X9)
def F190.b8 : IR := F190.g8 F190.b9
def F190.g7 (X8 : IR) : IR := (.block 2 X8)
def F190.b7 : IR := F190.g7 F190.b8
def F190.g6 (X7 : IR) : IR := (iSr [iSm 3, iQm 4 0] X7)
def F190.b6 : IR := F190.g6 F190.b7
def F190.g5 (X6 : IR) : IR := (.block 1 X6)
def F190.b5 : IR := F190.g5 F190.b6
def F190.b14 : IR := (.reg [iSm 3, .s (.bin .add .int aS0 aC1), iQm 3 0])
def F190.g4 (X5 X14 : IR) : IR := (.seq X5 X14)
def F190.b4 : IR := F190.g4 F190.b5 F190.b14
def F190.g3 (X4 : IR) : IR := (.seq (iSr [iSm 3, iSm 2, iQo 5 (.bin .lss .int aS1 aS0)] (.cond aT5 .skip (.exit 0))) X4)
def F190.b3 : IR := F190.g3 F190.b4
def F190.g2 (X3 : IR) : IR := (.loop X3)
def F190.b2 : IR := F190.g2 F190.b3
def F190.g1 (X2 : IR) : IR := (.block 0 X2)
def F190.b1 : IR := F190.g1 F190.b2
def F190.g0 (X1 : IR) : IR := (iSr [iSm 1, .s (.bin .add .int aS0 aC1), iQm 3 0] X1)
def F190.b0 : IR := F190.g0 F190.b1
def F190.res : List RV := []
def F190 : Fn := { params := [(.of 0), (.of 1), (.of 2)], res := F190.res, body := F190.b0, init := in7 }
theorem F190.ok : fnA Tryz.prog Tryz.f190 [0, 1, 2, 6, 7, 12, 30] = some F190 := by kernel_rfl
abbrev F196.fr := fr3
def F196.b0 : IR := (iSr [iQo 2 (.mv (.c (.bool false)))] (iSr [iSm 0, iCa 164 [aS0], .s (.mv aS0), iPt 0 (.mv aT1), .w .push (some (aS1, true)) (.call (.c (.fn 164 (.of 164) [])) [aS0]), iPt 2 (.not aS0), .s (.pick aS3 aS0 (.c (.bool false))), .s (.mv aS0), iPf 0 (.mv aT0), iPf 1 (.mv aT1), iPf 2 (.bin .lss .int aS1 aS0), .s (.pick aS3 (.c (.bool true)) aS0), iQm 2 0] .ret))
def F196.res : List RV := [.t (.of 2)]
def F196 : Fn := { params := [(.of 0), (.of 1)], res := F196.res, body := F196.b0, init := in3 }
theorem F196.ok : fnA Tryz.prog Tryz.f196 [0, 1, 4] = some F196 := by kernel_rfl
abbrev F200.fr := fr4
def F200.b0 : IR := (iSr [iWl 2 (.box aT0), iQo 3 (.mv aC0)] (.seq (.dreg [] [(iSm 1, 0, []), (.s (.faddr 0 aT2), 1, []), (.s (.load aS0), 1, []), (.s (.len aS0), 1, []), (iSm 1, 1, []), (.s (.bin .neq .int aS1 aS0), 1, []), (.s (.faddr 0 aT2), 2, []), (.s (.load aS0), 2, []), (iCa 182 [aS7], 0, []), (iCa 183 [aS3, aC2], 0, []), (iCa 213 [aS2], 0, []), (.s (.not aS0), 0, []), (iCa 183 [aS0, aC14], 0, []), (.w .push none (.bslice 1 3 [(I 0)] [(0, 1, aS4), (1, 1, aS3), (2, 1, aS0)]), 0, []), (iCa 181 [aS0], 0, []), (iQm 3 0, 0, [])]) .ret))
def F200.res : List RV := [.t (.of 3)]
def F200 : Fn := { params := [(.of 0), (.of 1)], res := F200.res, body := F200.b0, init := in4 }
theorem F200.ok : fnA Tryz.prog Tryz.f200 [0, 1, 2, 4] = some F200 := by kernel_rfl
abbrev F201.fr := fr9
def F201.b6 : IR := (iSr [iSm 6, .s (.iaddr 2 aT4 aT6), .s (.loadN 2 aS0), iWl 3 (.alloc [.nils, (.bool false)]), iQm 2 2, .w .none none (.store 2 aT3 aS0)] (iSr [iSm 0, iSm 2, .s (.loadN 2 aT3), .w .push none (.call aS2 [aS1, aS0]), iQo 8 (.not aS0)] (.cond aT8 .ret .skip)))
def F201.g5 (X6 : IR) : IR := (.block 1 X6)
def F201.b5 : IR := F201.g5 F201.b6
def F201.b7 : IR := (.reg [.s (.bin .add .int aT6 aC1), iQm 6 0])
def F201.g4 (X5 X7 : IR) : IR := (.seq X5 X7)
def F201.b4 : IR := F201.g4 F201.b5 F201.b7
def F201.g3 (X4 : IR) : IR := (iSr [iQo 7 (.bin .lss .int aT6 aT5)] (.seq (.cond aT7 .skip (.exit 0)) X4))
def F201.b3 : IR := F201.g3 F201.b4
def F201.g2 (X3 : IR) : IR := (.loop X3)
def F201.b2 : IR := F201.g2 F201.b3
def F201.g1 (X2 : IR) : IR := (.block 0 X2)
def F201.b1 : IR := F201.g1 F201.b2
def F201.g0 (X1 : IR) : IR := (iSr [iQo 4 (.load aT1), iQo 5 (.len aT4), iQo 6 (.mv aC0)] X1)
def F201.b0 : IR := F201.g0 F201.b1
def F201.res : List RV := []
def F201 : Fn := { params := [(.of 0), (.of 1)], res := F201.res, body := F201.b0, init := in9 }
theorem F201.ok : fnA Tryz.prog Tryz.f201 [0, 1, 3, 4, 5, 6, 7, 8, 16] = some F201 := by kernel_rfl
abbrev F202.fr := fr7
def F202.b6 : IR := (iSr [iSm 5, iQm 3 0] (.reg [.s (.faddr 0 aT2), .s (.load aS0), iSm 3, iSm 3, .s (.iaddr 1 aS2 aS1), .w .none none (.store 1 aS0 aS1)]))
def F202.g5 (X6 : IR) : IR := (.block 1 X6)
def F202.b5 : IR := F202.g5 F202.b6
def F202.b7 : IR := (.reg [.s (.bin .add .int aT5 aC1), iQm 5 0])
def F202.g4 (X5 X7 : IR) : IR := (.seq X5 X7)
def F202.b4 : IR := F202.g4 F202.b5 F202.b7
def F202.g3 (X4 : IR) : IR := (iSr [iQo 6 (.bin .lss .int aT5 aT4)] (.seq (.cond aT6 .skip (.exit 0)) X4))
def F202.b3 : IR := F202.g3 F202.b4
def F202.g2 (X3 : IR) : IR := (.loop X3)
def F202.b2 : IR := F202.g2 F202.b3
def F202.g1 (X2 : IR) : IR := (.block 0 X2)
def F202.b1 : IR := F202.g1 F202.b2
def F202.b8 : IR := (iSr [.s (.loadN 2 aT2), .w .none none (.store 2 aT1 aS0)] .ret)
def F202.g0 (X1 X8 : IR) : IR := (iSr [iWl 1 (.alloc [.nils, (.bool false)])] (iSr [iSm 0, .w .push none (.mkslice 1 8 [(I 0)] aS0 aS0), .s (.build [.nils, (.bool false)] [(0, 1, aS0)]), iWl 2 (.alloc [.nils, (.bool false)]), .w .none none (.store 2 aT2 aS0)] (.seq (iSr [.s (.faddr 0 aT2), .s (.load aS0), iQo 4 (.len aS0), iQo 5 (.mv aC0)] X1) X8)))
def F202.b0 : IR := F202.g0 F202.b1 F202.b8
def F202.res : List RV := [.cell (.of 1) (some 2)]
def F202 : Fn := { params := [(.of 0)], res := F202.res, body := F202.b0, init := in7 }
theorem F202.ok : fnA Tryz.prog Tryz.f202 [0, 2, 3, 4, 10, 11, 12] = some F202 := by kernel_rfl
abbrev F203.fr := fr10
def F203.b6 : IR := (iSr [.s (.iaddr 1 aT5 aT7), .s (.load aS0), iQm 4 0] (.reg [iSm 3, iSm 4, .s (.conv .u8 aS0), .w .push none (.bslice 1 1 [(.int .u8 0)] [(0, 1, aS0)]), .w .push none (.app 1 1 aS3 aS0), iQm 3 0]))
def F203.g5 (X6 : IR) : IR := (.block 1 X6)
def F203.b5 : IR := F203.g5 F203.b6
def F203.b7 : IR := (.reg [.s (.bin .add .int aT7 aC1), iQm 7 0])
def F203.g4 (X5 X7 : IR) : IR := (.seq X5 X7)
def F203.b4 : IR := F203.g4 F203.b5 F203.b7
def F203.g3 (X4 : IR) : IR := (iSr [iQo 8 (.bin .lss .int aT7 aT6)] (.seq (.cond aT8 .skip (.exit 0)) X4))
def F203.b3 : IR := F203.g3 F203.b4
def F203.g2 (X3 : IR) : IR := (.loop X3)
def F203.b2 : IR := F203.g2 F203.b3
def F203.g1 (X2 : IR) : IR := (.block 0 X2)
def F203.b1 : IR := F203.g1 F203.b2
def F203.b9 : IR := (iSr [iSm 3, .s (.b2s aS0), iQm 2 0] .ret)
def F203.g8 (X9 : IR) : IR := (.seq (iSr [.s (.faddr 1 aT1), iQo 9 (.load aS0)] (.cond aT9 (.reg [iSm 3, .w .push none (.bslice 1 1 [(.int .u8 0)] [(0, 1, (.c (.int .u8 1)))]), .w .push none (.app 1 1 aS1 aS0), iQm 3 0]) .skip)) X9)
def F203.b8 : IR := F203.g8 F203.b9
def F203.g0 (X1 X8 : IR) : IR := (iSr [iWl 1 (.box aT0), iQo 2 (.mv (.c (.str [])))] (iSr [.s (.faddr 0 aT1), .s (.load aS0), .s (.len aS0), .s (.bin .add .int aS0 aC1), .w .push none (.mkslice 1 1 [(.int .u8 0)] aC0 aS0), iQm 3 0] (.seq (iSr [.s (.faddr 0 aT1), iQo 5 (.load aS0), iQo 6 (.len aT5), iQo 7 (.mv aC0)] X1) X8)))
def F203.b0 : IR := F203.g0 F203.b1 F203.b8
def F203.res : List RV := [.t (.of 2)]
def F203 : Fn := { params := [(.of 0)], res := F203.res, body := F203.b0, init := in10 }
theorem F203.ok : fnA Tryz.prog Tryz.f203 [0, 1, 2, 3, 5, 12, 13, 14, 15, 25] = some F203 := by kernel_rfl
abbrev F204.fr := fr5
def F204.b0 : IR := (iSr [iWl 2 (.box aT1), iQo 3 (.mv (.c (.bool false)))] (iSr [iSm 0, .s (.loadN 2 aT2), iCa 203 [aS0], .s (.look .str (.agg [.nils, (.bool false)]) true aS2 aS0), .s (.mv aS0), .s (.ext 0 aS0), .s (.ext 1 aS1), .w .push none (.alloc [.nils, (.bool false)]), .w .none none (.store 2 aS0 aS2), iQm 4 1] (iSr [iSm 4, iQm 3 0] .ret)))
def F204.res : List RV := [.t (.of 3)]
def F204 : Fn := { params := [(.of 0), (.of 1)], res := F204.res, body := F204.b0, init := in5 }
theorem F204.ok : fnA Tryz.prog Tryz.f204 [0, 1, 3, 4, 6] = some F204 := by kernel_rfl
abbrev F205.fr := fr12
def F205.b6 : IR := (iSr [iSm 10, .s (.iaddr 1 aT8 aT10), .s (.load aS0), iQm 6 2, iQm 7 0] (.dreg [] [(.s (.faddr 0 aT5), 0, []), (.s (.load aS0), 0, []), (iSm 6, 0, []), (.s (.faddr 0 aT2), 0, []), (.s (.load aS0), 0, []), (iSm 7, 0, []), (.s (.iaddr 1 aS1 aS0), 0, []), (.s (.load aS0), 0, []), (.s (.iaddr 1 aS6 aS5), 0, []), (.w .none none (.store 1 aS0 aS1), 0, [])]))
def F205.g5 (X6 : IR) : IR := (.block 1 X6)
def F205.b5 : IR := F205.g5 F205.b6
def F205.b7 : IR := (.reg [.s (.bin .add .int aT10 aC1), iQm 10 0])
def F205.g4 (X5 X7 : IR) : IR := (.seq X5 X7)
def F205.b4 : IR := F205.g4 F205.b5 F205.b7
def F205.g3 (X4 : IR) : IR := (iSr [iQo 11 (.bin .lss .int aT10 aT9)] (.seq (.cond aT11 .skip (.exit 0)) X4))
def F205.b3 : IR := F205.g3 F205.b4
def F205.g2 (X3 : IR) : IR := (.loop X3)
def F205.b2 : IR := F205.g2 F205.b3
def F205.g1 (X2 : IR) : IR := (.block 0 X2)
def F205.b1 : IR := F205.g1 F205.b2
def F205.b8 : IR := (iSr [.s (.loadN 2 aT5), .w .none none (.store 2 aT4 aS0)] .ret)
def F205.g0 (X1 X8 : IR) : IR := (iSr [iWl 2 (.box aT0), iWl 3 (.box aT1), iWl 4 (.alloc [.nils, (.bool false)])] (.seq (.dreg [(.alloc [.nils, (.bool false)])] [(.s (.faddr 0 aT3), 2, []), (.s (.load aS0), 2, []), (.s (.len aS0), 2, [(.mkslice 1 8 [(I 0)] aS0 aS0)]), (.s (.faddr 1 aT2), 2, []), (.s (.load aS0), 2, []), (.s (.faddr 1 aT3), 2, []), (.s (.load aS0), 2, []), (.s (.bin .neq .bool aS2 aS0), 2, []), (.w .push none (.mkslice 1 8 [(I 0)] aS5 aS5), 0, []), (.s (.build [.nils, (.bool false)] [(0, 1, aS0), (1, 1, aS1)]), 1, []), (iWl 5 (.alloc [.nils, (.bool false)]), 0, []), (.w .none none (.store 2 aT5 aS0), 0, [])]) (.seq (iSr [.s (.faddr 0 aT3), iQo 8 (.load aS0), iQo 9 (.len aT8), iQo 10 (.mv aC0)] X1) X8)))
def F205.b0 : IR := F205.g0 F205.b1 F205.b8
def F205.res : List RV := [.cell (.of 4) (some 2)]
def F205 : Fn := { params := [(.of 0), (.of 1)], res := F205.res, body := F205.b0, init := in12 }
theorem F205.ok : fnA Tryz.prog Tryz.f205 [0, 1, 2, 3, 4, 5, 6, 7, 19, 20, 21, 22] = some F205 := by kernel_rfl
abbrev F206.fr := fr2
def F206.b0 : IR := (iSr [iQo 1 (.mv (.c (.str [])))] (iSr [iSm 0, iCa 214 [aS0, aC10], iQm 1 0] .ret))
def F206.res : List RV := [.t (.of 1)]
def F206 : Fn := { params := [(.of 0)], res := F206.res, body := F206.b0, init := in2 }
theorem F206.ok : fnA Tryz.prog Tryz.f206 [0, 2] = some F206 := by kernel_rfl
abbrev F213.fr := fr2
def F213.b0 : IR := (iSr [iQo 1 (.mv (.c (.bool false)))] (iSr [iSm 0, iCa 218 [aS0], .s (.bin .eql .int aS0 aC0), iQm 1 0] .ret))
def F213.res : List RV := [.t (.of 1)]
def F213 : Fn := { params := [(.of 0)], res := F213.res, body := F213.b0, init := in2 }
theorem F213.ok : fnA Tryz.prog Tryz.f213 [0, 2] = some F213 := by kernel_rfl
abbrev F214.fr := fr11
def F214.b4 : IR := .ret
def F214.b6 : IR := .ret
def F214.g5 (X6 : IR) : IR := (.seq (.bad 13) X6)
def F214.b5 : IR := F214.g5 F214.b6
def F214.g3 (X4 X5 : IR) : IR := (.seq (iSr [iSm 0, iQo 10 (.bin .lss .int aS0 aC0)] (.cond aT10 (iSr [.s (.aaddr 1 24 aT3 aC0), .w .none none (.store 1 aS0 (.c (.int .u8 45)))] (.seq (.bad 12) X4)) .skip)) X5)
def F214.b3 : IR := F214.g3 F214.b4 F214.b5
def F214.g2 (X3 : IR) : IR := (iSr [iSm 4, iCa 220 [aS0], iQm 5 0] (.seq (.bad 9) X3))
def F214.b2 : IR := F214.g2 F214.b3
def F214.g1 (X2 : IR) : IR := (iSr [iWl 3 (.alloc [(.int .u8 0), (.int .u8 0), (.int .u8 0), (.int .u8 0), (.int .u8 0), (.int .u8 0), (.int .u8 0), (.int .u8 0), (.int .u8 0), (.int .u8 0), (.int .u8 0), (.int .u8 0), (.int .u8 0), (.int .u8 0), (.int .u8 0), (.int .u8 0), (.int .u8 0), (.int .u8 0), (.int .u8 0), (.int .u8 0), (.int .u8 0), (.int .u8 0), (.int .u8 0), (.int .u8 0)])] (iSr [iSm 0, .s (.conv .u64 aS0), iQm 4 0] (.seq (iSr [iSm 0, iQo 9 (.bin .lss .int aS0 aC0)] (.cond aT9 (.reg [iSm 4, .s (.neg aS0), iQm 4 0]) .skip)) X2)))
def F214.b1 : IR := F214.g1 F214.b2
def F214.b7 : IR := (iSr [iSm 0, .s (.conv .u64 aS0), iSm 1, iSm 0, .s (.bin .lss .int aS0 aC0), iCa 222 [(.c .nils), aS3, aS2, aS0, (.c (.bool false))], .s (.mv aS0), .s (.ext 0 aS0), .s (.ext 1 aS1), .s (.mv aS1), iQm 6 1] (iSr [iSm 6, iQm 2 0] .ret))
def F214.g0 (X1 X7 : IR) : IR := (iSr [iQo 2 (.mv (.c (.str [])))] (.seq (iSr [iSm 1, iQo 7 (.bin .eql .int aS0 aC10)] (.cond aT7 (.seq (iSr [iSm 0, .s (.bin .leq .int aC0 aS0), .s (.mv aS0), iPt 0 (.mv aT0), iPt 1 (.bin .lss .int aS0 aC100), iQo 8 (.pick aS2 aS0 (.c (.bool false)))] (.cond aT8 (iSr [iSm 0, iCa 219 [aS0], iQm 2 0] .ret) .skip)) X1) .skip)) X7))
def F214.b0 : IR := F214.g0 F214.b1 F214.b7
def F214.res : List RV := [.t (.of 2)]
def F214 : Fn := { params := [(.of 0), (.of 1)], res := F214.res, body := F214.b0, init := in11 }
theorem F214.ok : fnA Tryz.prog Tryz.f214 [0, 1, 4, 5, 6, 7, 9, 11, 17, 23, 34] = some F214 := by kernel_rfl
end
end Go.Ev
