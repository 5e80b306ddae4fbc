import Derived.Test.YtepfaegpjddehaaGreatDoorEvC
import Derived.Test.YtepfaegpjddehaaGreatDoorProg
import Derived.KernelRfl
set_option linter.unusedSimpArgs false
set_option linter.unusedVariables false
namespace Go.Ev
open Go Go.Proofs
set_option maxRecDepth 100000
noncomputable section
abbrev zU : List AV := [(.int .u8 0), (.int .u8 0), (.int .u8 0), (.int .u8 0), (.int .u8 0), (.int .u8 0), (.int .u8 0), (.int .u8 0), (.int .u8 0), (.int .u8 0), (.int .u8 0), (.int .u8 0), (.int .u8 0), (.int .u8 0), (.int .u8 0), (.int .u8 0), (.int .u8 0), (.int .u8 0), (.int .u8 0), (.int .u8 0), (.int .u8 0), (.int .u8 0), (.int .u8 0), (.int .u8 0), (.int .u8 0), (.int .u8 0), (.int .u8 0), (.int .u8 0), (.int .u8 0), (.int .u8 0), (.int .u8 0), (.int .u8 0), (.int .u8 0), (.int .u8 0), (.int .u8 0), (.int .u8 0), (.int .u8 0), (.int .u8 0), (.int .u8 0), (.int .u8 0), (.int .u8 0), (.int .u8 0), (.int .u8 0), (.int .u8 0), (.int .u8 0), (.int .u8 0), (.int .u8 0), (.int .u8 0), (.int .u8 0), (.int .u8 0), (.int .u8 0), (.int .u8 0), (.int .u8 0), (.int .u8 0), (.int .u8 0), (.int .u8 0), (.int .u8 0), (.int .u8 0), (.int .u8 0), (.int .u8 0), (.int .u8 0), (.int .u8 0), (.int .u8 0), (.int .u8 0), (.int .u8 0), (.int .u8 0), (.int .u8 0), (.int .u8 0), (.int .u8 0), (.int .u8 0), (.int .u8 0), (.int .u8 0), (.int .u8 0), (.int .u8 0), (.int .u8 0), (.int .u8 0), (.int .u8 0), (.int .u8 0), (.int .u8 0), (.int .u8 0), (.int .u8 0), (.int .u8 0), (.int .u8 0), (.int .u8 0), (.int .u8 0), (.int .u8 0), (.int .u8 0), (.int .u8 0), (.int .u8 0), (.int .u8 0), (.int .u8 0), (.int .u8 0), (.int .u8 0), (.int .u8 0), (.int .u8 0), (.int .u8 0), (.int .u8 0), (.int .u8 0), (.int .u8 0), (.int .u8 0), (.int .u8 0), (.int .u8 0), (.int .u8 0), (.int .u8 0), (.int .u8 0), (.int .u8 0), (.int .u8 0), (.int .u8 0), (.int .u8 0), (.int .u8 0), (.int .u8 0), (.int .u8 0), (.int .u8 0), (.int .u8 0), (.int .u8 0), (.int .u8 0), (.int .u8 0), (.int .u8 0), (.int .u8 0), (.int .u8 0), (.int .u8 0), (.int .u8 0), (.int .u8 0), (.int .u8 0), (.int .u8 0), (.int .u8 0), (.int .u8 0), (.int .u8 0)]
abbrev aT0 : Arg := .t (.of 0)
abbrev aT1 : Arg := .t (.of 1)
abbrev aT2 : Arg := .t (.of 2)
abbrev aT3 : Arg := .t (.of 3)
abbrev aT4 : Arg := .t (.of 4)
abbrev aT5 : Arg := .t (.of 5)
abbrev aT6 : Arg := .t (.of 6)
abbrev aT7 : Arg := .t (.of 7)
abbrev aT8 : Arg := .t (.of 8)
abbrev aT9 : Arg := .t (.of 9)
abbrev aT10 : Arg := .t (.of 10)
abbrev aT11 : Arg := .t (.of 11)
abbrev aT12 : Arg := .t (.of 12)
abbrev aT13 : Arg := .t (.of 13)
abbrev aT14 : Arg := .t (.of 14)
abbrev aT15 : Arg := .t (.of 15)
abbrev aT16 : Arg := .t (.of 16)
abbrev aT17 : Arg := .t (.of 17)
abbrev aT18 : Arg := .t (.of 18)
abbrev aT19 : Arg := .t (.of 19)
abbrev aT20 : Arg := .t (.of 20)
abbrev aT21 : Arg := .t (.of 21)
abbrev aT22 : Arg := .t (.of 22)
abbrev aT23 : Arg := .t (.of 23)
abbrev aT24 : Arg := .t (.of 24)
abbrev aT25 : Arg := .t (.of 25)
abbrev aT26 : Arg := .t (.of 26)
abbrev aT27 : Arg := .t (.of 27)
abbrev aT28 : Arg := .t (.of 28)
abbrev aT29 : Arg := .t (.of 29)
abbrev aT30 : Arg := .t (.of 30)
abbrev aT31 : Arg := .t (.of 31)
abbrev aT32 : Arg := .t (.of 32)
abbrev aT33 : Arg := .t (.of 33)
abbrev aS0 : Arg := .s 0
abbrev aS1 : Arg := .s 1
abbrev aS2 : Arg := .s 2
abbrev aS3 : Arg := .s 3
abbrev aS4 : Arg := .s 4
abbrev aS5 : Arg := .s 5
abbrev aS6 : Arg := .s 6
abbrev aS7 : Arg := .s 7
abbrev aS8 : Arg := .s 8
abbrev aS9 : Arg := .s 9
abbrev aS10 : Arg := .s 10
abbrev aS11 : Arg := .s 11
abbrev aS12 : Arg := .s 12
abbrev aS13 : Arg := .s 13
abbrev aS14 : Arg := .s 14
abbrev aS15 : Arg := .s 15
abbrev aS16 : Arg := .s 16
abbrev aS17 : Arg := .s 17
abbrev aS19 : Arg := .s 19
abbrev aC0 : Arg := .c (I 0)
abbrev aC1 : Arg := .c (I 1)
abbrev aC2 : Arg := .c (I 2)
abbrev aC3 : Arg := .c (I 3)
abbrev aC4 : Arg := .c (I 4)
abbrev aC5 : Arg := .c (I 5)
abbrev aC6 : Arg := .c (I 6)
abbrev aC7 : Arg := .c (I 7)
abbrev aC8 : Arg := .c (I 8)
abbrev aC9 : Arg := .c (I 9)
abbrev aC10 : Arg := .c (I 10)
abbrev aC11 : Arg := .c (I 11)
abbrev aC12 : Arg := .c (I 12)
abbrev aC14 : Arg := .c (I 14)
abbrev aC15 : Arg := .c (I 15)
abbrev aC16 : Arg := .c (I 16)
abbrev aC20 : Arg := .c (I 20)
abbrev aC28 : Arg := .c (I 28)
abbrev aC32 : Arg := .c (I 32)
abbrev aC64 : Arg := .c (I 64)
abbrev aC100 : Arg := .c (I 100)
abbrev aC128 : Arg := .c (I 128)
abbrev aC130 : Arg := .c (I 130)
abbrev aC255 : Arg := .c (I 255)
abbrev aC256 : Arg := .c (I 256)
abbrev aC1024 : Arg := .c (I 1024)
abbrev aC1536 : Arg := .c (I 1536)
abbrev aC100000 : Arg := .c (I 100000)
abbrev aC999999999 : Arg := .c (I 999999999)
def F15.fr (x0 x1 x2 x3 x4 x5 x6 x7 x8 x9 x10 x11 x12 x13 : AV) : T AV := (.n (.n (.n (.n .e x7 .e) x3 (.n .e x11 .e)) x1 (.n (.n .e x9 .e) x5 (.n .e x13 .e))) x0 (.n (.n (.n .e x8 .e) x4 (.n .e x12 .e)) x2 (.n (.n .e x10 .e) x6 .e)))
def F15.b5 : IR := (.seq (.reg [.s (.mv aT6), .s (.bin .eql .int aS0 aC0), .s (.mv aS0), .p .push (some (aS0, true)) (.mv aT5), .p .push (some (aS1, true)) (.faddr 4 aT8), .p .push (some (aS2, true)) (.load aS0), .w .push (some (aS3, true)) (.call (.c (.fn 66 (.of 66) [])) [aS2, aS0]), .s (.pick aS4 aS0 (.c (.bool false))), .s (.mv aS0), .w .push (some (aS0, true)) (.call (.c (.fn 18 (.of 18) [])) []), .s (.pick aS1 aS0 (.c (.bool false))), .q (.of 2) (.mv aS0)]) .ret)
def F15.g4 (X5 : IR) : IR := (.seq (.seq (.reg [.s (.faddr 1 aT1), .s (.load aS0), .s (.len aS0), .q (.of 13) (.bin .eql .int aS0 aC0)]) (.cond aT13 (.seq (.reg [.s (.mv aT5), .s (.len aS0), .s (.bin .eql .int aS0 aC0), .s (.mv aS0), .p .push (some (aS0, true)) (.mv aT6), .p .push (some (aS1, true)) (.bin .eql .int aS0 aC12), .s (.pick aS2 aS0 (.c (.bool false))), .s (.mv aS0), .w .push (some (aS0, true)) (.call (.c (.fn 18 (.of 18) [])) []), .s (.pick aS1 aS0 (.c (.bool false))), .q (.of 2) (.mv aS0)]) .ret) .skip)) X5)
def F15.b4 : IR := F15.g4 F15.b5
def F15.g3 (X4 : IR) : IR := (.seq (.reg [.s (.loadN 2 aT1), .w .push none (.call (.c (.fn 65 (.of 65) [])) [aS0, aC0]), .w (.loc (.of 8)) none (.alloc [(I 0), (.bool false), (I 0), (I 0), .nils, .nils, .nils]), .w .none none (.store 7 aT8 aS0)]) (.seq (.seq (.reg [.s (.mv aT4), .s (.bin .neq .int aS0 aC0), .s (.mv aS0), .p .push (some (aS0, false)) (.mv aT3), .p .push (some (aS1, false)) (.faddr 3 aT8), .p .push (some (aS2, false)) (.load aS0), .p .push (some (aS3, false)) (.bin .neq .int aS2 aS0), .q (.of 12) (.pick aS4 (.c (.bool true)) aS0)]) (.cond aT12 (.seq (.reg [.q (.of 2) (.mv (.c (.bool false)))]) .ret) .skip)) X4))
def F15.b3 : IR := F15.g3 F15.b4
def F15.g2 (X3 : IR) : IR := (.seq (.seq (.reg [.s (.mv aT7), .q (.of 11) (.bin .neq .int aS0 aC0)]) (.cond aT11 (.seq (.reg [.s (.mv aT3), .s (.bin .eql .int aS0 aC0), .s (.mv aS0), .p .push (some (aS0, true)) (.mv aT4), .p .push (some (aS1, true)) (.mv aT7), .p .push (some (aS2, true)) (.bin .eql .int aS1 aS0), .s (.pick aS3 aS0 (.c (.bool false))), .s (.mv aS0), .p .push (some (aS0, true)) (.mv aT5), .p .push (some (aS1, true)) (.len aS0), .p .push (some (aS2, true)) (.bin .eql .int aS0 aC0), .s (.pick aS3 aS0 (.c (.bool false))), .s (.mv aS0), .p .push (some (aS0, true)) (.mv aT6), .p .push (some (aS1, true)) (.mv aT7), .p .push (some (aS2, true)) (.bin .eql .int aS1 aS0), .s (.pick aS3 aS0 (.c (.bool false))), .s (.mv aS0), .w .push (some (aS0, true)) (.call (.c (.fn 18 (.of 18) [])) []), .s (.pick aS1 aS0 (.c (.bool false))), .q (.of 2) (.mv aS0)]) .ret) .skip)) X3)
def F15.b2 : IR := F15.g2 F15.b3
def F15.g1 (X2 : IR) : IR := (.seq (.reg [.s (.loadN 2 aT1), .w .push none (.call (.c (.fn 64 (.of 64) [])) [aS0]), .s (.mv aS0), .s (.ext 0 aS0), .s (.ext 1 aS1), .q (.of 3) (.mv aS1), .q (.of 4) (.mv aS0)]) (.seq (.reg [.s (.loadN 2 aT1), .w .push none (.call (.c (.fn 63 (.of 63) [])) [aS0]), .s (.mv aS0), .s (.ext 0 aS0), .s (.ext 1 aS1), .q (.of 5) (.mv aS1), .q (.of 6) (.mv aS0)]) (.seq (.reg [.s (.loadN 2 aT1), .w .push none (.call (.c (.fn 27 (.of 27) [])) [aS0]), .q (.of 7) (.mv aS0)]) (.seq (.seq (.reg [.s (.mv aT7), .s (.bin .eql .int aS0 aC0), .s (.mv aS0), .p .push (some (aS0, true)) (.faddr 0 aT1), .p .push (some (aS1, true)) (.load aS0), .p .push (some (aS2, true)) (.bin .gtr .int aS0 aC9), .q (.of 10) (.pick aS3 aS0 (.c (.bool false)))]) (.cond aT10 (.reg [.q (.of 7) (.mv aC20)]) .skip)) X2))))
def F15.b1 : IR := F15.g1 F15.b2
def F15.g0 (X1 : IR) : IR := (.seq (.reg [.w (.loc (.of 1)) none (.box aT0), .q (.of 2) (.mv (.c (.bool false)))]) (.seq (.seq (.reg [.s (.loadN 2 aT1), .w (.loc (.of 9)) none (.call (.c (.fn 51 (.of 51) [])) [aS0])]) (.cond aT9 (.seq (.reg [.w .push none (.call (.c (.fn 18 (.of 18) [])) []), .q (.of 2) (.mv aS0)]) .ret) .skip)) X1))
def F15.b0 : IR := F15.g0 F15.b1
def F15.res : List RV := [.t (.of 2)]
def F15 : Fn := { params := [(.of 0)], res := F15.res, body := F15.b0, init := F15.fr .undef .undef .undef .undef .undef .undef .undef .undef .undef .undef .undef .undef .undef .undef }
theorem F15.ok : fnA Tryz.prog Tryz.f15 [0, 1, 2, 3, 4, 5, 6, 7, 8, 10, 30, 32, 62, 66] = some F15 := by kernel_rfl
def F18.fr (x0 x1 x2 x3 x4 x5 x6 x7 x8 x9 x10 x11 x12 x13 x14 x15 x16 x17 x18 x19 x20 x21 x22 x23 x24 x25 x26 x27 x28 x29 x30 x31 x32 x33 : AV) : T AV := (.n (.n (.n (.n (.n (.n .e x31 .e) x15 .e) x7 (.n .e x23 .e)) x3 (.n (.n .e x19 .e) x11 (.n .e x27 .e))) x1 (.n (.n (.n (.n .e x33 .e) x17 .e) x9 (.n .e x25 .e)) x5 (.n (.n .e x21 .e) x13 (.n .e x29 .e)))) x0 (.n (.n (.n (.n (.n .e x32 .e) x16 .e) x8 (.n .e x24 .e)) x4 (.n (.n .e x20 .e) x12 (.n .e x28 .e))) x2 (.n (.n (.n .e x18 .e) x10 (.n .e x26 .e)) x6 (.n (.n .e x22 .e) x14 (.n .e x30 .e)))))
def F18.b1 : IR := (.seq (.reg [.w .push none (.bslice 1 2 [(I 0)] [(0, 1, aC0), (1, 1, aC1)]), .s (.build [.nils, (.bool false)] [(0, 1, aS0)]), .w .push none (.bslice 1 2 [(I 0)] [(0, 1, aC1), (1, 1, aC0)]), .s (.build [.nils, (.bool false)] [(0, 1, aS0)]), .w .push none (.bslice 2 2 [.nils, (.bool false)] [(0, 2, aS2), (2, 2, aS0)]), .q (.of 28) (.mv aS0)]) (.seq (.reg [.s (.mv aT28), .w .push none (.bslice 1 2 [(I 0)] [(0, 1, aC1), (1, 1, aC2)]), .w .push none (.bslice 1 2 [(I 0)] [(0, 1, aC2), (1, 1, aC1)]), .w .push none (.bslice 1 2 [(I 0)] [(0, 1, aC3), (1, 1, aC3)]), .w .push none (.bslice 1 3 [.nils] [(0, 1, aS2), (1, 1, aS1), (2, 1, aS0)]), .w .push none (.call (.c (.fn 56 (.of 56) [])) [aS4, aS0]), .s (.mv aS0), .s (.ext 0 aS0), .s (.ext 1 aS1), .q (.of 29) (.mv aS1), .q (.of 30) (.mv aS0)]) (.seq (.reg [.s (.mv aT28), .w .push none (.bslice 1 2 [(I 0)] [(0, 1, aC1), (1, 1, aC2)]), .w .push none (.bslice 1 2 [(I 0)] [(0, 1, aC2), (1, 1, aC1)]), .w .push none (.bslice 1 2 [(I 0)] [(0, 1, aC3), (1, 1, aC3)]), .w .push none (.bslice 1 3 [.nils] [(0, 1, aS2), (1, 1, aS1), (2, 1, aS0)]), .w .push none (.call (.c (.fn 58 (.of 58) [])) [aS4, aS0]), .s (.mv aS0), .s (.ext 0 aS0), .s (.ext 1 aS1), .q (.of 31) (.mv aS1), .q (.of 32) (.mv aS0)]) (.seq (.reg [.s (.mv aT30), .s (.mv aT32), .s (.bin .add .int aS1 aS0), .s (.bin .eql .int aS0 aC0), .s (.mv aS0), .p .push (some (aS0, true)) (.mv aT29), .p .push (some (aS1, true)) (.len aS0), .p .push (some (aS2, true)) (.bin .eql .int aS0 aC2), .s (.pick aS3 aS0 (.c (.bool false))), .s (.mv aS0), .p .push (some (aS0, true)) (.mv aT29), .p .push (some (aS1, true)) (.iaddr 2 aS0 aC0), .p .push (some (aS2, true)) (.faddr 1 aS0), .p .push (some (aS3, true)) (.load aS0), .p .push (some (aS4, true)) (.bin .eql .int aS0 aC2), .s (.pick aS5 aS0 (.c (.bool false))), .s (.mv aS0), .p .push (some (aS0, true)) (.mv aT29), .p .push (some (aS1, true)) (.iaddr 2 aS0 aC1), .p .push (some (aS2, true)) (.faddr 1 aS0), .p .push (some (aS3, true)) (.load aS0), .p .push (some (aS4, true)) (.bin .eql .int aS0 aC1), .s (.pick aS5 aS0 (.c (.bool false))), .s (.mv aS0), .p .push (some (aS0, true)) (.mv aT31), .p .push (some (aS1, true)) (.bin .eql .int aS0 aC2), .s (.pick aS2 aS0 (.c (.bool false))), .s (.mv aS0), .p .push (some (aS0, true)) (.mv aT11), .p .push (some (aS1, true)) (.iaddr 1 aS0 aC0), .p .push (some (aS2, true)) (.load aS0), .w .push (some (aS3, true)) (.bslice 1 4 [(I 0)] [(0, 1, aC1), (1, 1, aC4), (2, 1, aC2), (3, 1, aC3)]), .w .push (some (aS4, true)) (.call (.c (.fn 35 (.of 35) [])) [aS1, aS0]), .s (.pick aS5 aS0 (.c (.bool false))), .s (.mv aS0), .p .push (some (aS0, true)) (.mv aT1), .p .push (some (aS1, true)) (.iaddr 1 aS0 aC1), .p .push (some (aS2, true)) (.load aS0), .w .push (some (aS3, true)) (.bslice 1 3 [(I 0)] [(0, 1, aC1), (1, 1, aC6), (2, 1, aC8)]), .w .push (some (aS4, true)) (.call (.c (.fn 35 (.of 35) [])) [aS1, aS0]), .s (.pick aS5 aS0 (.c (.bool false))), .s (.mv aS0), .p .push (some (aS0, true)) (.mv aT15), .w .push (some (aS1, true)) (.bslice 1 2 [(I 0)] [(0, 1, aC0), (1, 1, aC0)]), .w .push (some (aS2, true)) (.bslice 1 2 [(I 0)] [(0, 1, aC1), (1, 1, aC0)]), .w .push (some (aS3, true)) (.bslice 1 2 [(I 0)] [(0, 1, aC2), (1, 1, aC0)]), .w .push (some (aS4, true)) (.bslice 1 3 [.nils] [(0, 1, aS2), (1, 1, aS1), (2, 1, aS0)]), .w .push (some (aS5, true)) (.call (.c (.fn 23 (.of 23) [])) [aS4, aS0]), .s (.pick aS6 aS0 (.c (.bool false))), .s (.mv aS0), .p .push (some (aS0, true)) (.mv aT16), .w .push (some (aS1, true)) (.bslice 1 3 [(I 0)] [(0, 1, aC1), (1, 1, aC1), (2, 1, aC1)]), .w .push (some (aS2, true)) (.call (.c (.fn 35 (.of 35) [])) [aS1, aS0]), .s (.pick aS3 aS0 (.c (.bool false))), .s (.mv aS0), .p .push (some (aS0, true)) (.mv aT18), .w .push (some (aS1, true)) (.bslice 1 9 [(I 0)] [(0, 1, aC2), (1, 1, aC3), (2, 1, aC2), (3, 1, aC3), (4, 1, aC4), (5, 1, aC3), (6, 1, aC2), (7, 1, aC3), (8, 1, aC2)]), .w .push (some (aS2, true)) (.call (.c (.fn 35 (.of 35) [])) [aS1, aS0]), .s (.pick aS3 aS0 (.c (.bool false))), .s (.mv aS0), .p .push (some (aS0, true)) (.mv aT25), .w .push (some (aS1, true)) (.bslice 1 2 [(I 0)] [(0, 1, aC1), (1, 1, aC2)]), .w .push (some (aS2, true)) (.call (.c (.fn 35 (.of 35) [])) [aS1, aS0]), .s (.pick aS3 aS0 (.c (.bool false))), .q (.of 0) (.mv aS0)]) .ret))))
def F18.g0 (X1 : IR) : IR := (.seq (.reg [.q (.of 0) (.mv (.c (.bool false)))]) (.seq (.reg [.w .push none (.call (.c (.fn 19 (.of 19) [])) [aC9, aC3, aC15]), .s (.mv aS0), .s (.ext 0 aS0), .s (.ext 1 aS1), .q (.of 1) (.mv aS1), .q (.of 2) (.mv aS0)]) (.seq (.reg [.w .push none (.call (.c (.fn 20 (.of 20) [])) [aC9, aC3, aC15]), .s (.mv aS0), .s (.ext 0 aS0), .s (.ext 1 aS1), .q (.of 3) (.mv aS1), .q (.of 4) (.mv aS0)]) (.seq (.reg [.w .push none (.call (.c (.fn 75 (.of 75) [])) []), .w .push none (.call (.c (.fn 26 (.of 26) [])) [aS0]), .s (.mv aS0), .s (.ext 0 aS0), .s (.ext 1 aS1), .s (.ext 2 aS2), .q (.of 5) (.mv aS2), .q (.of 6) (.mv aS1), .q (.of 7) (.mv aS0)]) (.seq (.reg [.w .push none (.bslice 1 2 [(I 0)] [(0, 1, aC0), (1, 1, aC1)]), .w .push none (.bslice 1 2 [(I 0)] [(0, 1, aC2), (1, 1, aC3)]), .w .push none (.bslice 1 2 [.nils] [(0, 1, aS1), (1, 1, aS0)]), .s (.build [(I 0), .nils] [(0, 1, aC4), (1, 1, aS0)]), .w (.loc (.of 8)) none (.alloc [(I 0), .nils]), .w .none none (.store 2 aT8 aS0)]) (.seq (.reg [.s (.loadN 2 aT8), .w .push none (.call (.c (.fn 63 (.of 63) [])) [aS0]), .s (.mv aS0), .s (.ext 0 aS0), .s (.ext 1 aS1), .q (.of 9) (.mv aS1), .q (.of 10) (.mv aS0)]) (.seq (.reg [.s (.loadN 2 aT8), .w .push none (.call (.c (.fn 52 (.of 52) [])) [aS0, aC5]), .s (.mv aS0), .s (.ext 0 aS0), .s (.ext 1 aS1), .q (.of 11) (.mv aS1), .q (.of 12) (.mv aS0)]) (.seq (.reg [.s (.loadN 2 aT8), .w .push none (.call (.c (.fn 31 (.of 31) [])) [aS0, aC2, aC2]), .s (.mv aS0), .s (.ext 0 aS0), .s (.ext 1 aS1), .q (.of 13) (.mv aS1), .q (.of 14) (.mv aS0)]) (.seq (.reg [.s (.loadN 2 aT8), .w .push none (.call (.c (.fn 33 (.of 33) [])) [aS0, aC1, aC2]), .s (.mv aS0), .s (.ext 0 aS0), .s (.ext 1 aS1), .s (.ext 2 aS2), .q (.of 15) (.mv aS2), .q (.of 16) (.mv aS1), .q (.of 17) (.mv aS0)]) (.seq (.reg [.w .push none (.call (.c (.fn 75 (.of 75) [])) []), .w .push none (.bslice 1 9 [(I 0)] [(0, 1, aC2), (1, 1, aC7), (2, 1, aC6), (3, 1, aC9), (4, 1, aC5), (5, 1, aC1), (6, 1, aC4), (7, 1, aC3), (8, 1, aC8)]), .w .push none (.call (.c (.fn 36 (.of 36) [])) [aS1, aS0]), .s (.mv aS0), .s (.ext 0 aS0), .s (.ext 1 aS1), .q (.of 18) (.mv aS1), .q (.of 19) (.mv aS0)]) (.seq (.reg [.s (.build [(I 0), (I 0)] [(0, 1, aC0), (1, 1, aC1)]), .s (.build [(I 0), (I 0)] [(0, 1, aC1), (1, 1, aC2)]), .w .push none (.bslice 2 2 [(I 0), (I 0)] [(0, 2, aS1), (2, 2, aS0)]), .s (.build [(I 0), .nils] [(0, 1, aC3), (1, 1, aS0)]), .w (.loc (.of 20)) none (.alloc [(I 0), .nils]), .w .none none (.store 2 aT20 aS0)]) (.seq (.reg [.s (.loadN 2 aT20), .w .push none (.call (.c (.fn 67 (.of 67) [])) [aS0]), .s (.mv aS0), .s (.ext 0 aS0), .s (.ext 1 aS1), .q (.of 21) (.mv aS1), .q (.of 22) (.mv aS0)]) (.seq (.reg [.s (.loadN 2 aT20), .w .push none (.call (.c (.fn 40 (.of 40) [])) [aS0]), .s (.mv aS0), .s (.ext 0 aS0), .s (.ext 1 aS1), .q (.of 23) (.mv aS1), .q (.of 24) (.mv aS0)]) (.seq (.reg [.s (.loadN 2 aT20), .w .push none (.call (.c (.fn 41 (.of 41) [])) [aS0]), .s (.mv aS0), .s (.ext 0 aS0), .s (.ext 1 aS1), .q (.of 25) (.mv aS1), .q (.of 26) (.mv aS0)]) (.seq (.reg [.s (.build [(I 0), (I 0)] [(0, 1, aC0), (1, 1, aC1)]), .w .push none (.bslice 2 1 [(I 0), (I 0)] [(0, 2, aS0)]), .s (.build [(I 0), .nils] [(0, 1, aC2), (1, 1, aS0)]), .w .push none (.call (.c (.fn 41 (.of 41) [])) [aS0]), .s (.mv aS0), .s (.ext 0 aS0), .s (.ext 1 aS1), .s (.mv aS1), .q (.of 27) (.mv aS1)]) (.seq (.seq (.reg [.s (.mv aT2), .s (.mv aT4), .s (.bin .add .int aS1 aS0), .s (.mv aT7), .s (.bin .add .int aS1 aS0), .s (.mv aT10), .s (.bin .add .int aS1 aS0), .s (.mv aT12), .s (.bin .add .int aS1 aS0), .s (.mv aT14), .s (.bin .add .int aS1 aS0), .s (.mv aT17), .s (.bin .add .int aS1 aS0), .s (.mv aT19), .s (.bin .add .int aS1 aS0), .s (.mv aT22), .s (.bin .add .int aS1 aS0), .s (.mv aT24), .s (.bin .add .int aS1 aS0), .s (.mv aT26), .s (.bin .add .int aS1 aS0), .s (.bin .neq .int aS0 aC0), .s (.mv aS0), .p .push (some (aS0, false)) (.mv aT27), .p .push (some (aS1, false)) (.bin .neq .int aS0 aC7), .s (.pick aS2 (.c (.bool true)) aS0), .s (.mv aS0), .p .push (some (aS0, false)) (.mv aT1), .p .push (some (aS1, false)) (.len aS0), .p .push (some (aS2, false)) (.bin .neq .int aS0 aC8), .s (.pick aS3 (.c (.bool true)) aS0), .s (.mv aS0), .p .push (some (aS0, false)) (.mv aT3), .p .push (some (aS1, false)) (.bin .neq .int aS0 aC8), .s (.pick aS2 (.c (.bool true)) aS0), .s (.mv aS0), .p .push (some (aS0, false)) (.mv aT5), .p .push (some (aS1, false)) (.bin .neq .int aS0 aC14), .s (.pick aS2 (.c (.bool true)) aS0), .s (.mv aS0), .p .push (some (aS0, false)) (.mv aT6), .p .push (some (aS1, false)) (.bin .neq .int aS0 aC16), .s (.pick aS2 (.c (.bool true)) aS0), .s (.mv aS0), .p .push (some (aS0, false)) (.mv aT13), .p .push (some (aS1, false)) (.bin .neq .int aS0 aC9), .s (.pick aS2 (.c (.bool true)) aS0), .s (.mv aS0), .p .push (some (aS0, false)) (.mv aT23), .p .push (some (aS1, false)) (.bin .neq .int aS0 aC2), .s (.pick aS2 (.c (.bool true)) aS0), .s (.mv aS0), .p .push (some (aS0, false)) (.mv aT9), .p .push (some (aS1, false)) (.len aS0), .p .push (some (aS2, false)) (.bin .neq .int aS0 aC1), .s (.pick aS3 (.c (.bool true)) aS0), .s (.mv aS0), .p .push (some (aS0, false)) (.mv aT9), .p .push (some (aS1, false)) (.iaddr 2 aS0 aC0), .p .push (some (aS2, false)) (.loadN 2 aS0), .p .push (some (aS3, false)) (.build [(I 0), (I 0)] [(0, 1, aC5), (1, 1, aC8)]), .p .push (some (aS4, false)) (.bin .neq (.agg 2) aS1 aS0), .s (.pick aS5 (.c (.bool true)) aS0), .s (.mv aS0), .p .push (some (aS0, false)) (.mv aT11), .p .push (some (aS1, false)) (.len aS0), .p .push (some (aS2, false)) (.bin .neq .int aS0 aC8), .s (.pick aS3 (.c (.bool true)) aS0), .s (.mv aS0), .p .push (some (aS0, false)) (.mv aT21), .p .push (some (aS1, false)) (.len aS0), .p .push (some (aS2, false)) (.bin .neq .int aS0 aC3), .s (.pick aS3 (.c (.bool true)) aS0), .s (.mv aS0), .p .push (some (aS0, false)) (.mv aT21), .p .push (some (aS1, false)) (.iaddr 2 aS0 aC0), .p .push (some (aS2, false)) (.loadN 2 aS0), .p .push (some (aS3, false)) (.build [(I 0), (I 0)] [(0, 1, aC8), (1, 1, aC8)]), .p .push (some (aS4, false)) (.bin .neq (.agg 2) aS1 aS0), .s (.pick aS5 (.c (.bool true)) aS0), .s (.mv aS0), .p .push (some (aS0, false)) (.mv aT21), .p .push (some (aS1, false)) (.iaddr 2 aS0 aC2), .p .push (some (aS2, false)) (.loadN 2 aS0), .p .push (some (aS3, false)) (.build [(I 0), (I 0)] [(0, 1, aC10), (1, 1, aC8)]), .p .push (some (aS4, false)) (.bin .neq (.agg 2) aS1 aS0), .q (.of 33) (.pick aS5 (.c (.bool true)) aS0)]) (.cond aT33 (.seq (.reg [.q (.of 0) (.mv (.c (.bool false)))]) .ret) .skip)) X1))))))))))))))))
def F18.b0 : IR := F18.g0 F18.b1
def F18.res : List RV := [.t (.of 0)]
def F18 : Fn := { params := [], res := F18.res, body := F18.b0, init := F18.fr .undef .undef .undef .undef .undef .undef .undef .undef .undef .undef .undef .undef .undef .undef .undef .undef .undef .undef .undef .undef .undef .undef .undef .undef .undef .undef .undef .undef .undef .undef .undef .undef .undef .undef }
theorem F18.ok : fnA Tryz.prog Tryz.f18 [0, 1, 2, 3, 4, 5, 6, 7, 8, 9, 10, 11, 12, 13, 14, 15, 16, 17, 18, 19, 20, 21, 22, 23, 24, 25, 26, 28, 29, 30, 31, 32, 33, 191] = some F18 := by kernel_rfl
def F19.fr (x0 x1 x2 x3 x4 x5 x6 x7 x8 x9 x10 x11 x12 : AV) : T AV := (.n (.n (.n (.n .e x7 .e) x3 (.n .e x11 .e)) x1 (.n (.n .e x9 .e) x5 .e)) x0 (.n (.n (.n .e x8 .e) x4 (.n .e x12 .e)) x2 (.n (.n .e x10 .e) x6 .e)))
def F19.b2 : IR := (.seq (.reg [.s (.load aT8), .q (.of 5) (.mv aS0), .q (.of 6) (.mv aC0)]) .ret)
def F19.g1 (X2 : IR) : IR := (.seq (.reg [.w (.loc (.of 8)) none (.alloc [.nils])]) (.seq (.reg [.w (.loc (.of 9)) none (.alloc [.nils])]) (.seq (.reg [.w (.loc (.of 10)) none (.alloc [.nilf])]) (.seq (.reg [.s (.fn 77 (.of 77) [aT4, aT9, aT3, aT8, aT10]), .w .none none (.store 1 aT10 aS0)]) (.seq (.seq (.reg [.s (.load aT10), .s (.mv aT2), .w .push none (.call aS1 [aC1, aS0]), .q (.of 12) (.not aS0)]) (.cond aT12 (.seq (.reg [.q (.of 5) (.mv (.c .nils)), .q (.of 6) (.mv aC5)]) .ret) .skip)) X2)))))
def F19.b1 : IR := F19.g1 F19.b2
def F19.g0 (X1 : IR) : IR := (.seq (.reg [.w (.loc (.of 3)) none (.box aT0), .w (.loc (.of 4)) none (.box aT1), .q (.of 5) (.mv (.c .nils)), .q (.of 6) (.mv aC0)]) (.seq (.seq (.reg [.s (.load aT3), .s (.load aT4), .w .push none (.call (.c (.fn 76 (.of 76) [])) [aS1, aS0]), .q (.of 7) (.mv aS0)]) (.seq (.reg [.s (.mv aT7), .q (.of 11) (.bin .neq .int aS0 aC0)]) (.cond aT11 (.seq (.reg [.s (.mv aT7), .q (.of 5) (.mv (.c .nils)), .q (.of 6) (.mv aS0)]) .ret) .skip))) X1))
def F19.b0 : IR := F19.g0 F19.b1
def F19.res : List RV := [.t (.of 5), .t (.of 6)]
def F19 : Fn := { params := [(.of 0), (.of 1), (.of 2)], res := F19.res, body := F19.b0, init := F19.fr .undef .undef .undef .undef .undef .undef .undef .undef .undef .undef .undef .undef .undef }
theorem F19.ok : fnA Tryz.prog Tryz.f19 [0, 1, 2, 3, 4, 6, 7, 8, 9, 10, 11, 16, 22] = some F19 := by kernel_rfl
def F20.fr (x0 x1 x2 x3 x4 x5 x6 x7 x8 x9 x10 x11 x12 x13 x14 x15 x16 x17 x18 x19 x20 : AV) : T AV := (.n (.n (.n (.n (.n .e x15 .e) x7 .e) x3 (.n (.n .e x19 .e) x11 .e)) x1 (.n (.n (.n .e x17 .e) x9 .e) x5 (.n .e x13 .e))) x0 (.n (.n (.n (.n .e x16 .e) x8 .e) x4 (.n (.n .e x20 .e) x12 .e)) x2 (.n (.n (.n .e x18 .e) x10 .e) x6 (.n .e x14 .e))))
def F20.b8 : IR := (.seq (.reg [.s (.mv aT16), .q (.of 9) (.mv aS0)]) (.reg [.s (.mv aT8), .s (.mv aT9), .s (.mv aT2), .s (.bin .add .int aS0 aC1), .w .push none (.mkslice 1 8 [(I 0)] aS0 aS0), .s (.iaddr 1 aS4 aS3), .w .none none (.store 1 aS0 aS1)]))
def F20.g7 (X8 : IR) : IR := (.block 1 X8)
def F20.b7 : IR := F20.g7 F20.b8
def F20.b9 : IR := (.reg [.s (.bin .add .int aT16 aC1), .q (.of 16) (.mv aS0)])
def F20.g6 (X7 X9 : IR) : IR := (.seq X7 X9)
def F20.b6 : IR := F20.g6 F20.b7 F20.b9
def F20.g5 (X6 : IR) : IR := (.seq (.reg [.q (.of 17) (.bin .lss .int aT16 aT15)]) (.seq (.cond aT17 .skip (.exit 0)) X6))
def F20.b5 : IR := F20.g5 F20.b6
def F20.g4 (X5 : IR) : IR := (.loop X5)
def F20.b4 : IR := F20.g4 F20.b5
def F20.g3 (X4 : IR) : IR := (.block 0 X4)
def F20.b3 : IR := F20.g3 F20.b4
def F20.b28 : IR := (.dreg [] [(.s (.mv aT8), 0, []), (.s (.mv aT11), 0, []), (.s (.iaddr 1 aS1 aS0), 0, []), (.s (.load aS0), 0, []), (.s (.mv aT12), 0, []), (.s (.iaddr 1 aS1 aS0), 0, []), (.s (.load aS0), 0, []), (.s (.mv aT8), 0, []), (.s (.mv aT11), 0, []), (.s (.bin .sub .int aS0 aC1), 0, []), (.s (.iaddr 1 aS2 aS0), 0, []), (.s (.load aS0), 0, []), (.s (.mv aT12), 0, []), (.s (.mv aT10), 0, []), (.s (.bin .sub .int aS1 aS0), 0, []), (.s (.iaddr 1 aS3 aS0), 0, []), (.s (.load aS0), 0, []), (.s (.bin .add .int aS10 aS0), 0, []), (.s (.iaddr 1 aS14 aS13), 0, []), (.w .none none (.store 1 aS0 aS1), 0, [])])
def F20.g27 (X28 : IR) : IR := (.block 7 X28)
def F20.b27 : IR := F20.g27 F20.b28
def F20.b29 : IR := (.reg [.s (.mv aT12), .s (.bin .sub .int aS0 aC1), .q (.of 12) (.mv aS0)])
def F20.g26 (X27 X29 : IR) : IR := (.seq X27 X29)
def F20.b26 : IR := F20.g26 F20.b27 F20.b29
def F20.g25 (X26 : IR) : IR := (.seq (.seq (.reg [.s (.mv aT12), .s (.mv aT10), .q (.of 20) (.bin .geq .int aS1 aS0)]) (.cond aT20 .skip (.exit 6))) X26)
def F20.b25 : IR := F20.g25 F20.b26
def F20.g24 (X25 : IR) : IR := (.loop X25)
def F20.b24 : IR := F20.g24 F20.b25
def F20.g23 (X24 : IR) : IR := (.block 6 X24)
def F20.b23 : IR := F20.g23 F20.b24
def F20.g22 (X23 : IR) : IR := (.seq (.reg [.s (.mv aT2), .q (.of 12) (.mv aS0)]) X23)
def F20.b22 : IR := F20.g22 F20.b23
def F20.g21 (X22 : IR) : IR := (.block 5 X22)
def F20.b21 : IR := F20.g21 F20.b22
def F20.b30 : IR := (.reg [.s (.mv aT11), .s (.bin .sub .int aS0 aC1), .q (.of 11) (.mv aS0)])
def F20.g20 (X21 X30 : IR) : IR := (.seq X21 X30)
def F20.b20 : IR := F20.g20 F20.b21 F20.b30
def F20.g19 (X20 : IR) : IR := (.seq (.seq (.reg [.s (.mv aT11), .q (.of 19) (.bin .gtr .int aS0 aC0)]) (.cond aT19 .skip (.exit 4))) X20)
def F20.b19 : IR := F20.g19 F20.b20
def F20.g18 (X19 : IR) : IR := (.loop X19)
def F20.b18 : IR := F20.g18 F20.b19
def F20.g17 (X18 : IR) : IR := (.block 4 X18)
def F20.b17 : IR := F20.g17 F20.b18
def F20.g16 (X17 : IR) : IR := (.seq (.reg [.s (.mv aT1), .q (.of 11) (.mv aS0)]) X17)
def F20.b16 : IR := F20.g16 F20.b17
def F20.g15 (X16 : IR) : IR := (.block 3 X16)
def F20.b15 : IR := F20.g15 F20.b16
def F20.b31 : IR := (.reg [.s (.mv aT10), .s (.bin .add .int aS0 aC1), .q (.of 10) (.mv aS0)])
def F20.g14 (X15 X31 : IR) : IR := (.seq X15 X31)
def F20.b14 : IR := F20.g14 F20.b15 F20.b31
def F20.g13 (X14 : IR) : IR := (.seq (.seq (.reg [.s (.mv aT10), .s (.mv aT0), .q (.of 18) (.bin .leq .int aS1 aS0)]) (.cond aT18 .skip (.exit 2))) X14)
def F20.b13 : IR := F20.g13 F20.b14
def F20.g12 (X13 : IR) : IR := (.loop X13)
def F20.b12 : IR := F20.g12 F20.b13
def F20.g11 (X12 : IR) : IR := (.block 2 X12)
def F20.b11 : IR := F20.g11 F20.b12
def F20.b32 : IR := (.seq (.reg [.s (.mv aT8), .s (.mv aT1), .s (.iaddr 1 aS1 aS0), .s (.load aS0), .s (.mv aT2), .s (.iaddr 1 aS1 aS0), .s (.load aS0), .q (.of 3) (.mv aS0), .q (.of 4) (.mv aC0)]) .ret)
def F20.g10 (X11 X32 : IR) : IR := (.seq (.reg [.s (.mv aT8), .s (.iaddr 1 aS0 aC0), .s (.load aS0), .s (.iaddr 1 aS0 aC0), .w .none none (.store 1 aS0 aC1)]) (.seq (.seq (.reg [.q (.of 10) (.mv aC1)]) X11) X32))
def F20.b10 : IR := F20.g10 F20.b11 F20.b32
def F20.g2 (X3 X10 : IR) : IR := (.seq (.reg [.s (.mv aT1), .s (.bin .add .int aS0 aC1), .w .push none (.mkslice 1 24 [.nils] aS0 aS0), .q (.of 8) (.mv aS0)]) (.seq (.seq (.reg [.s (.mv aT8), .q (.of 15) (.len aS0), .q (.of 16) (.mv aC0)]) X3) X10))
def F20.b2 : IR := F20.g2 F20.b3 F20.b10
def F20.g1 (X2 : IR) : IR := (.seq (.reg [.s (.mv aT0), .s (.mv aT1), .w .push none (.call (.c (.fn 78 (.of 78) [])) [aC1, aS1, aS0]), .s (.mv aS0), .s (.ext 0 aS0), .s (.ext 1 aS1), .q (.of 6) (.mv aS1), .q (.of 7) (.mv aS0)]) (.seq (.seq (.reg [.s (.mv aT2), .s (.mv aT6), .s (.bin .lss .int aS1 aS0), .s (.mv aS0), .p .push (some (aS0, false)) (.mv aT2), .p .push (some (aS1, false)) (.mv aT7), .p .push (some (aS2, false)) (.bin .gtr .int aS1 aS0), .q (.of 14) (.pick aS3 (.c (.bool true)) aS0)]) (.cond aT14 (.seq (.reg [.q (.of 3) (.mv aC0), .q (.of 4) (.mv aC0)]) .ret) .skip)) X2))
def F20.b1 : IR := F20.g1 F20.b2
def F20.g0 (X1 : IR) : IR := (.seq (.reg [.q (.of 3) (.mv aC0), .q (.of 4) (.mv aC0)]) (.seq (.seq (.reg [.s (.mv aT0), .s (.mv aT1), .w .push none (.call (.c (.fn 76 (.of 76) [])) [aS1, aS0]), .q (.of 5) (.mv aS0)]) (.seq (.reg [.s (.mv aT5), .q (.of 13) (.bin .neq .int aS0 aC0)]) (.cond aT13 (.seq (.reg [.s (.mv aT5), .q (.of 3) (.mv aC0), .q (.of 4) (.mv aS0)]) .ret) .skip))) X1))
def F20.b0 : IR := F20.g0 F20.b1
def F20.res : List RV := [.t (.of 3), .t (.of 4)]
def F20 : Fn := { params := [(.of 0), (.of 1), (.of 2)], res := F20.res, body := F20.b0, init := F20.fr .undef .undef .undef .undef .undef .undef .undef .undef .undef .undef .undef .undef .undef .undef .undef .undef .undef .undef .undef .undef .undef }
theorem F20.ok : fnA Tryz.prog Tryz.f20 [0, 1, 2, 6, 7, 8, 9, 10, 11, 12, 13, 14, 15, 20, 35, 40, 41, 42, 57, 62, 68] = some F20 := by kernel_rfl
def F23.fr (x0 x1 x2 x3 x4 x5 x6 : AV) : T AV := (.n (.n (.n .e x3 .e) x1 (.n .e x5 .e)) x0 (.n (.n .e x4 .e) x2 (.n .e x6 .e)))
def F23.b7 : IR := (.seq (.dreg [] [(.s (.mv aT0), 0, []), (.s (.mv aT3), 0, []), (.s (.iaddr 1 aS1 aS0), 0, []), (.s (.load aS0), 0, []), (.s (.mv aT1), 0, []), (.s (.mv aT3), 0, []), (.s (.iaddr 1 aS1 aS0), 0, []), (.s (.load aS0), 0, []), (.w .push none (.call (.c (.fn 35 (.of 35) [])) [aS4, aS0]), 0, []), (.q (.of 6) (.not aS0), 0, [])]) (.cond aT6 (.seq (.reg [.q (.of 2) (.mv (.c (.bool false)))]) .ret) .skip))
def F23.g6 (X7 : IR) : IR := (.block 1 X7)
def F23.b6 : IR := F23.g6 F23.b7
def F23.b8 : IR := (.reg [.s (.mv aT3), .s (.bin .add .int aS0 aC1), .q (.of 3) (.mv aS0)])
def F23.g5 (X6 X8 : IR) : IR := (.seq X6 X8)
def F23.b5 : IR := F23.g5 F23.b6 F23.b8
def F23.g4 (X5 : IR) : IR := (.seq (.seq (.reg [.s (.mv aT3), .s (.mv aT0), .s (.len aS0), .q (.of 5) (.bin .lss .int aS2 aS0)]) (.cond aT5 .skip (.exit 0))) X5)
def F23.b4 : IR := F23.g4 F23.b5
def F23.g3 (X4 : IR) : IR := (.loop X4)
def F23.b3 : IR := F23.g3 F23.b4
def F23.g2 (X3 : IR) : IR := (.block 0 X3)
def F23.b2 : IR := F23.g2 F23.b3
def F23.b9 : IR := (.seq (.reg [.q (.of 2) (.mv (.c (.bool true)))]) .ret)
def F23.g1 (X2 X9 : IR) : IR := (.seq (.seq (.reg [.q (.of 3) (.mv aC0)]) X2) X9)
def F23.b1 : IR := F23.g1 F23.b2 F23.b9
def F23.g0 (X1 : IR) : IR := (.seq (.reg [.q (.of 2) (.mv (.c (.bool false)))]) (.seq (.seq (.reg [.s (.mv aT0), .s (.len aS0), .s (.mv aT1), .s (.len aS0), .q (.of 4) (.bin .neq .int aS2 aS0)]) (.cond aT4 (.seq (.reg [.q (.of 2) (.mv (.c (.bool false)))]) .ret) .skip)) X1))
def F23.b0 : IR := F23.g0 F23.b1
def F23.res : List RV := [.t (.of 2)]
def F23 : Fn := { params := [(.of 0), (.of 1)], res := F23.res, body := F23.b0, init := F23.fr .undef .undef .undef .undef .undef .undef .undef }
theorem F23.ok : fnA Tryz.prog Tryz.f23 [0, 1, 4, 5, 10, 14, 26] = some F23 := by kernel_rfl
def F25.fr (x0 x1 x2 x3 x4 x5 x6 x7 x8 : AV) : T AV := (.n (.n (.n (.n .e x7 .e) x3 .e) x1 (.n .e x5 .e)) x0 (.n (.n (.n .e x8 .e) x4 .e) x2 (.n .e x6 .e)))
def F25.b7 : IR := (.seq (.reg [.s (.faddr 1 aT3), .s (.load aS0), .s (.mv aT5), .s (.iaddr 1 aS1 aS0), .s (.load aS0), .s (.len aS0), .s (.mv aT1), .q (.of 8) (.bin .gtr .int aS1 aS0)]) (.cond aT8 (.seq (.reg [.q (.of 4) (.mv (.c (.bool false)))]) .ret) .skip))
def F25.g6 (X7 : IR) : IR := (.block 1 X7)
def F25.b6 : IR := F25.g6 F25.b7
def F25.b8 : IR := (.reg [.s (.mv aT5), .s (.bin .add .int aS0 aC1), .q (.of 5) (.mv aS0)])
def F25.g5 (X6 X8 : IR) : IR := (.seq X6 X8)
def F25.b5 : IR := F25.g5 F25.b6 F25.b8
def F25.g4 (X5 : IR) : IR := (.seq (.seq (.reg [.s (.mv aT5), .s (.faddr 1 aT3), .s (.load aS0), .s (.len aS0), .q (.of 7) (.bin .lss .int aS3 aS0)]) (.cond aT7 .skip (.exit 0))) X5)
def F25.b4 : IR := F25.g4 F25.b5
def F25.g3 (X4 : IR) : IR := (.loop X4)
def F25.b3 : IR := F25.g3 F25.b4
def F25.g2 (X3 : IR) : IR := (.block 0 X3)
def F25.b2 : IR := F25.g2 F25.b3
def F25.b9 : IR := (.seq (.reg [.q (.of 4) (.mv (.c (.bool true)))]) .ret)
def F25.g1 (X2 X9 : IR) : IR := (.seq (.seq (.reg [.q (.of 5) (.mv aC0)]) X2) X9)
def F25.b1 : IR := F25.g1 F25.b2 F25.b9
def F25.g0 (X1 : IR) : IR := (.seq (.reg [.w (.loc (.of 3)) none (.box aT0), .q (.of 4) (.mv (.c (.bool false)))]) (.seq (.seq (.reg [.s (.faddr 1 aT3), .s (.load aS0), .s (.len aS0), .s (.mv aT2), .q (.of 6) (.bin .gtr .int aS1 aS0)]) (.cond aT6 (.seq (.reg [.q (.of 4) (.mv (.c (.bool false)))]) .ret) .skip)) X1))
def F25.b0 : IR := F25.g0 F25.b1
def F25.res : List RV := [.t (.of 4)]
def F25 : Fn := { params := [(.of 0), (.of 1), (.of 2)], res := F25.res, body := F25.b0, init := F25.fr .undef .undef .undef .undef .undef .undef .undef .undef .undef }
theorem F25.ok : fnA Tryz.prog Tryz.f25 [0, 1, 2, 3, 6, 7, 12, 17, 27] = some F25 := by kernel_rfl
def F26.fr (x0 x1 x2 x3 x4 x5 x6 x7 x8 : AV) : T AV := (.n (.n (.n (.n .e x7 .e) x3 .e) x1 (.n .e x5 .e)) x0 (.n (.n (.n .e x8 .e) x4 .e) x2 (.n .e x6 .e)))
def F26.b1 : IR := (.seq (.reg [.s (.loadN 2 aT1), .w .push none (.call (.c (.fn 83 (.of 83) [])) [aS0]), .s (.mv aS0), .s (.ext 0 aS0), .s (.ext 1 aS1), .q (.of 6) (.mv aS1), .q (.of 7) (.mv aS0)]) (.seq (.reg [.s (.mv aT6), .s (.mv aT7), .q (.of 2) (.mv aS1), .q (.of 3) (.mv aS0), .q (.of 4) (.mv aC0)]) .ret))
def F26.g0 (X1 : IR) : IR := (.seq (.reg [.w (.loc (.of 1)) none (.box aT0), .q (.of 2) (.mv aC0), .q (.of 3) (.mv aC0), .q (.of 4) (.mv aC0)]) (.seq (.seq (.dreg [] [(.s (.loadN 2 aT1), 0, []), (.s (.faddr 1 aT1), 1, []), (.s (.load aS0), 1, []), (.s (.len aS0), 1, []), (.s (.bin .eql .int aS0 aC0), 1, []), (.w .push none (.call (.c (.fn 81 (.of 81) [])) [aS4]), 0, []), (.w .push none (.call (.c (.fn 82 (.of 82) [])) [aS1, aC12]), 0, []), (.w .push none (.bslice 1 2 [(I 0)] [(0, 1, aS1), (1, 1, aS0)]), 0, []), (.w .push none (.call (.c (.fn 80 (.of 80) [])) [aS0]), 0, []), (.q (.of 5) (.mv aS0), 0, [])]) (.seq (.reg [.s (.mv aT5), .q (.of 8) (.bin .neq .int aS0 aC0)]) (.cond aT8 (.seq (.reg [.s (.mv aT5), .q (.of 2) (.mv aC0), .q (.of 3) (.mv aC0), .q (.of 4) (.mv aS0)]) .ret) .skip))) X1))
def F26.b0 : IR := F26.g0 F26.b1
def F26.res : List RV := [.t (.of 2), .t (.of 3), .t (.of 4)]
def F26 : Fn := { params := [(.of 0)], res := F26.res, body := F26.b0, init := F26.fr .undef .undef .undef .undef .undef .undef .undef .undef .undef }
theorem F26.ok : fnA Tryz.prog Tryz.f26 [0, 1, 2, 3, 4, 5, 6, 7, 18] = some F26 := by kernel_rfl
def F27.fr (x0 x1 x2 x3 x4 x5 x6 x7 x8 x9 x10 x11 x12 x13 : AV) : T AV := (.n (.n (.n (.n .e x7 .e) x3 (.n .e x11 .e)) x1 (.n (.n .e x9 .e) x5 (.n .e x13 .e))) x0 (.n (.n (.n .e x8 .e) x4 (.n .e x12 .e)) x2 (.n (.n .e x10 .e) x6 .e)))
def F27.b16 : IR := (.seq (.dreg [] [(.s (.mv aT5), 0, []), (.s (.bin .gtr .int aS0 aC0), 0, []), (.s (.mv aS0), 0, []), (.p .push (some (aS0, true)) (.mv aT4), 0, []), (.p .push (some (aS1, true)) (.mv aT5), 0, []), (.p .push (some (aS2, true)) (.iaddr 1 aS1 aS0), 0, []), (.p .push (some (aS3, true)) (.load aS0), 0, []), (.p .push (some (aS4, true)) (.mv aT4), 0, []), (.p .push (some (aS5, true)) (.mv aT5), 0, []), (.p .push (some (aS6, true)) (.bin .sub .int aS0 aC1), 0, []), (.p .push (some (aS7, true)) (.iaddr 1 aS2 aS0), 0, []), (.p .push (some (aS8, true)) (.load aS0), 0, []), (.p .push (some (aS9, true)) (.bin .leq .int aS5 aS0), 0, []), (.q (.of 12) (.pick aS10 aS0 (.c (.bool false))), 0, [])]) (.cond aT12 (.seq (.reg [.q (.of 2) (.mv aC11)]) .ret) .skip))
def F27.g15 (X16 : IR) : IR := (.seq (.seq (.dreg [] [(.s (.mv aT4), 0, []), (.s (.mv aT5), 0, []), (.s (.iaddr 1 aS1 aS0), 0, []), (.s (.load aS0), 0, []), (.s (.bin .lss .int aS0 aC0), 0, []), (.s (.mv aS0), 0, []), (.p .push (some (aS0, false)) (.mv aT4), 0, []), (.p .push (some (aS1, false)) (.mv aT5), 0, []), (.p .push (some (aS2, false)) (.iaddr 1 aS1 aS0), 0, []), (.p .push (some (aS3, false)) (.load aS0), 0, []), (.p .push (some (aS4, false)) (.faddr 0 aT1), 0, []), (.p .push (some (aS5, false)) (.load aS0), 0, []), (.p .push (some (aS6, false)) (.bin .geq .int aS2 aS0), 0, []), (.q (.of 11) (.pick aS7 (.c (.bool true)) aS0), 0, [])]) (.cond aT11 (.seq (.reg [.q (.of 2) (.mv aC10)]) .ret) .skip)) X16)
def F27.b15 : IR := F27.g15 F27.b16
def F27.g14 (X15 : IR) : IR := (.block 3 X15)
def F27.b14 : IR := F27.g14 F27.b15
def F27.b17 : IR := (.reg [.s (.mv aT5), .s (.bin .add .int aS0 aC1), .q (.of 5) (.mv aS0)])
def F27.g13 (X14 X17 : IR) : IR := (.seq X14 X17)
def F27.b13 : IR := F27.g13 F27.b14 F27.b17
def F27.g12 (X13 : IR) : IR := (.seq (.seq (.reg [.s (.mv aT5), .s (.mv aT4), .s (.len aS0), .q (.of 10) (.bin .lss .int aS2 aS0)]) (.cond aT10 .skip (.exit 2))) X13)
def F27.b12 : IR := F27.g12 F27.b13
def F27.g11 (X12 : IR) : IR := (.loop X12)
def F27.b11 : IR := F27.g11 F27.b12
def F27.g10 (X11 : IR) : IR := (.block 2 X11)
def F27.b10 : IR := F27.g10 F27.b11
def F27.b18 : IR := (.seq (.reg [.s (.faddr 1 aT1), .s (.load aS0), .s (.mv aT3), .s (.slice 1 aS1 none (some aS0) none), .s (.mv aT4), .w (.loc (.of 13)) none (.call (.c (.fn 84 (.of 84) [])) [aS1, aS0])]) (.cond aT13 (.seq (.reg [.q (.of 2) (.mv aC9)]) .ret) .skip))
def F27.g9 (X10 X18 : IR) : IR := (.seq (.seq (.reg [.q (.of 5) (.mv aC0)]) X10) X18)
def F27.b9 : IR := F27.g9 F27.b10 F27.b18
def F27.g8 (X9 : IR) : IR := (.seq (.reg [.s (.faddr 1 aT1), .s (.load aS0), .s (.mv aT3), .s (.iaddr 1 aS1 aS0), .s (.load aS0), .q (.of 4) (.mv aS0)]) (.seq (.seq (.reg [.s (.mv aT4), .s (.len aS0), .q (.of 9) (.bin .eql .int aS0 aC0)]) (.cond aT9 (.seq (.reg [.q (.of 2) (.mv aC12)]) .ret) .skip)) X9))
def F27.b8 : IR := F27.g8 F27.b9
def F27.g7 (X8 : IR) : IR := (.block 1 X8)
def F27.b7 : IR := F27.g7 F27.b8
def F27.b19 : IR := (.reg [.s (.mv aT3), .s (.bin .add .int aS0 aC1), .q (.of 3) (.mv aS0)])
def F27.g6 (X7 X19 : IR) : IR := (.seq X7 X19)
def F27.b6 : IR := F27.g6 F27.b7 F27.b19
def F27.g5 (X6 : IR) : IR := (.seq (.seq (.reg [.s (.mv aT3), .s (.faddr 1 aT1), .s (.load aS0), .s (.len aS0), .q (.of 8) (.bin .lss .int aS3 aS0)]) (.cond aT8 .skip (.exit 0))) X6)
def F27.b5 : IR := F27.g5 F27.b6
def F27.g4 (X5 : IR) : IR := (.loop X5)
def F27.b4 : IR := F27.g4 F27.b5
def F27.g3 (X4 : IR) : IR := (.block 0 X4)
def F27.b3 : IR := F27.g3 F27.b4
def F27.b20 : IR := (.seq (.reg [.q (.of 2) (.mv aC0)]) .ret)
def F27.g2 (X3 X20 : IR) : IR := (.seq (.seq (.reg [.q (.of 3) (.mv aC0)]) X3) X20)
def F27.b2 : IR := F27.g2 F27.b3 F27.b20
def F27.g1 (X2 : IR) : IR := (.seq (.seq (.reg [.s (.faddr 1 aT1), .s (.load aS0), .s (.len aS0), .q (.of 7) (.bin .gtr .int aS0 aC128)]) (.cond aT7 (.seq (.reg [.q (.of 2) (.mv aC5)]) .ret) .skip)) X2)
def F27.b1 : IR := F27.g1 F27.b2
def F27.g0 (X1 : IR) : IR := (.seq (.reg [.w (.loc (.of 1)) none (.box aT0), .q (.of 2) (.mv aC0)]) (.seq (.seq (.reg [.s (.faddr 0 aT1), .s (.load aS0), .s (.bin .lss .int aS0 aC1), .s (.mv aS0), .p .push (some (aS0, false)) (.faddr 0 aT1), .p .push (some (aS1, false)) (.load aS0), .p .push (some (aS2, false)) (.bin .gtr .int aS0 aC256), .q (.of 6) (.pick aS3 (.c (.bool true)) aS0)]) (.cond aT6 (.seq (.reg [.q (.of 2) (.mv aC3)]) .ret) .skip)) X1))
def F27.b0 : IR := F27.g0 F27.b1
def F27.res : List RV := [.t (.of 2)]
def F27 : Fn := { params := [(.of 0)], res := F27.res, body := F27.b0, init := F27.fr .undef .undef .undef .undef .undef .undef .undef .undef .undef .undef .undef .undef .undef .undef }
theorem F27.ok : fnA Tryz.prog Tryz.f27 [0, 1, 2, 3, 4, 5, 13, 17, 22, 32, 36, 52, 66, 72] = some F27 := by kernel_rfl
def F31.fr (x0 x1 x2 x3 x4 x5 x6 x7 x8 x9 x10 x11 x12 x13 x14 x15 x16 x17 x18 x19 x20 x21 x22 : AV) : T AV := (.n (.n (.n (.n (.n .e x15 .e) x7 .e) x3 (.n (.n .e x19 .e) x11 .e)) x1 (.n (.n (.n .e x17 .e) x9 .e) x5 (.n (.n .e x21 .e) x13 .e))) x0 (.n (.n (.n (.n .e x16 .e) x8 .e) x4 (.n (.n .e x20 .e) x12 .e)) x2 (.n (.n (.n .e x18 .e) x10 .e) x6 (.n (.n .e x22 .e) x14 .e))))
def F31.b15 : IR := (.reg [.s (.mv aT13), .s (.mv aT2), .s (.conv .u8 aS0), .s (.mv aT13), .s (.aaddr 1 128 aT10 aS0), .s (.load aS0), .s (.bin .sub .int aS3 aS0), .s (.aaddr 1 128 aT12 aS6), .w .none none (.store 1 aS0 aS1)])
def F31.g14 (X15 : IR) : IR := (.seq (.reg [.s (.mv aT20), .q (.of 13) (.mv aS0)]) (.seq (.seq (.reg [.s (.mv aT13), .s (.aaddr 1 128 aT10 aS0), .s (.load aS0), .s (.conv .i64 aS0), .s (.mv aT2), .q (.of 22) (.bin .gtr .int aS1 aS0)]) (.cond aT22 (.exit 1) .skip)) X15))
def F31.b14 : IR := F31.g14 F31.b15
def F31.g13 (X14 : IR) : IR := (.block 3 X14)
def F31.b13 : IR := F31.g13 F31.b14
def F31.b16 : IR := (.reg [.s (.bin .add .int aT20 aC1), .q (.of 20) (.mv aS0)])
def F31.g12 (X13 X16 : IR) : IR := (.seq X13 X16)
def F31.b12 : IR := F31.g12 F31.b13 F31.b16
def F31.g11 (X12 : IR) : IR := (.seq (.reg [.q (.of 21) (.bin .lss .int aT20 aT19)]) (.seq (.cond aT21 .skip (.exit 2)) X12))
def F31.b11 : IR := F31.g11 F31.b12
def F31.g10 (X11 : IR) : IR := (.loop X11)
def F31.b10 : IR := F31.g10 F31.b11
def F31.g9 (X10 : IR) : IR := (.block 2 X10)
def F31.b9 : IR := F31.g9 F31.b10
def F31.b17 : IR := (.reg [.s (.mv aT9), .s (.mv aT11), .s (.mv aT8), .s (.loadN 128 aT12), .s (.look (.agg 128) (I 0) false aS1 aS0), .s (.bin .mul .int aS3 aS0), .s (.bin .add .int aS5 aS0), .q (.of 9) (.mv aS0)])
def F31.g8 (X9 X17 : IR) : IR := (.seq (.reg [.s (.entry aT17), .s (.ext 0 aS0), .s (.ext 1 aS1), .w (.loc (.of 10)) none (.alloc zU), .w .none none (.store 128 aT10 aS1), .q (.of 11) (.mv aS0)]) (.seq (.reg [.w (.loc (.of 12)) none (.alloc zU)]) (.seq (.seq (.reg [.s (.faddr 1 aT3), .s (.load aS0), .q (.of 19) (.len aS0), .q (.of 20) (.mv aC0)]) X9) X17)))
def F31.b8 : IR := F31.g8 F31.b9 F31.b17
def F31.g7 (X8 : IR) : IR := (.block 1 X8)
def F31.b7 : IR := F31.g7 F31.b8
def F31.g6 (X7 : IR) : IR := (.seq (.reg [.w .push none (.next aT17), .q (.of 18) (.ext 0 aS0)]) (.seq (.cond aT18 .skip (.exit 0)) X7))
def F31.b6 : IR := F31.g6 F31.b7
def F31.g5 (X6 : IR) : IR := (.loop X6)
def F31.b5 : IR := F31.g5 F31.b6
def F31.g4 (X5 : IR) : IR := (.block 0 X5)
def F31.b4 : IR := F31.g4 F31.b5
def F31.b18 : IR := (.seq (.reg [.s (.mv aT9), .q (.of 4) (.mv aS0), .q (.of 5) (.mv aC0)]) .ret)
def F31.g3 (X4 X18 : IR) : IR := (.seq (.reg [.s (.loadN 2 aT3), .s (.mv aT7), .s (.faddr 0 aT3), .s (.load aS0), .s (.mv aT1), .w .push none (.call (.c (.fn 89 (.of 89) [])) [aS4, aS3, aS1, aS0]), .q (.of 8) (.mv aS0)]) (.seq (.reg [.q (.of 9) (.mv aC0)]) (.seq .skip (.seq (.seq (.reg [.s (.loadN 2 aT3), .s (.mv aT7), .s (.mv aT1), .w .push none (.call (.c (.fn 89 (.of 89) [])) [aS2, aC0, aS1, aS0]), .w (.loc (.of 17)) none (.range aS0)]) X4) X18))))
def F31.b3 : IR := F31.g3 F31.b4 F31.b18
def F31.g2 (X3 : IR) : IR := (.seq (.seq (.reg [.s (.faddr 1 aT3), .s (.load aS0), .s (.len aS0), .s (.bin .gtr .int aS0 aC0), .s (.mv aS0), .p .push (some (aS0, true)) (.mv aT2), .p .push (some (aS1, true)) (.bin .lss .int aS0 aC0), .p .push (some (aS2, true)) (.mv aS0), .p .push (some (aS0, false)) (.mv aT2), .p .push (some (aS1, false)) (.bin .gtr .int aS0 aC255), .p .push (some (aS5, true)) (.pick aS2 (.c (.bool true)) aS0), .q (.of 16) (.pick aS6 aS0 (.c (.bool false)))]) (.cond aT16 (.seq (.reg [.q (.of 4) (.mv aC0), .q (.of 5) (.mv aC0)]) .ret) .skip)) X3)
def F31.b2 : IR := F31.g2 F31.b3
def F31.g1 (X2 : IR) : IR := (.seq (.reg [.s (.faddr 0 aT3), .s (.load aS0), .s (.bin .quo .int aS0 aC2), .q (.of 7) (.mv aS0)]) (.seq (.seq (.reg [.s (.faddr 0 aT3), .s (.load aS0), .s (.mv aT7), .s (.bin .sub .int aS1 aS0), .s (.mv aT1), .w (.loc (.of 15)) none (.call (.c (.fn 88 (.of 88) [])) [aS1, aS0])]) (.cond aT15 (.seq (.reg [.q (.of 4) (.mv aC0), .q (.of 5) (.mv aC20)]) .ret) .skip)) X2))
def F31.b1 : IR := F31.g1 F31.b2
def F31.g0 (X1 : IR) : IR := (.seq (.reg [.w (.loc (.of 3)) none (.box aT0), .q (.of 4) (.mv aC0), .q (.of 5) (.mv aC0)]) (.seq (.seq (.reg [.s (.loadN 2 aT3), .s (.mv aT1), .w .push none (.call (.c (.fn 87 (.of 87) [])) [aS1, aS0]), .q (.of 6) (.mv aS0)]) (.seq (.reg [.s (.mv aT6), .q (.of 14) (.bin .neq .int aS0 aC0)]) (.cond aT14 (.seq (.reg [.s (.mv aT6), .q (.of 4) (.mv aC0), .q (.of 5) (.mv aS0)]) .ret) .skip))) X1))
def F31.b0 : IR := F31.g0 F31.b1
def F31.res : List RV := [.t (.of 4), .t (.of 5)]
def F31 : Fn := { params := [(.of 0), (.of 1), (.of 2)], res := F31.res, body := F31.b0, init := F31.fr .undef .undef .undef .undef .undef .undef .undef .undef .undef .undef .undef .undef .undef .undef .undef .undef .undef .undef .undef .undef .undef .undef .undef }
theorem F31.ok : fnA Tryz.prog Tryz.f31 [0, 1, 2, 3, 6, 7, 8, 9, 10, 11, 12, 13, 14, 15, 20, 30, 42, 53, 55, 61, 62, 63, 70] = some F31 := by kernel_rfl
def F33.fr (x0 x1 x2 x3 x4 x5 x6 x7 x8 x9 x10 x11 x12 x13 x14 x15 x16 x17 x18 x19 x20 x21 x22 x23 x24 x25 x26 x27 x28 x29 x30 x31 x32 : AV) : T AV := (.n (.n (.n (.n (.n (.n .e x31 .e) x15 .e) x7 (.n .e x23 .e)) x3 (.n (.n .e x19 .e) x11 (.n .e x27 .e))) x1 (.n (.n (.n .e x17 .e) x9 (.n .e x25 .e)) x5 (.n (.n .e x21 .e) x13 (.n .e x29 .e)))) x0 (.n (.n (.n (.n (.n .e x32 .e) x16 .e) x8 (.n .e x24 .e)) x4 (.n (.n .e x20 .e) x12 (.n .e x28 .e))) x2 (.n (.n (.n .e x18 .e) x10 (.n .e x26 .e)) x6 (.n (.n .e x22 .e) x14 (.n .e x30 .e)))))
def F33.b13 : IR := (.seq (.reg [.s (.mv aT23), .q (.of 12) (.mv aS0)]) (.reg [.s (.mv aT11), .s (.mv aT12), .s (.mv aT12), .s (.aaddr 1 128 aT10 aS0), .s (.load aS0), .s (.conv .i64 aS0), .s (.iaddr 1 aS5 aS4), .w .none none (.store 1 aS0 aS1)]))
def F33.g12 (X13 : IR) : IR := (.block 3 X13)
def F33.b12 : IR := F33.g12 F33.b13
def F33.b14 : IR := (.reg [.s (.bin .add .int aT23 aC1), .q (.of 23) (.mv aS0)])
def F33.g11 (X12 X14 : IR) : IR := (.seq X12 X14)
def F33.b11 : IR := F33.g11 F33.b12 F33.b14
def F33.g10 (X11 : IR) : IR := (.seq (.reg [.q (.of 24) (.bin .lss .int aT23 aT22)]) (.seq (.cond aT24 .skip (.exit 2)) X11))
def F33.b10 : IR := F33.g10 F33.b11
def F33.g9 (X10 : IR) : IR := (.loop X10)
def F33.b9 : IR := F33.g9 F33.b10
def F33.g8 (X9 : IR) : IR := (.block 2 X9)
def F33.b8 : IR := F33.g8 F33.b9
def F33.b15 : IR := (.reg [.s (.mv aT9), .s (.mv aT11), .w .push none (.bslice 1 1 [.nils] [(0, 1, aS0)]), .w .push none (.app 1 24 aS2 aS0), .q (.of 9) (.mv aS0)])
def F33.g7 (X8 X15 : IR) : IR := (.seq (.reg [.s (.entry aT20), .s (.ext 0 aS0), .w (.loc (.of 10)) none (.alloc zU), .w .none none (.store 128 aT10 aS0)]) (.seq (.reg [.s (.faddr 1 aT3), .s (.load aS0), .s (.len aS0), .w .push none (.mkslice 1 8 [(I 0)] aS0 aS0), .q (.of 11) (.mv aS0)]) (.seq (.seq (.reg [.s (.mv aT11), .q (.of 22) (.len aS0), .q (.of 23) (.mv aC0)]) X8) X15)))
def F33.b7 : IR := F33.g7 F33.b8 F33.b15
def F33.g6 (X7 : IR) : IR := (.block 1 X7)
def F33.b6 : IR := F33.g6 F33.b7
def F33.g5 (X6 : IR) : IR := (.seq (.reg [.w .push none (.next aT20), .q (.of 21) (.ext 0 aS0)]) (.seq (.cond aT21 .skip (.exit 0)) X6))
def F33.b5 : IR := F33.g5 F33.b6
def F33.g4 (X5 : IR) : IR := (.loop X5)
def F33.b4 : IR := F33.g4 F33.b5
def F33.g3 (X4 : IR) : IR := (.block 0 X4)
def F33.b3 : IR := F33.g3 F33.b4
def F33.b28 : IR := (.seq (.reg [.s (.mv aT31), .s (.iaddr 1 aT29 aT31), .s (.load aS0), .q (.of 16) (.mv aS2), .q (.of 17) (.mv aS0)]) (.reg [.s (.mv aT16), .s (.mv aT17), .s (.conv .u8 aS0), .s (.aaddr 1 128 aT15 aS2), .w .none none (.store 1 aS0 aS1)]))
def F33.g27 (X28 : IR) : IR := (.block 7 X28)
def F33.b27 : IR := F33.g27 F33.b28
def F33.b29 : IR := (.reg [.s (.bin .add .int aT31 aC1), .q (.of 31) (.mv aS0)])
def F33.g26 (X27 X29 : IR) : IR := (.seq X27 X29)
def F33.b26 : IR := F33.g26 F33.b27 F33.b29
def F33.g25 (X26 : IR) : IR := (.seq (.reg [.q (.of 32) (.bin .lss .int aT31 aT30)]) (.seq (.cond aT32 .skip (.exit 6)) X26))
def F33.b25 : IR := F33.g25 F33.b26
def F33.g24 (X25 : IR) : IR := (.loop X25)
def F33.b24 : IR := F33.g24 F33.b25
def F33.g23 (X24 : IR) : IR := (.block 6 X24)
def F33.b23 : IR := F33.g23 F33.b24
def F33.b30 : IR := (.reg [.s (.mv aT13), .s (.mv aT8), .s (.loadN 128 aT15), .s (.look (.agg 128) (I 0) false aS1 aS0), .w .push none (.bslice 1 1 [(I 0)] [(0, 1, aS0)]), .w .push none (.app 1 8 aS4 aS0), .q (.of 13) (.mv aS0)])
def F33.g22 (X23 X30 : IR) : IR := (.seq (.reg [.s (.iaddr 1 aT25 aT27), .s (.load aS0), .q (.of 14) (.mv aS0)]) (.seq (.reg [.w (.loc (.of 15)) none (.alloc zU)]) (.seq (.seq (.reg [.q (.of 29) (.mv aT14), .q (.of 30) (.len aT29), .q (.of 31) (.mv aC0)]) X23) X30)))
def F33.b22 : IR := F33.g22 F33.b23 F33.b30
def F33.g21 (X22 : IR) : IR := (.block 5 X22)
def F33.b21 : IR := F33.g21 F33.b22
def F33.b31 : IR := (.reg [.s (.bin .add .int aT27 aC1), .q (.of 27) (.mv aS0)])
def F33.g20 (X21 X31 : IR) : IR := (.seq X21 X31)
def F33.b20 : IR := F33.g20 F33.b21 F33.b31
def F33.g19 (X20 : IR) : IR := (.seq (.reg [.q (.of 28) (.bin .lss .int aT27 aT26)]) (.seq (.cond aT28 .skip (.exit 4)) X20))
def F33.b19 : IR := F33.g19 F33.b20
def F33.g18 (X19 : IR) : IR := (.loop X19)
def F33.b18 : IR := F33.g18 F33.b19
def F33.g17 (X18 : IR) : IR := (.block 4 X18)
def F33.b17 : IR := F33.g17 F33.b18
def F33.b32 : IR := (.seq (.reg [.s (.mv aT9), .s (.mv aT13), .q (.of 4) (.mv aS1), .q (.of 5) (.mv aS0), .q (.of 6) (.mv aC0)]) .ret)
def F33.g16 (X17 X32 : IR) : IR := (.seq (.reg [.s (.mv aT9), .w .push none (.call (.c (.fn 91 (.of 91) [])) [aS0, (.c (.fn 92 (.of 92) []))])]) (.seq (.reg [.q (.of 13) (.mv (.c .nils))]) (.seq (.seq (.reg [.q (.of 25) (.mv aT9), .q (.of 26) (.len aT25), .q (.of 27) (.mv aC0)]) X17) X32)))
def F33.b16 : IR := F33.g16 F33.b17 F33.b32
def F33.g2 (X3 X16 : IR) : IR := (.seq (.reg [.s (.loadN 2 aT3), .s (.mv aT1), .s (.mv aT2), .w .push none (.call (.c (.fn 89 (.of 89) [])) [aS2, aC0, aS1, aS0]), .q (.of 8) (.mv aS0)]) (.seq (.reg [.q (.of 9) (.mv (.c .nils))]) (.seq (.seq (.reg [.s (.mv aT8), .w (.loc (.of 20)) none (.range aS0)]) X3) X16)))
def F33.b2 : IR := F33.g2 F33.b3 F33.b16
def F33.g1 (X2 : IR) : IR := (.seq (.seq (.reg [.s (.mv aT1), .s (.mv aT2), .w (.loc (.of 19)) none (.call (.c (.fn 88 (.of 88) [])) [aS1, aS0])]) (.cond aT19 (.seq (.reg [.q (.of 4) (.mv (.c .nils)), .q (.of 5) (.mv (.c .nils)), .q (.of 6) (.mv aC20)]) .ret) .skip)) X2)
def F33.b1 : IR := F33.g1 F33.b2
def F33.g0 (X1 : IR) : IR := (.seq (.reg [.w (.loc (.of 3)) none (.box aT0), .q (.of 4) (.mv (.c .nils)), .q (.of 5) (.mv (.c .nils)), .q (.of 6) (.mv aC0)]) (.seq (.seq (.dreg [] [(.s (.loadN 2 aT3), 0, []), (.s (.faddr 0 aT3), 1, []), (.s (.load aS0), 1, []), (.s (.bin .gtr .int aS0 aC16), 1, []), (.s (.mv aT2), 2, []), (.s (.bin .lss .int aS0 aC0), 2, []), (.w .push none (.call (.c (.fn 81 (.of 81) [])) [aS5]), 0, []), (.w .push none (.call (.c (.fn 82 (.of 82) [])) [aS3, aC20]), 0, []), (.s (.mv aS2), 0, []), (.p .push (some (aS0, false)) (.mv aT2), 0, []), (.p .push (some (aS1, false)) (.bin .gtr .int aS0 aC9), 0, []), (.s (.pick aS2 (.c (.bool true)) aS0), 0, []), (.s (.mv aS0), 0, []), (.p .push (some (aS0, false)) (.mv aT1), 0, []), (.p .push (some (aS1, false)) (.bin .lss .int aS0 aC0), 0, []), (.s (.pick aS2 (.c (.bool true)) aS0), 0, []), (.s (.mv aS0), 0, []), (.p .push (some (aS0, false)) (.mv aT1), 0, []), (.p .push (some (aS1, false)) (.faddr 0 aT3), 0, []), (.p .push (some (aS2, false)) (.load aS0), 0, []), (.p .push (some (aS3, false)) (.bin .gtr .int aS2 aS0), 0, []), (.s (.pick aS4 (.c (.bool true)) aS0), 0, []), (.w .push none (.call (.c (.fn 82 (.of 82) [])) [aS0, aC3]), 0, []), (.w .push none (.bslice 1 3 [(I 0)] [(0, 1, aS16), (1, 1, aS15), (2, 1, aS0)]), 0, []), (.w .push none (.call (.c (.fn 80 (.of 80) [])) [aS0]), 0, []), (.q (.of 7) (.mv aS0), 0, [])]) (.seq (.reg [.s (.mv aT7), .q (.of 18) (.bin .neq .int aS0 aC0)]) (.cond aT18 (.seq (.reg [.s (.mv aT7), .q (.of 4) (.mv (.c .nils)), .q (.of 5) (.mv (.c .nils)), .q (.of 6) (.mv aS0)]) .ret) .skip))) X1))
def F33.b0 : IR := F33.g0 F33.b1
def F33.res : List RV := [.t (.of 4), .t (.of 5), .t (.of 6)]
def F33 : Fn := { params := [(.of 0), (.of 1), (.of 2)], res := F33.res, body := F33.b0, init := F33.fr .undef .undef .undef .undef .undef .undef .undef .undef .undef .undef .undef .undef .undef .undef .undef .undef .undef .undef .undef .undef .undef .undef .undef .undef .undef .undef .undef .undef .undef .undef .undef .undef .undef }
theorem F33.ok : fnA Tryz.prog Tryz.f33 [0, 1, 2, 3, 6, 7, 8, 9, 10, 11, 12, 13, 14, 15, 17, 18, 19, 20, 47, 51, 57, 59, 67, 68, 69, 85, 86, 87, 88, 91, 92, 93, 94] = some F33 := by kernel_rfl
def F35.fr (x0 x1 x2 x3 x4 x5 x6 : AV) : T AV := (.n (.n (.n .e x3 .e) x1 (.n .e x5 .e)) x0 (.n (.n .e x4 .e) x2 (.n .e x6 .e)))
def F35.b7 : IR := (.seq (.dreg [] [(.s (.mv aT0), 0, []), (.s (.mv aT3), 0, []), (.s (.iaddr 1 aS1 aS0), 0, []), (.s (.load aS0), 0, []), (.s (.mv aT1), 0, []), (.s (.mv aT3), 0, []), (.s (.iaddr 1 aS1 aS0), 0, []), (.s (.load aS0), 0, []), (.q (.of 6) (.bin .neq .int aS4 aS0), 0, [])]) (.cond aT6 (.seq (.reg [.q (.of 2) (.mv (.c (.bool false)))]) .ret) .skip))
def F35.g6 (X7 : IR) : IR := (.block 1 X7)
def F35.b6 : IR := F35.g6 F35.b7
def F35.b8 : IR := (.reg [.s (.mv aT3), .s (.bin .add .int aS0 aC1), .q (.of 3) (.mv aS0)])
def F35.g5 (X6 X8 : IR) : IR := (.seq X6 X8)
def F35.b5 : IR := F35.g5 F35.b6 F35.b8
def F35.g4 (X5 : IR) : IR := (.seq (.seq (.reg [.s (.mv aT3), .s (.mv aT0), .s (.len aS0), .q (.of 5) (.bin .lss .int aS2 aS0)]) (.cond aT5 .skip (.exit 0))) X5)
def F35.b4 : IR := F35.g4 F35.b5
def F35.g3 (X4 : IR) : IR := (.loop X4)
def F35.b3 : IR := F35.g3 F35.b4
def F35.g2 (X3 : IR) : IR := (.block 0 X3)
def F35.b2 : IR := F35.g2 F35.b3
def F35.b9 : IR := (.seq (.reg [.q (.of 2) (.mv (.c (.bool true)))]) .ret)
def F35.g1 (X2 X9 : IR) : IR := (.seq (.seq (.reg [.q (.of 3) (.mv aC0)]) X2) X9)
def F35.b1 : IR := F35.g1 F35.b2 F35.b9
def F35.g0 (X1 : IR) : IR := (.seq (.reg [.q (.of 2) (.mv (.c (.bool false)))]) (.seq (.seq (.reg [.s (.mv aT0), .s (.len aS0), .s (.mv aT1), .s (.len aS0), .q (.of 4) (.bin .neq .int aS2 aS0)]) (.cond aT4 (.seq (.reg [.q (.of 2) (.mv (.c (.bool false)))]) .ret) .skip)) X1))
def F35.b0 : IR := F35.g0 F35.b1
def F35.res : List RV := [.t (.of 2)]
def F35 : Fn := { params := [(.of 0), (.of 1)], res := F35.res, body := F35.b0, init := F35.fr .undef .undef .undef .undef .undef .undef .undef }
theorem F35.ok : fnA Tryz.prog Tryz.f35 [0, 1, 4, 5, 10, 14, 25] = some F35 := by kernel_rfl
def F36.fr (x0 x1 x2 x3 x4 x5 x6 x7 x8 x9 x10 x11 x12 x13 x14 x15 x16 x17 : AV) : T AV := (.n (.n (.n (.n (.n .e x15 .e) x7 .e) x3 (.n .e x11 .e)) x1 (.n (.n (.n .e x17 .e) x9 .e) x5 (.n .e x13 .e))) x0 (.n (.n (.n (.n .e x16 .e) x8 .e) x4 (.n .e x12 .e)) x2 (.n (.n .e x10 .e) x6 (.n .e x14 .e))))
def F36.b8 : IR := (.reg [.s (.mv aT7), .s (.mv aT10), .s (.bin .sub .int aS0 aC1), .s (.mv aT6), .s (.mv aT10), .s (.bin .sub .int aS0 aC1), .s (.mv aT9), .s (.iaddr 1 aS6 aS4), .w .none none (.store 1 aS0 (.c (.bool true))), .s (.iaddr 1 aS4 aS2), .w .none none (.store 1 aS0 aS2)])
def F36.g7 (X8 : IR) : IR := (.seq (.reg [.s (.mv aT15), .s (.iaddr 1 aT13 aT15), .s (.load aS0), .q (.of 8) (.mv aS2), .q (.of 9) (.mv aS0)]) (.seq (.reg [.s (.mv aT1), .s (.mv aT8), .s (.iaddr 1 aS1 aS0), .s (.load aS0), .q (.of 10) (.mv aS0)]) (.seq (.seq (.reg [.s (.mv aT10), .s (.bin .lss .int aS0 aC1), .s (.mv aS0), .p .push (some (aS0, false)) (.mv aT10), .p .push (some (aS1, false)) (.mv aT1), .p .push (some (aS2, false)) (.len aS0), .p .push (some (aS3, false)) (.bin .gtr .int aS2 aS0), .s (.pick aS4 (.c (.bool true)) aS0), .s (.mv aS0), .p .push (some (aS0, false)) (.mv aT7), .p .push (some (aS1, false)) (.mv aT10), .p .push (some (aS2, false)) (.bin .sub .int aS0 aC1), .p .push (some (aS3, false)) (.iaddr 1 aS2 aS0), .p .push (some (aS4, false)) (.load aS0), .q (.of 17) (.pick aS5 (.c (.bool true)) aS0)]) (.cond aT17 (.seq (.reg [.q (.of 3) (.mv (.c .nils)), .q (.of 4) (.mv aC1)]) .ret) .skip)) X8)))
def F36.b7 : IR := F36.g7 F36.b8
def F36.g6 (X7 : IR) : IR := (.block 1 X7)
def F36.b6 : IR := F36.g6 F36.b7
def F36.b9 : IR := (.reg [.s (.bin .add .int aT15 aC1), .q (.of 15) (.mv aS0)])
def F36.g5 (X6 X9 : IR) : IR := (.seq X6 X9)
def F36.b5 : IR := F36.g5 F36.b6 F36.b9
def F36.g4 (X5 : IR) : IR := (.seq (.reg [.q (.of 16) (.bin .lss .int aT15 aT14)]) (.seq (.cond aT16 .skip (.exit 0)) X5))
def F36.b4 : IR := F36.g4 F36.b5
def F36.g3 (X4 : IR) : IR := (.loop X4)
def F36.b3 : IR := F36.g3 F36.b4
def F36.g2 (X3 : IR) : IR := (.block 0 X3)
def F36.b2 : IR := F36.g2 F36.b3
def F36.b10 : IR := (.seq (.reg [.s (.mv aT6), .w .push none (.call (.c (.fn 79 (.of 79) [])) [aS0]), .q (.of 11) (.mv aS0)]) (.seq (.reg [.s (.mv aT11), .w .push none (.call (.c (.fn 96 (.of 96) [])) [aS0])]) (.seq (.reg [.s (.mv aT6), .s (.mv aT11), .w .push none (.bslice 1 2 [.nils] [(0, 1, aS1), (1, 1, aS0)]), .w .push none (.call (.c (.fn 97 (.of 97) [])) [aS0, (.c (.fn 92 (.of 92) []))]), .q (.of 3) (.mv aS0), .q (.of 4) (.mv aC0)]) .ret)))
def F36.g1 (X2 X10 : IR) : IR := (.seq (.reg [.s (.mv aT1), .s (.len aS0), .w .push none (.mkslice 1 8 [(I 0)] aS0 aS0), .q (.of 6) (.mv aS0)]) (.seq (.reg [.s (.mv aT1), .s (.len aS0), .w .push none (.mkslice 1 1 [(.bool false)] aS0 aS0), .q (.of 7) (.mv aS0)]) (.seq (.seq (.reg [.s (.loadN 2 aT2), .w (.loc (.of 13)) none (.call (.c (.fn 95 (.of 95) [])) [aS0]), .q (.of 14) (.len aT13), .q (.of 15) (.mv aC0)]) X2) X10)))
def F36.b1 : IR := F36.g1 F36.b2 F36.b10
def F36.g0 (X1 : IR) : IR := (.seq (.reg [.w (.loc (.of 2)) none (.box aT0), .q (.of 3) (.mv (.c .nils)), .q (.of 4) (.mv aC0)]) (.seq (.seq (.dreg [] [(.s (.loadN 2 aT2), 0, []), (.s (.mv aT1), 1, []), (.s (.len aS0), 1, []), (.s (.faddr 0 aT2), 1, []), (.s (.load aS0), 1, []), (.s (.bin .neq .int aS2 aS0), 1, []), (.s (.mv aT1), 2, []), (.w .push none (.call (.c (.fn 81 (.of 81) [])) [aS6]), 0, []), (.w .push none (.call (.c (.fn 82 (.of 82) [])) [aS2, aC2]), 0, []), (.w .push none (.call (.c (.fn 94 (.of 94) [])) [aS2]), 0, []), (.w .push none (.call (.c (.fn 82 (.of 82) [])) [aS0, aC3]), 0, []), (.w .push none (.bslice 1 3 [(I 0)] [(0, 1, aS3), (1, 1, aS2), (2, 1, aS0)]), 0, []), (.w .push none (.call (.c (.fn 80 (.of 80) [])) [aS0]), 0, []), (.q (.of 5) (.mv aS0), 0, [])]) (.seq (.reg [.s (.mv aT5), .q (.of 12) (.bin .neq .int aS0 aC0)]) (.cond aT12 (.seq (.reg [.s (.mv aT5), .q (.of 3) (.mv (.c .nils)), .q (.of 4) (.mv aS0)]) .ret) .skip))) X1))
def F36.b0 : IR := F36.g0 F36.b1
def F36.res : List RV := [.t (.of 3), .t (.of 4)]
def F36 : Fn := { params := [(.of 0), (.of 1)], res := F36.res, body := F36.b0, init := F36.fr .undef .undef .undef .undef .undef .undef .undef .undef .undef .undef .undef .undef .undef .undef .undef .undef .undef .undef }
theorem F36.ok : fnA Tryz.prog Tryz.f36 [0, 1, 2, 4, 5, 6, 7, 8, 9, 10, 11, 12, 27, 36, 37, 38, 39, 61] = some F36 := by kernel_rfl
def F40.fr (x0 x1 x2 x3 x4 x5 x6 : AV) : T AV := (.n (.n (.n .e x3 .e) x1 (.n .e x5 .e)) x0 (.n (.n .e x4 .e) x2 (.n .e x6 .e)))
def F40.b1 : IR := (.seq (.reg [.w (.loc (.of 5)) none (.alloc [(I 0)]), .w .none none (.store 1 aT5 aC0)]) (.seq (.reg [.s (.loadN 2 aT1), .s (.fn 100 (.of 100) [aT5]), .w .push none (.call (.c (.fn 99 (.of 99) [])) [aS1, aS0])]) (.seq (.reg [.s (.load aT5), .q (.of 2) (.mv aS0), .q (.of 3) (.mv aC0)]) .ret)))
def F40.g0 (X1 : IR) : IR := (.seq (.reg [.w (.loc (.of 1)) none (.box aT0), .q (.of 2) (.mv aC0), .q (.of 3) (.mv aC0)]) (.seq (.seq (.reg [.s (.loadN 2 aT1), .w .push none (.call (.c (.fn 98 (.of 98) [])) [aS0]), .q (.of 4) (.mv aS0)]) (.seq (.reg [.s (.mv aT4), .q (.of 6) (.bin .neq .int aS0 aC0)]) (.cond aT6 (.seq (.reg [.s (.mv aT4), .q (.of 2) (.mv aC0), .q (.of 3) (.mv aS0)]) .ret) .skip))) X1))
def F40.b0 : IR := F40.g0 F40.b1
def F40.res : List RV := [.t (.of 2), .t (.of 3)]
def F40 : Fn := { params := [(.of 0)], res := F40.res, body := F40.b0, init := F40.fr .undef .undef .undef .undef .undef .undef .undef }
theorem F40.ok : fnA Tryz.prog Tryz.f40 [0, 1, 2, 3, 4, 5, 9] = some F40 := by kernel_rfl
def F41.fr (x0 x1 x2 x3 x4 x5 x6 x7 : AV) : T AV := (.n (.n (.n (.n .e x7 .e) x3 .e) x1 (.n .e x5 .e)) x0 (.n (.n .e x4 .e) x2 (.n .e x6 .e)))
def F41.b1 : IR := (.seq (.reg [.w (.loc (.of 5)) none (.alloc [(.bool false)]), .w .none none (.store 1 aT5 (.c (.bool false)))]) (.seq (.reg [.w (.loc (.of 6)) none (.alloc [.nils])]) (.seq (.reg [.s (.loadN 2 aT1), .s (.fn 101 (.of 101) [aT5, aT6]), .w .push none (.call (.c (.fn 99 (.of 99) [])) [aS1, aS0])]) (.seq (.dreg [] [(.s (.load aT6), 1, []), (.s (.load aT5), 0, []), (.s (.not aS0), 0, []), (.w .push none (.call (.c (.fn 82 (.of 82) [])) [aS0, aC7]), 0, []), (.q (.of 2) (.mv aS3), 0, []), (.q (.of 3) (.mv aS0), 0, [])]) .ret))))
def F41.g0 (X1 : IR) : IR := (.seq (.reg [.w (.loc (.of 1)) none (.box aT0), .q (.of 2) (.mv (.c .nils)), .q (.of 3) (.mv aC0)]) (.seq (.seq (.reg [.s (.loadN 2 aT1), .w .push none (.call (.c (.fn 98 (.of 98) [])) [aS0]), .q (.of 4) (.mv aS0)]) (.seq (.reg [.s (.mv aT4), .q (.of 7) (.bin .neq .int aS0 aC0)]) (.cond aT7 (.seq (.reg [.s (.mv aT4), .q (.of 2) (.mv (.c .nils)), .q (.of 3) (.mv aS0)]) .ret) .skip))) X1))
def F41.b0 : IR := F41.g0 F41.b1
def F41.res : List RV := [.t (.of 2), .t (.of 3)]
def F41 : Fn := { params := [(.of 0)], res := F41.res, body := F41.b0, init := F41.fr .undef .undef .undef .undef .undef .undef .undef .undef }
theorem F41.ok : fnA Tryz.prog Tryz.f41 [0, 1, 2, 3, 4, 5, 6, 10] = some F41 := by kernel_rfl
def F51.fr (x0 x1 x2 : AV) : T AV := (.n (.n .e x1 .e) x0 (.n .e x2 .e))
def F51.b0 : IR := (.seq (.reg [.w (.loc (.of 1)) none (.box aT0), .q (.of 2) (.mv (.c (.bool false)))]) (.seq (.reg [.s (.loadN 2 aT1), .w .push none (.call (.c (.fn 25 (.of 25) [])) [aS0, aC20, aC130]), .s (.not aS0), .s (.mv aS0), .p .push (some (aS0, false)) (.loadN 2 aT1), .w .push (some (aS1, false)) (.call (.c (.fn 27 (.of 27) [])) [aS0]), .p .push (some (aS2, false)) (.bin .eql .int aS0 aC0), .p .push (some (aS3, false)) (.mv aS0), .p .push (some (aS0, true)) (.loadN 2 aT1), .w .push (some (aS1, true)) (.call (.c (.fn 62 (.of 62) [])) [aS0]), .p .push (some (aS2, true)) (.not aS0), .p .push (some (aS7, false)) (.pick aS3 aS0 (.c (.bool false))), .s (.pick aS8 (.c (.bool true)) aS0), .q (.of 2) (.mv aS0)]) .ret))
def F51.res : List RV := [.t (.of 2)]
def F51 : Fn := { params := [(.of 0)], res := F51.res, body := F51.b0, init := F51.fr .undef .undef .undef }
theorem F51.ok : fnA Tryz.prog Tryz.f51 [0, 1, 2] = some F51 := by kernel_rfl
def F52.fr (x0 x1 x2 x3 x4 x5 x6 x7 x8 x9 x10 x11 : AV) : T AV := (.n (.n (.n (.n .e x7 .e) x3 (.n .e x11 .e)) x1 (.n (.n .e x9 .e) x5 .e)) x0 (.n (.n (.n .e x8 .e) x4 .e) x2 (.n (.n .e x10 .e) x6 .e)))
def F52.b4 : IR := (.reg [.q (.of 7) (.mv aT10)])
def F52.b7 : IR := (.dreg [] [(.s (.load aT6), 2, []), (.s (.mv aT7), 0, []), (.w .push none (.call (.c (.fn 79 (.of 79) [])) [aS0]), 0, []), (.w .push none (.bslice 1 1 [.nils] [(0, 1, aS0)]), 0, []), (.w .push none (.app 1 24 aS3 aS0), 0, []), (.w .none none (.store 1 aT6 aS0), 0, [])])
def F52.g6 (X7 : IR) : IR := (.seq (.seq (.reg [.s (.load aT6), .s (.len aS0), .q (.of 11) (.bin .eql .int aS0 aC1024)]) (.cond aT11 (.seq (.reg [.w .none none (.store 1 aT3 (.c .nils)), .w .none none (.store 1 aT4 aC5)]) .ret) .skip)) X7)
def F52.b6 : IR := F52.g6 F52.b7
def F52.g5 (X6 : IR) : IR := (.block 1 X6)
def F52.b5 : IR := F52.g5 F52.b6
def F52.g3 (X4 X5 : IR) : IR := (.rf aT9 [(.of 10)] X4 X5)
def F52.b3 : IR := F52.g3 F52.b4 F52.b5
def F52.g2 (X3 : IR) : IR := (.block 0 X3)
def F52.b2 : IR := F52.g2 F52.b3
def F52.b8 : IR := (.seq (.reg [.s (.load aT6), .w .none none (.store 1 aT3 aS0), .w .none none (.store 1 aT4 aC0)]) .ret)
def F52.g1 (X2 X8 : IR) : IR := (.seq (.reg [.w (.loc (.of 6)) none (.alloc [.nils])]) (.seq (.seq (.reg [.s (.loadN 2 aT2), .s (.mv aT1), .w (.loc (.of 9)) none (.call (.c (.fn 107 (.of 107) [])) [aS1, aS0])]) X2) X8))
def F52.b1 : IR := F52.g1 F52.b2 F52.b8
def F52.g0 (X1 : IR) : IR := (.seq (.reg [.w (.loc (.of 2)) none (.box aT0), .w (.loc (.of 3)) none (.alloc [.nils]), .w (.loc (.of 4)) none (.alloc [(I 0)])]) (.seq (.seq (.reg [.s (.loadN 2 aT2), .w .push none (.call (.c (.fn 106 (.of 106) [])) [aS0]), .q (.of 5) (.mv aS0)]) (.seq (.reg [.s (.mv aT5), .q (.of 8) (.bin .neq .int aS0 aC0)]) (.cond aT8 (.seq (.reg [.s (.mv aT5), .w .none none (.store 1 aT3 (.c .nils)), .w .none none (.store 1 aT4 aS0)]) .ret) .skip))) X1))
def F52.b0 : IR := F52.g0 F52.b1
def F52.res : List RV := [.cell (.of 3) none, .cell (.of 4) none]
def F52 : Fn := { params := [(.of 0), (.of 1)], res := F52.res, body := F52.b0, init := F52.fr .undef .undef .undef .undef .undef .undef .undef .undef .undef .undef .undef .undef }
theorem F52.ok : fnA Tryz.prog Tryz.f52 [0, 1, 2, 4, 5, 6, 7, 8, 12, 16, 17, 20] = some F52 := by kernel_rfl
def F56.fr (x0 x1 x2 x3 x4 x5 x6 x7 x8 x9 x10 x11 x12 x13 x14 x15 x16 x17 x18 x19 x20 x21 x22 x23 x24 x25 : AV) : T AV := (.n (.n (.n (.n (.n .e x15 .e) x7 (.n .e x23 .e)) x3 (.n (.n .e x19 .e) x11 .e)) x1 (.n (.n (.n .e x17 .e) x9 (.n .e x25 .e)) x5 (.n (.n .e x21 .e) x13 .e))) x0 (.n (.n (.n (.n .e x16 .e) x8 (.n .e x24 .e)) x4 (.n (.n .e x20 .e) x12 .e)) x2 (.n (.n (.n .e x18 .e) x10 .e) x6 (.n (.n .e x22 .e) x14 .e))))
def F56.b13 : IR := (.seq (.reg [.s (.iaddr 1 aT17 aT19), .s (.load aS0), .q (.of 9) (.mv aS0)]) (.reg [.s (.mv aT8), .s (.mv aT9), .s (.mv aT7), .s (.iaddr 1 aS1 aS0), .s (.load aS0), .s (.minmax false aS4 [aS0]), .q (.of 8) (.mv aS0)]))
def F56.g12 (X13 : IR) : IR := (.block 3 X13)
def F56.b12 : IR := F56.g12 F56.b13
def F56.b14 : IR := (.reg [.s (.bin .add .int aT19 aC1), .q (.of 19) (.mv aS0)])
def F56.g11 (X12 X14 : IR) : IR := (.seq X12 X14)
def F56.b11 : IR := F56.g11 F56.b12 F56.b14
def F56.g10 (X11 : IR) : IR := (.seq (.reg [.q (.of 20) (.bin .lss .int aT19 aT18)]) (.seq (.cond aT20 .skip (.exit 2)) X11))
def F56.b10 : IR := F56.g10 F56.b11
def F56.g9 (X10 : IR) : IR := (.loop X10)
def F56.b9 : IR := F56.g9 F56.b10
def F56.g8 (X9 : IR) : IR := (.block 2 X9)
def F56.b8 : IR := F56.g8 F56.b9
def F56.b15 : IR := (.reg [.s (.mv aT6), .s (.mv aT8), .s (.iaddr 1 aS1 aS0), .s (.load aS0), .s (.bin .add .int aS0 aC1), .s (.iaddr 1 aS4 aS3), .w .none none (.store 1 aS0 aS1)])
def F56.g7 (X8 X15 : IR) : IR := (.seq (.reg [.s (.mv aT15), .q (.of 7) (.mv aS0)]) (.seq (.reg [.s (.mv aT7), .q (.of 8) (.mv aS0)]) (.seq (.seq (.reg [.q (.of 17) (.mv aT4), .q (.of 18) (.len aT17), .q (.of 19) (.mv aC0)]) X8) X15)))
def F56.b7 : IR := F56.g7 F56.b8 F56.b15
def F56.g6 (X7 : IR) : IR := (.block 1 X7)
def F56.b6 : IR := F56.g6 F56.b7
def F56.b16 : IR := (.reg [.s (.bin .add .int aT15 aC1), .q (.of 15) (.mv aS0)])
def F56.g5 (X6 X16 : IR) : IR := (.seq X6 X16)
def F56.b5 : IR := F56.g5 F56.b6 F56.b16
def F56.g4 (X5 : IR) : IR := (.seq (.reg [.q (.of 16) (.bin .lss .int aT15 aT14)]) (.seq (.cond aT16 .skip (.exit 0)) X5))
def F56.b4 : IR := F56.g4 F56.b5
def F56.g3 (X4 : IR) : IR := (.loop X4)
def F56.b3 : IR := F56.g3 F56.b4
def F56.g2 (X3 : IR) : IR := (.block 0 X3)
def F56.b2 : IR := F56.g2 F56.b3
def F56.b23 : IR := (.seq (.reg [.s (.mv aT23), .s (.iaddr 1 aT21 aT23), .s (.load aS0), .q (.of 11) (.mv aS2), .q (.of 12) (.mv aS0)]) (.seq (.reg [.s (.mv aT12), .q (.of 25) (.bin .gtr .int aS0 aC0)]) (.cond aT25 (.reg [.s (.mv aT10), .s (.mv aT1), .s (.mv aT11), .s (.iaddr 1 aS1 aS0), .s (.load aS0), .w .push none (.call (.c (.fn 79 (.of 79) [])) [aS0]), .s (.mv aT12), .s (.build [.nils, (I 0)] [(0, 1, aS1), (1, 1, aS0)]), .w .push none (.bslice 2 1 [.nils, (I 0)] [(0, 2, aS0)]), .w .push none (.app 2 32 aS8 aS0), .q (.of 10) (.mv aS0)]) .skip)))
def F56.g22 (X23 : IR) : IR := (.block 5 X23)
def F56.b22 : IR := F56.g22 F56.b23
def F56.b24 : IR := (.reg [.s (.bin .add .int aT23 aC1), .q (.of 23) (.mv aS0)])
def F56.g21 (X22 X24 : IR) : IR := (.seq X22 X24)
def F56.b21 : IR := F56.g21 F56.b22 F56.b24
def F56.g20 (X21 : IR) : IR := (.seq (.reg [.q (.of 24) (.bin .lss .int aT23 aT22)]) (.seq (.cond aT24 .skip (.exit 4)) X21))
def F56.b20 : IR := F56.g20 F56.b21
def F56.g19 (X20 : IR) : IR := (.loop X20)
def F56.b19 : IR := F56.g19 F56.b20
def F56.g18 (X19 : IR) : IR := (.block 4 X19)
def F56.b18 : IR := F56.g18 F56.b19
def F56.b25 : IR := (.seq (.reg [.s (.mv aT10), .q (.of 2) (.mv aS0), .q (.of 3) (.mv aC0)]) .ret)
def F56.g17 (X18 X25 : IR) : IR := (.seq (.reg [.q (.of 10) (.mv (.c .nils))]) (.seq (.seq (.reg [.q (.of 21) (.mv aT6), .q (.of 22) (.len aT21), .q (.of 23) (.mv aC0)]) X18) X25))
def F56.b17 : IR := F56.g17 F56.b18 F56.b25
def F56.g1 (X2 X17 : IR) : IR := (.seq (.reg [.s (.mv aT1), .s (.len aS0), .w .push none (.mkslice 1 8 [(I 0)] aS0 aS0), .q (.of 6) (.mv aS0)]) (.seq (.seq (.reg [.s (.mv aT1), .q (.of 14) (.len aS0), .q (.of 15) (.mv aC0)]) X2) X17))
def F56.b1 : IR := F56.g1 F56.b2 F56.b17
def F56.g0 (X1 : IR) : IR := (.seq (.reg [.q (.of 2) (.mv (.c .nils)), .q (.of 3) (.mv aC0)]) (.seq (.reg [.s (.mv aT0), .s (.mv aT1), .w .push none (.call (.c (.fn 109 (.of 109) [])) [aS1, aS0]), .s (.mv aS0), .s (.ext 0 aS0), .s (.ext 1 aS1), .q (.of 4) (.mv aS1), .q (.of 5) (.mv aS0)]) (.seq (.seq (.reg [.s (.mv aT5), .q (.of 13) (.bin .neq .int aS0 aC0)]) (.cond aT13 (.seq (.reg [.s (.mv aT5), .q (.of 2) (.mv (.c .nils)), .q (.of 3) (.mv aS0)]) .ret) .skip)) X1)))
def F56.b0 : IR := F56.g0 F56.b1
def F56.res : List RV := [.t (.of 2), .t (.of 3)]
def F56 : Fn := { params := [(.of 0), (.of 1)], res := F56.res, body := F56.b0, init := F56.fr .undef .undef .undef .undef .undef .undef .undef .undef .undef .undef .undef .undef .undef .undef .undef .undef .undef .undef .undef .undef .undef .undef .undef .undef .undef .undef }
theorem F56.ok : fnA Tryz.prog Tryz.f56 [0, 1, 4, 5, 6, 7, 8, 9, 10, 12, 13, 14, 15, 23, 29, 30, 31, 34, 35, 36, 37, 54, 55, 56, 57, 62] = some F56 := by kernel_rfl
def F58.fr (x0 x1 x2 x3 x4 x5 : AV) : T AV := (.n (.n (.n .e x3 .e) x1 (.n .e x5 .e)) x0 (.n (.n .e x4 .e) x2 .e))
def F58.b0 : IR := (.seq (.reg [.q (.of 2) (.mv aC0), .q (.of 3) (.mv aC0)]) (.seq (.reg [.s (.mv aT0), .s (.mv aT1), .w .push none (.call (.c (.fn 56 (.of 56) [])) [aS1, aS0]), .s (.mv aS0), .s (.ext 0 aS0), .s (.ext 1 aS1), .q (.of 4) (.mv aS1), .q (.of 5) (.mv aS0)]) (.seq (.reg [.s (.mv aT4), .s (.len aS0), .s (.mv aT5), .q (.of 2) (.mv aS1), .q (.of 3) (.mv aS0)]) .ret)))
def F58.res : List RV := [.t (.of 2), .t (.of 3)]
def F58 : Fn := { params := [(.of 0), (.of 1)], res := F58.res, body := F58.b0, init := F58.fr .undef .undef .undef .undef .undef .undef }
theorem F58.ok : fnA Tryz.prog Tryz.f58 [0, 1, 4, 5, 6, 7] = some F58 := by kernel_rfl
def F62.fr (x0 x1 x2 x3 x4 x5 x6 x7 x8 : AV) : T AV := (.n (.n (.n (.n .e x7 .e) x3 .e) x1 (.n .e x5 .e)) x0 (.n (.n (.n .e x8 .e) x4 .e) x2 (.n .e x6 .e)))
def F62.b7 : IR := (.seq (.reg [.s (.faddr 1 aT1), .s (.load aS0), .s (.mv aT4), .s (.iaddr 1 aS1 aS0), .s (.load aS0), .q (.of 5) (.mv aS0)]) (.seq (.reg [.s (.mv aT5), .s (.mv aT5), .s (.len aS0), .s (.bin .sub .int aS0 aC1), .s (.iaddr 1 aS3 aS0), .s (.load aS0), .q (.of 8) (.bin .leq .int aS0 aC5)]) (.cond aT8 (.reg [.s (.mv aT3), .s (.bin .add .int aS0 aC1), .q (.of 3) (.mv aS0)]) .skip)))
def F62.g6 (X7 : IR) : IR := (.block 1 X7)
def F62.b6 : IR := F62.g6 F62.b7
def F62.b8 : IR := (.reg [.s (.mv aT4), .s (.bin .add .int aS0 aC1), .q (.of 4) (.mv aS0)])
def F62.g5 (X6 X8 : IR) : IR := (.seq X6 X8)
def F62.b5 : IR := F62.g5 F62.b6 F62.b8
def F62.g4 (X5 : IR) : IR := (.seq (.seq (.reg [.s (.mv aT4), .s (.faddr 1 aT1), .s (.load aS0), .s (.len aS0), .q (.of 7) (.bin .lss .int aS3 aS0)]) (.cond aT7 .skip (.exit 0))) X5)
def F62.b4 : IR := F62.g4 F62.b5
def F62.g3 (X4 : IR) : IR := (.loop X4)
def F62.b3 : IR := F62.g3 F62.b4
def F62.g2 (X3 : IR) : IR := (.block 0 X3)
def F62.b2 : IR := F62.g2 F62.b3
def F62.b9 : IR := (.seq (.reg [.s (.mv aT3), .s (.bin .geq .int aS0 aC2), .q (.of 2) (.mv aS0)]) .ret)
def F62.g1 (X2 X9 : IR) : IR := (.seq (.reg [.q (.of 3) (.mv aC0)]) (.seq (.seq (.reg [.q (.of 4) (.mv aC0)]) X2) X9))
def F62.b1 : IR := F62.g1 F62.b2 F62.b9
def F62.g0 (X1 : IR) : IR := (.seq (.reg [.w (.loc (.of 1)) none (.box aT0), .q (.of 2) (.mv (.c (.bool false)))]) (.seq (.seq (.reg [.s (.faddr 0 aT1), .s (.load aS0), .s (.bin .leq .int aS0 aC6), .s (.mv aS0), .p .push (some (aS0, false)) (.faddr 0 aT1), .p .push (some (aS1, false)) (.load aS0), .p .push (some (aS2, false)) (.bin .gtr .int aS0 aC9), .q (.of 6) (.pick aS3 (.c (.bool true)) aS0)]) (.cond aT6 (.seq (.reg [.q (.of 2) (.mv (.c (.bool true)))]) .ret) .skip)) X1))
def F62.b0 : IR := F62.g0 F62.b1
def F62.res : List RV := [.t (.of 2)]
def F62 : Fn := { params := [(.of 0)], res := F62.res, body := F62.b0, init := F62.fr .undef .undef .undef .undef .undef .undef .undef .undef .undef }
theorem F62.ok : fnA Tryz.prog Tryz.f62 [0, 1, 2, 3, 4, 5, 13, 18, 32] = some F62 := by kernel_rfl
def F63.fr (x0 x1 x2 x3 x4 x5 : AV) : T AV := (.n (.n (.n .e x3 .e) x1 (.n .e x5 .e)) x0 (.n (.n .e x4 .e) x2 .e))
def F63.b1 : IR := (.seq (.reg [.s (.loadN 2 aT1), .w .push none (.call (.c (.fn 113 (.of 113) [])) [aS0]), .q (.of 2) (.mv aS0), .q (.of 3) (.mv aC0)]) .ret)
def F63.g0 (X1 : IR) : IR := (.seq (.reg [.w (.loc (.of 1)) none (.box aT0), .q (.of 2) (.mv (.c .nils)), .q (.of 3) (.mv aC0)]) (.seq (.seq (.dreg [] [(.s (.loadN 2 aT1), 0, []), (.s (.faddr 1 aT1), 1, []), (.s (.load aS0), 1, []), (.s (.len aS0), 1, []), (.s (.bin .eql .int aS0 aC0), 1, []), (.w .push none (.call (.c (.fn 106 (.of 106) [])) [aS4]), 0, []), (.w .push none (.call (.c (.fn 82 (.of 82) [])) [aS1, aC12]), 0, []), (.w .push none (.bslice 1 2 [(I 0)] [(0, 1, aS1), (1, 1, aS0)]), 0, []), (.w .push none (.call (.c (.fn 80 (.of 80) [])) [aS0]), 0, []), (.q (.of 4) (.mv aS0), 0, [])]) (.seq (.reg [.s (.mv aT4), .q (.of 5) (.bin .neq .int aS0 aC0)]) (.cond aT5 (.seq (.reg [.s (.mv aT4), .q (.of 2) (.mv (.c .nils)), .q (.of 3) (.mv aS0)]) .ret) .skip))) X1))
def F63.b0 : IR := F63.g0 F63.b1
def F63.res : List RV := [.t (.of 2), .t (.of 3)]
def F63 : Fn := { params := [(.of 0)], res := F63.res, body := F63.b0, init := F63.fr .undef .undef .undef .undef .undef .undef }
theorem F63.ok : fnA Tryz.prog Tryz.f63 [0, 1, 2, 3, 4, 15] = some F63 := by kernel_rfl
def F64.fr (x0 x1 x2 x3 x4 x5 x6 x7 x8 x9 x10 x11 x12 x13 x14 x15 : AV) : T AV := (.n (.n (.n (.n (.n .e x15 .e) x7 .e) x3 (.n .e x11 .e)) x1 (.n (.n .e x9 .e) x5 (.n .e x13 .e))) x0 (.n (.n (.n .e x8 .e) x4 (.n .e x12 .e)) x2 (.n (.n .e x10 .e) x6 (.n .e x14 .e))))
def F64.b7 : IR := (.reg [.s (.mv aT5), .s (.mv aT6), .s (.bin .mul .int aS1 aS0), .q (.of 5) (.mv aS0)])
def F64.g6 (X7 : IR) : IR := (.block 1 X7)
def F64.b6 : IR := F64.g6 F64.b7
def F64.b8 : IR := (.reg [.s (.mv aT6), .s (.bin .add .int aS0 aC1), .q (.of 6) (.mv aS0)])
def F64.g5 (X6 X8 : IR) : IR := (.seq X6 X8)
def F64.b5 : IR := F64.g5 F64.b6 F64.b8
def F64.g4 (X5 : IR) : IR := (.seq (.seq (.reg [.s (.mv aT6), .s (.faddr 0 aT1), .s (.load aS0), .q (.of 11) (.bin .leq .int aS2 aS0)]) (.cond aT11 .skip (.exit 0))) X5)
def F64.b4 : IR := F64.g4 F64.b5
def F64.g3 (X4 : IR) : IR := (.loop X4)
def F64.b3 : IR := F64.g3 F64.b4
def F64.g2 (X3 : IR) : IR := (.block 0 X3)
def F64.b2 : IR := F64.g2 F64.b3
def F64.b9 : IR := (.seq (.reg [.s (.mv aT5), .q (.of 2) (.mv aS0), .q (.of 3) (.mv aC0)]) .ret)
def F64.b16 : IR := (.seq (.reg [.s (.iaddr 2 aT12 aT14), .s (.loadN 2 aS0), .w (.loc (.of 8)) none (.alloc [(I 0), (I 0)]), .w .none none (.store 2 aT8 aS0)]) (.reg [.s (.mv aT7), .s (.aaddr 1 2 aT8 aC1), .s (.load aS0), .s (.bin .add .int aS2 aS0), .q (.of 7) (.mv aS0)]))
def F64.g15 (X16 : IR) : IR := (.block 3 X16)
def F64.b15 : IR := F64.g15 F64.b16
def F64.b17 : IR := (.reg [.s (.bin .add .int aT14 aC1), .q (.of 14) (.mv aS0)])
def F64.g14 (X15 X17 : IR) : IR := (.seq X15 X17)
def F64.b14 : IR := F64.g14 F64.b15 F64.b17
def F64.g13 (X14 : IR) : IR := (.seq (.reg [.q (.of 15) (.bin .lss .int aT14 aT13)]) (.seq (.cond aT15 .skip (.exit 2)) X14))
def F64.b13 : IR := F64.g13 F64.b14
def F64.g12 (X13 : IR) : IR := (.loop X13)
def F64.b12 : IR := F64.g12 F64.b13
def F64.g11 (X12 : IR) : IR := (.block 2 X12)
def F64.b11 : IR := F64.g11 F64.b12
def F64.b18 : IR := (.seq (.reg [.s (.mv aT7), .q (.of 2) (.mv aS0), .q (.of 3) (.mv aC0)]) .ret)
def F64.g10 (X11 X18 : IR) : IR := (.seq (.reg [.q (.of 7) (.mv aC0)]) (.seq (.seq (.reg [.s (.loadN 2 aT1), .w (.loc (.of 12)) none (.call (.c (.fn 113 (.of 113) [])) [aS0]), .q (.of 13) (.len aT12), .q (.of 14) (.mv aC0)]) X11) X18))
def F64.b10 : IR := F64.g10 F64.b11 F64.b18
def F64.g1 (X2 X9 X10 : IR) : IR := (.seq (.seq (.reg [.s (.faddr 1 aT1), .s (.load aS0), .s (.len aS0), .q (.of 10) (.bin .eql .int aS0 aC0)]) (.cond aT10 (.seq (.reg [.q (.of 5) (.mv aC1)]) (.seq (.seq (.reg [.q (.of 6) (.mv aC2)]) X2) X9)) .skip)) X10)
def F64.b1 : IR := F64.g1 F64.b2 F64.b9 F64.b10
def F64.g0 (X1 : IR) : IR := (.seq (.reg [.w (.loc (.of 1)) none (.box aT0), .q (.of 2) (.mv aC0), .q (.of 3) (.mv aC0)]) (.seq (.seq (.reg [.s (.loadN 2 aT1), .w .push none (.call (.c (.fn 106 (.of 106) [])) [aS0]), .q (.of 4) (.mv aS0)]) (.seq (.reg [.s (.mv aT4), .q (.of 9) (.bin .neq .int aS0 aC0)]) (.cond aT9 (.seq (.reg [.s (.mv aT4), .q (.of 2) (.mv aC0), .q (.of 3) (.mv aS0)]) .ret) .skip))) X1))
def F64.b0 : IR := F64.g0 F64.b1
def F64.res : List RV := [.t (.of 2), .t (.of 3)]
def F64 : Fn := { params := [(.of 0)], res := F64.res, body := F64.b0, init := F64.fr .undef .undef .undef .undef .undef .undef .undef .undef .undef .undef .undef .undef .undef .undef .undef .undef }
theorem F64.ok : fnA Tryz.prog Tryz.f64 [0, 1, 2, 3, 4, 5, 6, 7, 9, 13, 18, 22, 30, 31, 32, 33] = some F64 := by kernel_rfl
def F65.fr (x0 x1 x2 x3 : AV) : T AV := (.n (.n (.n .e x3 .e) x1 .e) x0 (.n .e x2 .e))
def F65.b0 : IR := (.seq (.reg [.w (.loc (.of 2)) none (.box aT0), .w (.loc (.of 3)) none (.alloc [(I 0), (.bool false), (I 0), (I 0), .nils, .nils, .nils])]) (.seq (.dreg [] [(.s (.loadN 2 aT2), 1, []), (.s (.faddr 0 aT2), 0, []), (.s (.load aS0), 0, []), (.s (.bin .add .int aS0 aC1), 0, []), (.s (.mv aT1), 1, []), (.s (.build [(I 0), (.bool false), (I 0), (I 0), .nils, .nils, .nils] [(1, 1, (.c (.bool true))), (2, 1, aS0)]), 1, []), (.w .push none (.mkslice 1 1 [(.bool false)] aS2 aS2), 0, []), (.w .push none (.call (.c (.fn 108 (.of 108) [])) [aS6, (.c .nils), aS0, aS1]), 0, []), (.w .none none (.store 7 aT3 aS0), 0, [])]) .ret))
def F65.res : List RV := [.cell (.of 3) (some 7)]
def F65 : Fn := { params := [(.of 0), (.of 1)], res := F65.res, body := F65.b0, init := F65.fr .undef .undef .undef .undef }
theorem F65.ok : fnA Tryz.prog Tryz.f65 [0, 1, 2, 4] = some F65 := by kernel_rfl
def F66.fr (x0 x1 x2 x3 x4 x5 x6 : AV) : T AV := (.n (.n (.n .e x3 .e) x1 (.n .e x5 .e)) x0 (.n (.n .e x4 .e) x2 (.n .e x6 .e)))
def F66.b7 : IR := (.seq (.dreg [] [(.s (.mv aT0), 0, []), (.s (.mv aT3), 0, []), (.s (.iaddr 2 aS1 aS0), 0, []), (.s (.loadN 2 aS0), 0, []), (.s (.mv aT1), 0, []), (.s (.mv aT3), 0, []), (.s (.iaddr 2 aS1 aS0), 0, []), (.s (.loadN 2 aS0), 0, []), (.q (.of 6) (.bin .neq (.agg 2) aS4 aS0), 0, [])]) (.cond aT6 (.seq (.reg [.q (.of 2) (.mv (.c (.bool false)))]) .ret) .skip))
def F66.g6 (X7 : IR) : IR := (.block 1 X7)
def F66.b6 : IR := F66.g6 F66.b7
def F66.b8 : IR := (.reg [.s (.mv aT3), .s (.bin .add .int aS0 aC1), .q (.of 3) (.mv aS0)])
def F66.g5 (X6 X8 : IR) : IR := (.seq X6 X8)
def F66.b5 : IR := F66.g5 F66.b6 F66.b8
def F66.g4 (X5 : IR) : IR := (.seq (.seq (.reg [.s (.mv aT3), .s (.mv aT0), .s (.len aS0), .q (.of 5) (.bin .lss .int aS2 aS0)]) (.cond aT5 .skip (.exit 0))) X5)
def F66.b4 : IR := F66.g4 F66.b5
def F66.g3 (X4 : IR) : IR := (.loop X4)
def F66.b3 : IR := F66.g3 F66.b4
def F66.g2 (X3 : IR) : IR := (.block 0 X3)
def F66.b2 : IR := F66.g2 F66.b3
def F66.b9 : IR := (.seq (.reg [.q (.of 2) (.mv (.c (.bool true)))]) .ret)
def F66.g1 (X2 X9 : IR) : IR := (.seq (.seq (.reg [.q (.of 3) (.mv aC0)]) X2) X9)
def F66.b1 : IR := F66.g1 F66.b2 F66.b9
def F66.g0 (X1 : IR) : IR := (.seq (.reg [.q (.of 2) (.mv (.c (.bool false)))]) (.seq (.seq (.reg [.s (.mv aT0), .s (.len aS0), .s (.mv aT1), .s (.len aS0), .q (.of 4) (.bin .neq .int aS2 aS0)]) (.cond aT4 (.seq (.reg [.q (.of 2) (.mv (.c (.bool false)))]) .ret) .skip)) X1))
def F66.b0 : IR := F66.g0 F66.b1
def F66.res : List RV := [.t (.of 2)]
def F66 : Fn := { params := [(.of 0), (.of 1)], res := F66.res, body := F66.b0, init := F66.fr .undef .undef .undef .undef .undef .undef .undef }
theorem F66.ok : fnA Tryz.prog Tryz.f66 [0, 1, 4, 5, 10, 14, 25] = some F66 := by kernel_rfl
def F67.fr (x0 x1 x2 x3 : AV) : T AV := (.n (.n (.n .e x3 .e) x1 .e) x0 (.n .e x2 .e))
def F67.b0 : IR := (.seq (.reg [.w (.loc (.of 1)) none (.box aT0), .q (.of 2) (.mv (.c .nils)), .q (.of 3) (.mv aC0)]) (.seq (.reg [.s (.loadN 2 aT1), .w .push none (.call (.c (.fn 115 (.of 115) [])) [aS0]), .s (.ext 0 aS0), .s (.ext 1 aS1), .w .push none (.call (.c (.fn 114 (.of 114) [])) [aS1, aS0]), .s (.ext 0 aS0), .s (.ext 1 aS1), .q (.of 2) (.mv aS1), .q (.of 3) (.mv aS0)]) .ret))
def F67.res : List RV := [.t (.of 2), .t (.of 3)]
def F67 : Fn := { params := [(.of 0)], res := F67.res, body := F67.b0, init := F67.fr .undef .undef .undef .undef }
theorem F67.ok : fnA Tryz.prog Tryz.f67 [0, 1, 2, 3] = some F67 := by kernel_rfl
def F75.fr (x0 : AV) : T AV := (.n .e x0 .e)
def F75.b0 : IR := (.seq (.reg [.w (.loc (.of 0)) none (.alloc [(I 0), .nils])]) (.seq (.reg [.w .push none (.bslice 1 3 [(I 0)] [(0, 1, aC0), (1, 1, aC1), (2, 1, aC2)]), .w .push none (.bslice 1 3 [(I 0)] [(0, 1, aC3), (1, 1, aC4), (2, 1, aC5)]), .w .push none (.bslice 1 3 [(I 0)] [(0, 1, aC6), (1, 1, aC7), (2, 1, aC8)]), .w .push none (.bslice 1 3 [(I 0)] [(0, 1, aC0), (1, 1, aC3), (2, 1, aC6)]), .w .push none (.bslice 1 3 [(I 0)] [(0, 1, aC1), (1, 1, aC4), (2, 1, aC7)]), .w .push none (.bslice 1 3 [(I 0)] [(0, 1, aC2), (1, 1, aC5), (2, 1, aC8)]), .w .push none (.bslice 1 3 [(I 0)] [(0, 1, aC0), (1, 1, aC4), (2, 1, aC8)]), .w .push none (.bslice 1 3 [(I 0)] [(0, 1, aC2), (1, 1, aC4), (2, 1, aC6)]), .w .push none (.bslice 1 8 [.nils] [(0, 1, aS7), (1, 1, aS6), (2, 1, aS5), (3, 1, aS4), (4, 1, aS3), (5, 1, aS2), (6, 1, aS1), (7, 1, aS0)]), .s (.build [(I 0), .nils] [(0, 1, aC9), (1, 1, aS0)]), .w .none none (.store 2 aT0 aS0)]) .ret))
def F75.res : List RV := [.cell (.of 0) (some 2)]
def F75 : Fn := { params := [], res := F75.res, body := F75.b0, init := F75.fr .undef }
theorem F75.ok : fnA Tryz.prog Tryz.f75 [0] = some F75 := by kernel_rfl
def F76.fr (x0 x1 x2 : AV) : T AV := (.n (.n .e x1 .e) x0 (.n .e x2 .e))
def F76.b0 : IR := (.seq (.reg [.q (.of 2) (.mv aC0)]) (.seq (.reg [.s (.mv aT0), .s (.bin .lss .int aS0 aC0), .s (.mv aS0), .p .push (some (aS0, false)) (.mv aT0), .p .push (some (aS1, false)) (.bin .gtr .int aS0 aC64), .s (.pick aS2 (.c (.bool true)) aS0), .s (.mv aS0), .p .push (some (aS0, false)) (.mv aT1), .p .push (some (aS1, false)) (.bin .lss .int aS0 aC0), .s (.pick aS2 (.c (.bool true)) aS0), .s (.mv aS0), .p .push (some (aS0, false)) (.mv aT1), .p .push (some (aS1, false)) (.mv aT0), .p .push (some (aS2, false)) (.bin .gtr .int aS1 aS0), .s (.pick aS3 (.c (.bool true)) aS0), .w .push none (.call (.c (.fn 82 (.of 82) [])) [aS0, aC3]), .q (.of 2) (.mv aS0)]) .ret))
def F76.res : List RV := [.t (.of 2)]
def F76 : Fn := { params := [(.of 0), (.of 1)], res := F76.res, body := F76.b0, init := F76.fr .undef .undef .undef }
theorem F76.ok : fnA Tryz.prog Tryz.f76 [0, 1, 4] = some F76 := by kernel_rfl
def F77.fr (x0 x1 x2 x3 x4 x5 x6 x7 x8 x9 x10 x11 x12 x13 x14 x15 x16 : AV) : T AV := (.n (.n (.n (.n (.n .e x15 .e) x7 .e) x3 (.n .e x11 .e)) x1 (.n (.n .e x9 .e) x5 (.n .e x13 .e))) x0 (.n (.n (.n (.n .e x16 .e) x8 .e) x4 (.n .e x12 .e)) x2 (.n (.n .e x10 .e) x6 (.n .e x14 .e))))
def F77.b8 : IR := (.seq (.reg [.s (.load aT3), .s (.mv aT11), .w .push none (.bslice 1 1 [(I 0)] [(0, 1, aS0)]), .w .push none (.app 1 8 aS2 aS0), .w .none none (.store 1 aT3 aS0)]) (.seq (.reg [.s (.load aT6), .s (.mv aT11), .s (.bin .add .int aS0 aC1), .s (.mv aT1), .s (.mv aT11), .s (.bin .sub .int aS1 aS0), .w .push none (.call aS5 [aS3, aS0]), .q (.of 12) (.mv aS0)]) (.seq (.reg [.s (.load aT3), .s (.load aT3), .s (.len aS0), .s (.bin .sub .int aS0 aC1), .s (.slice 1 aS3 none (some aS0) none), .w .none none (.store 1 aT3 aS0)]) (.seq (.reg [.s (.mv aT12), .q (.of 16) (.not aS0)]) (.cond aT16 (.seq (.reg [.q (.of 7) (.mv (.c (.bool false)))]) .ret) .skip)))))
def F77.g7 (X8 : IR) : IR := (.block 1 X8)
def F77.b7 : IR := F77.g7 F77.b8
def F77.b9 : IR := (.reg [.s (.mv aT11), .s (.bin .add .int aS0 aC1), .q (.of 11) (.mv aS0)])
def F77.g6 (X7 X9 : IR) : IR := (.seq X7 X9)
def F77.b6 : IR := F77.g6 F77.b7 F77.b9
def F77.g5 (X6 : IR) : IR := (.seq (.seq (.reg [.s (.mv aT11), .s (.load aT4), .q (.of 15) (.bin .leq .int aS1 aS0)]) (.cond aT15 .skip (.exit 0))) X6)
def F77.b5 : IR := F77.g5 F77.b6
def F77.g4 (X5 : IR) : IR := (.loop X5)
def F77.b4 : IR := F77.g4 F77.b5
def F77.g3 (X4 : IR) : IR := (.block 0 X4)
def F77.b3 : IR := F77.g3 F77.b4
def F77.b10 : IR := (.seq (.reg [.q (.of 7) (.mv (.c (.bool true)))]) .ret)
def F77.g2 (X3 X10 : IR) : IR := (.seq (.seq (.reg [.s (.mv aT0), .q (.of 11) (.mv aS0)]) X3) X10)
def F77.b2 : IR := F77.g2 F77.b3 F77.b10
def F77.g1 (X2 : IR) : IR := (.seq (.seq (.reg [.s (.mv aT8), .q (.of 14) (.bin .eql .int aS0 aC0)]) (.cond aT14 (.seq (.dreg [] [(.s (.load aT5), 2, []), (.s (.load aT3), 0, []), (.w .push none (.call (.c (.fn 79 (.of 79) [])) [aS0]), 0, []), (.w .push none (.bslice 1 1 [.nils] [(0, 1, aS0)]), 0, []), (.w .push none (.app 1 24 aS3 aS0), 0, []), (.w .none none (.store 1 aT5 aS0), 0, [])]) (.seq (.reg [.s (.load aT5), .s (.len aS0), .s (.bin .leq .int aS0 aC1024), .q (.of 7) (.mv aS0)]) .ret)) .skip)) X2)
def F77.b1 : IR := F77.g1 F77.b2
def F77.g0 (X1 : IR) : IR := (.seq (.reg [.q (.of 7) (.mv (.c (.bool false)))]) (.seq (.reg [.s (.load aT2), .s (.load aT3), .s (.len aS0), .s (.bin .sub .int aS2 aS0), .q (.of 8) (.mv aS0)]) (.seq (.reg [.s (.mv aT0), .s (.load aT4), .s (.mv aT8), .w .push none (.call (.c (.fn 78 (.of 78) [])) [aS2, aS1, aS0]), .s (.mv aS0), .s (.ext 0 aS0), .s (.ext 1 aS1), .q (.of 9) (.mv aS1), .q (.of 10) (.mv aS0)]) (.seq (.seq (.reg [.s (.mv aT8), .s (.load aT4), .s (.mv aT0), .s (.bin .sub .int aS1 aS0), .s (.bin .add .int aS0 aC1), .s (.bin .gtr .int aS4 aS0), .s (.mv aS0), .p .push (some (aS0, false)) (.mv aT1), .p .push (some (aS1, false)) (.mv aT9), .p .push (some (aS2, false)) (.bin .lss .int aS1 aS0), .s (.pick aS3 (.c (.bool true)) aS0), .s (.mv aS0), .p .push (some (aS0, false)) (.mv aT1), .p .push (some (aS1, false)) (.mv aT10), .p .push (some (aS2, false)) (.bin .gtr .int aS1 aS0), .q (.of 13) (.pick aS3 (.c (.bool true)) aS0)]) (.cond aT13 (.seq (.reg [.q (.of 7) (.mv (.c (.bool true)))]) .ret) .skip)) X1))))
def F77.b0 : IR := F77.g0 F77.b1
def F77.res : List RV := [.t (.of 7)]
def F77 : Fn := { params := [(.of 0), (.of 1), (.of 2), (.of 3), (.of 4), (.of 5), (.of 6)], res := F77.res, body := F77.b0, init := F77.fr .undef .undef .undef .undef .undef .undef .undef .undef .undef .undef .undef .undef .undef .undef .undef .undef .undef }
theorem F77.ok : fnA Tryz.prog Tryz.f77 [0, 1, 2, 3, 4, 5, 6, 9, 10, 11, 12, 13, 14, 41, 43, 55, 75] = some F77 := by kernel_rfl
def F78.fr (x0 x1 x2 x3 x4 : AV) : T AV := (.n (.n (.n .e x3 .e) x1 .e) x0 (.n (.n .e x4 .e) x2 .e))
def F78.b0 : IR := (.seq (.reg [.q (.of 3) (.mv aC0), .q (.of 4) (.mv aC0)]) (.seq (.reg [.s (.mv aT2), .s (.mv aT0), .s (.bin .mul .int aS1 aS0), .s (.mv aT2), .s (.mv aT2), .s (.bin .sub .int aS0 aC1), .s (.bin .mul .int aS2 aS0), .s (.bin .quo .int aS0 aC2), .s (.bin .add .int aS5 aS0), .s (.mv aT2), .s (.mv aT1), .s (.bin .mul .int aS1 aS0), .s (.mv aT2), .s (.mv aT2), .s (.bin .sub .int aS0 aC1), .s (.bin .mul .int aS2 aS0), .s (.bin .quo .int aS0 aC2), .s (.bin .sub .int aS5 aS0), .q (.of 3) (.mv aS9), .q (.of 4) (.mv aS0)]) .ret))
def F78.res : List RV := [.t (.of 3), .t (.of 4)]
def F78 : Fn := { params := [(.of 0), (.of 1), (.of 2)], res := F78.res, body := F78.b0, init := F78.fr .undef .undef .undef .undef .undef }
theorem F78.ok : fnA Tryz.prog Tryz.f78 [0, 1, 2, 6, 7] = some F78 := by kernel_rfl
def F79.fr (x0 x1 x2 : AV) : T AV := (.n (.n .e x1 .e) x0 (.n .e x2 .e))
def F79.b1 : IR := (.seq (.reg [.w .push none (.bslice 1 0 [(I 0)] []), .s (.mv aT0), .w .push none (.app 1 8 aS1 aS0), .q (.of 1) (.mv aS0)]) .ret)
def F79.g0 (X1 : IR) : IR := (.seq (.reg [.q (.of 1) (.mv (.c .nils))]) (.seq (.seq (.reg [.s (.mv aT0), .q (.of 2) (.bin .eql (.nil .sl) aS0 (.c .nils))]) (.cond aT2 (.seq (.reg [.q (.of 1) (.mv (.c .nils))]) .ret) .skip)) X1))
def F79.b0 : IR := F79.g0 F79.b1
def F79.res : List RV := [.t (.of 1)]
def F79 : Fn := { params := [(.of 0)], res := F79.res, body := F79.b0, init := F79.fr .undef .undef .undef }
theorem F79.ok : fnA Tryz.prog Tryz.f79 [0, 2, 4] = some F79 := by kernel_rfl
end
end Go.Ev
