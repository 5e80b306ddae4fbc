/- The code of the functions, as the evaluator takes it. Printed by a program. -/
import Derived.Test.YtepfaegpjddehaaGreatDoorEvC
import Derived.Test.YtepfaegpjddehaaGreatDoorProg
import Derived.KernelRfl
set_option linter.unusedSimpArgs false
set_option linter.unusedVariables false
namespace Go.Ev
open Go Go.Proofs
set_option maxRecDepth 100000
/-- talisman/talismanlaw07.CountSets -/
def F3.fr (x0 x1 x2 x3 x4 x5 x6 x7 x8 x9 x10 x11 x12 x13 : AV) : T AV := (.n (.n (.n (.n .e x7 .e) x3 (.n .e x11 .e)) x1 (.n (.n .e x9 .e) x5 (.n .e x13 .e))) x0 (.n (.n (.n .e x8 .e) x4 (.n .e x12 .e)) x2 (.n (.n .e x10 .e) x6 .e)))
noncomputable def F3.b4 : IR := (.seq (.reg [.s (.mv (.t (.of 5))), .s (.bin .eql .int (.s 0) (.c (I 0))), .s (.mv (.s 0)), .p .push (some ((.s 0), true)) (.mv (.t (.of 4))), .p .push (some ((.s 1), true)) (.mv (.t (.of 0))), .p .push (some ((.s 2), true)) (.mv (.t (.of 1))), .p .push (some ((.s 3), true)) (.mv (.t (.of 2))), .w .push (some ((.s 4), true)) (.call (.c (.fn 24 (.of 24) [])) [(.c .nils), (.c (I 1)), (.s 2), (.s 1), (.s 0)]), .w .push (some ((.s 5), true)) (.call (.c (.fn 23 (.of 23) [])) [(.s 4), (.s 0)]), .s (.pick (.s 6) (.s 0) (.c (.bool false))), .s (.mv (.s 0)), .w .push (some ((.s 0), true)) (.call (.c (.fn 18 (.of 18) [])) []), .s (.pick (.s 1) (.s 0) (.c (.bool false))), .q (.of 3) (.mv (.s 0))]) .ret)
noncomputable def F3.g3 (X4 : IR) : IR := (.seq (.seq (.reg [.s (.mv (.t (.of 9))), .q (.of 13) (.bin .gtr .int (.s 0) (.c (I 1024)))]) (.cond (.t (.of 13)) (.seq (.reg [.s (.mv (.t (.of 4))), .s (.len (.s 0)), .s (.bin .eql .int (.s 0) (.c (I 0))), .s (.mv (.s 0)), .p .push (some ((.s 0), true)) (.mv (.t (.of 5))), .p .push (some ((.s 1), true)) (.bin .eql .int (.s 0) (.c (I 5))), .s (.pick (.s 2) (.s 0) (.c (.bool false))), .s (.mv (.s 0)), .w .push (some ((.s 0), true)) (.call (.c (.fn 18 (.of 18) [])) []), .s (.pick (.s 1) (.s 0) (.c (.bool false))), .q (.of 3) (.mv (.s 0))]) .ret) .skip)) X4)
noncomputable def F3.b3 : IR := F3.g3 F3.b4
noncomputable def F3.g2 (X3 : IR) : IR := (.seq (.reg [.s (.mv (.t (.of 0))), .s (.mv (.t (.of 1))), .s (.mv (.t (.of 2))), .w .push none (.call (.c (.fn 22 (.of 22) [])) [(.s 2), (.s 1), (.s 0)]), .q (.of 9) (.mv (.s 0))]) (.seq (.seq (.reg [.s (.mv (.t (.of 7))), .s (.bin .neq .int (.s 0) (.c (I 0))), .s (.mv (.s 0)), .p .push (some ((.s 0), false)) (.mv (.t (.of 6))), .p .push (some ((.s 1), false)) (.mv (.t (.of 9))), .p .push (some ((.s 2), false)) (.bin .neq .int (.s 1) (.s 0)), .q (.of 12) (.pick (.s 3) (.c (.bool true)) (.s 0))]) (.cond (.t (.of 12)) (.seq (.reg [.q (.of 3) (.mv (.c (.bool false)))]) .ret) .skip)) X3))
noncomputable def F3.b2 : IR := F3.g2 F3.b3
noncomputable def F3.g1 (X2 : IR) : IR := (.seq (.reg [.s (.mv (.t (.of 0))), .s (.mv (.t (.of 1))), .s (.mv (.t (.of 2))), .w .push none (.call (.c (.fn 19 (.of 19) [])) [(.s 2), (.s 1), (.s 0)]), .s (.mv (.s 0)), .s (.ext 0 (.s 0)), .s (.ext 1 (.s 1)), .q (.of 4) (.mv (.s 1)), .q (.of 5) (.mv (.s 0))]) (.seq (.reg [.s (.mv (.t (.of 0))), .s (.mv (.t (.of 1))), .s (.mv (.t (.of 2))), .w .push none (.call (.c (.fn 20 (.of 20) [])) [(.s 2), (.s 1), (.s 0)]), .s (.mv (.s 0)), .s (.ext 0 (.s 0)), .s (.ext 1 (.s 1)), .q (.of 6) (.mv (.s 1)), .q (.of 7) (.mv (.s 0))]) (.seq (.reg [.s (.mv (.t (.of 0))), .s (.mv (.t (.of 1))), .w .push none (.call (.c (.fn 21 (.of 21) [])) [(.s 1), (.s 0)]), .q (.of 8) (.mv (.s 0))]) (.seq (.seq (.reg [.s (.mv (.t (.of 8))), .q (.of 11) (.bin .neq .int (.s 0) (.c (I 0)))]) (.cond (.t (.of 11)) (.seq (.reg [.s (.mv (.t (.of 4))), .s (.len (.s 0)), .s (.bin .eql .int (.s 0) (.c (I 0))), .s (.mv (.s 0)), .p .push (some ((.s 0), true)) (.mv (.t (.of 5))), .p .push (some ((.s 1), true)) (.mv (.t (.of 8))), .p .push (some ((.s 2), true)) (.bin .eql .int (.s 1) (.s 0)), .s (.pick (.s 3) (.s 0) (.c (.bool false))), .s (.mv (.s 0)), .p .push (some ((.s 0), true)) (.mv (.t (.of 6))), .p .push (some ((.s 1), true)) (.bin .eql .int (.s 0) (.c (I 0))), .s (.pick (.s 2) (.s 0) (.c (.bool false))), .s (.mv (.s 0)), .p .push (some ((.s 0), true)) (.mv (.t (.of 7))), .p .push (some ((.s 1), true)) (.mv (.t (.of 8))), .p .push (some ((.s 2), true)) (.bin .eql .int (.s 1) (.s 0)), .s (.pick (.s 3) (.s 0) (.c (.bool false))), .s (.mv (.s 0)), .w .push (some ((.s 0), true)) (.call (.c (.fn 18 (.of 18) [])) []), .s (.pick (.s 1) (.s 0) (.c (.bool false))), .q (.of 3) (.mv (.s 0))]) .ret) .skip)) X2))))
noncomputable def F3.b1 : IR := F3.g1 F3.b2
noncomputable def F3.g0 (X1 : IR) : IR := (.seq (.reg [.q (.of 3) (.mv (.c (.bool false)))]) (.seq (.seq (.reg [.s (.mv (.t (.of 0))), .s (.bin .gtr .int (.s 0) (.c (I 20))), .s (.mv (.s 0)), .p .push (some ((.s 0), true)) (.mv (.t (.of 0))), .p .push (some ((.s 1), true)) (.bin .leq .int (.s 0) (.c (I 64))), .q (.of 10) (.pick (.s 2) (.s 0) (.c (.bool false)))]) (.cond (.t (.of 10)) (.seq (.reg [.w .push none (.call (.c (.fn 18 (.of 18) [])) []), .q (.of 3) (.mv (.s 0))]) .ret) .skip)) X1))
noncomputable def F3.b0 : IR := F3.g0 F3.b1
noncomputable def F3.res : List RV := [.t (.of 3)]
noncomputable def F3 : Fn := { params := [(.of 0), (.of 1), (.of 2)], res := F3.res, body := F3.b0, init := F3.fr .undef .undef .undef .undef .undef .undef .undef .undef .undef .undef .undef .undef .undef .undef }
theorem F3.ok : fnA Tryz.prog Tryz.f3 [0, 1, 2, 6, 7, 8, 9, 10, 11, 12, 18, 38, 69, 71] = some F3 := by kernel_rfl
/-- talisman/talismanlaw07.awake -/
def F18.fr (x0 x1 x2 x3 x4 x5 x6 x7 x8 x9 x10 x11 x12 x13 x14 x15 x16 x17 x18 x19 x20 x21 x22 x23 x24 x25 x26 x27 x28 x29 x30 x31 x32 x33 : AV) : T AV := (.n (.n (.n (.n (.n (.n .e x31 .e) x15 .e) x7 (.n .e x23 .e)) x3 (.n (.n .e x19 .e) x11 (.n .e x27 .e))) x1 (.n (.n (.n (.n .e x33 .e) x17 .e) x9 (.n .e x25 .e)) x5 (.n (.n .e x21 .e) x13 (.n .e x29 .e)))) x0 (.n (.n (.n (.n (.n .e x32 .e) x16 .e) x8 (.n .e x24 .e)) x4 (.n (.n .e x20 .e) x12 (.n .e x28 .e))) x2 (.n (.n (.n .e x18 .e) x10 (.n .e x26 .e)) x6 (.n (.n .e x22 .e) x14 (.n .e x30 .e)))))
noncomputable def F18.b1 : IR := (.seq (.reg [.w .push none (.bslice 1 2 [(I 0)] [(0, 1, (.c (I 0))), (1, 1, (.c (I 1)))]), .s (.build [.nils, (.bool false)] [(0, 1, (.s 0))]), .w .push none (.bslice 1 2 [(I 0)] [(0, 1, (.c (I 1))), (1, 1, (.c (I 0)))]), .s (.build [.nils, (.bool false)] [(0, 1, (.s 0))]), .w .push none (.bslice 2 2 [.nils, (.bool false)] [(0, 2, (.s 2)), (2, 2, (.s 0))]), .q (.of 28) (.mv (.s 0))]) (.seq (.reg [.s (.mv (.t (.of 28))), .w .push none (.bslice 1 2 [(I 0)] [(0, 1, (.c (I 1))), (1, 1, (.c (I 2)))]), .w .push none (.bslice 1 2 [(I 0)] [(0, 1, (.c (I 2))), (1, 1, (.c (I 1)))]), .w .push none (.bslice 1 2 [(I 0)] [(0, 1, (.c (I 3))), (1, 1, (.c (I 3)))]), .w .push none (.bslice 1 3 [.nils] [(0, 1, (.s 2)), (1, 1, (.s 1)), (2, 1, (.s 0))]), .w .push none (.call (.c (.fn 56 (.of 56) [])) [(.s 4), (.s 0)]), .s (.mv (.s 0)), .s (.ext 0 (.s 0)), .s (.ext 1 (.s 1)), .q (.of 29) (.mv (.s 1)), .q (.of 30) (.mv (.s 0))]) (.seq (.reg [.s (.mv (.t (.of 28))), .w .push none (.bslice 1 2 [(I 0)] [(0, 1, (.c (I 1))), (1, 1, (.c (I 2)))]), .w .push none (.bslice 1 2 [(I 0)] [(0, 1, (.c (I 2))), (1, 1, (.c (I 1)))]), .w .push none (.bslice 1 2 [(I 0)] [(0, 1, (.c (I 3))), (1, 1, (.c (I 3)))]), .w .push none (.bslice 1 3 [.nils] [(0, 1, (.s 2)), (1, 1, (.s 1)), (2, 1, (.s 0))]), .w .push none (.call (.c (.fn 58 (.of 58) [])) [(.s 4), (.s 0)]), .s (.mv (.s 0)), .s (.ext 0 (.s 0)), .s (.ext 1 (.s 1)), .q (.of 31) (.mv (.s 1)), .q (.of 32) (.mv (.s 0))]) (.seq (.reg [.s (.mv (.t (.of 30))), .s (.mv (.t (.of 32))), .s (.bin .add .int (.s 1) (.s 0)), .s (.bin .eql .int (.s 0) (.c (I 0))), .s (.mv (.s 0)), .p .push (some ((.s 0), true)) (.mv (.t (.of 29))), .p .push (some ((.s 1), true)) (.len (.s 0)), .p .push (some ((.s 2), true)) (.bin .eql .int (.s 0) (.c (I 2))), .s (.pick (.s 3) (.s 0) (.c (.bool false))), .s (.mv (.s 0)), .p .push (some ((.s 0), true)) (.mv (.t (.of 29))), .p .push (some ((.s 1), true)) (.iaddr 2 (.s 0) (.c (I 0))), .p .push (some ((.s 2), true)) (.faddr 1 (.s 0)), .p .push (some ((.s 3), true)) (.load (.s 0)), .p .push (some ((.s 4), true)) (.bin .eql .int (.s 0) (.c (I 2))), .s (.pick (.s 5) (.s 0) (.c (.bool false))), .s (.mv (.s 0)), .p .push (some ((.s 0), true)) (.mv (.t (.of 29))), .p .push (some ((.s 1), true)) (.iaddr 2 (.s 0) (.c (I 1))), .p .push (some ((.s 2), true)) (.faddr 1 (.s 0)), .p .push (some ((.s 3), true)) (.load (.s 0)), .p .push (some ((.s 4), true)) (.bin .eql .int (.s 0) (.c (I 1))), .s (.pick (.s 5) (.s 0) (.c (.bool false))), .s (.mv (.s 0)), .p .push (some ((.s 0), true)) (.mv (.t (.of 31))), .p .push (some ((.s 1), true)) (.bin .eql .int (.s 0) (.c (I 2))), .s (.pick (.s 2) (.s 0) (.c (.bool false))), .s (.mv (.s 0)), .p .push (some ((.s 0), true)) (.mv (.t (.of 11))), .p .push (some ((.s 1), true)) (.iaddr 1 (.s 0) (.c (I 0))), .p .push (some ((.s 2), true)) (.load (.s 0)), .w .push (some ((.s 3), true)) (.bslice 1 4 [(I 0)] [(0, 1, (.c (I 1))), (1, 1, (.c (I 4))), (2, 1, (.c (I 2))), (3, 1, (.c (I 3)))]), .w .push (some ((.s 4), true)) (.call (.c (.fn 35 (.of 35) [])) [(.s 1), (.s 0)]), .s (.pick (.s 5) (.s 0) (.c (.bool false))), .s (.mv (.s 0)), .p .push (some ((.s 0), true)) (.mv (.t (.of 1))), .p .push (some ((.s 1), true)) (.iaddr 1 (.s 0) (.c (I 1))), .p .push (some ((.s 2), true)) (.load (.s 0)), .w .push (some ((.s 3), true)) (.bslice 1 3 [(I 0)] [(0, 1, (.c (I 1))), (1, 1, (.c (I 6))), (2, 1, (.c (I 8)))]), .w .push (some ((.s 4), true)) (.call (.c (.fn 35 (.of 35) [])) [(.s 1), (.s 0)]), .s (.pick (.s 5) (.s 0) (.c (.bool false))), .s (.mv (.s 0)), .p .push (some ((.s 0), true)) (.mv (.t (.of 15))), .w .push (some ((.s 1), true)) (.bslice 1 2 [(I 0)] [(0, 1, (.c (I 0))), (1, 1, (.c (I 0)))]), .w .push (some ((.s 2), true)) (.bslice 1 2 [(I 0)] [(0, 1, (.c (I 1))), (1, 1, (.c (I 0)))]), .w .push (some ((.s 3), true)) (.bslice 1 2 [(I 0)] [(0, 1, (.c (I 2))), (1, 1, (.c (I 0)))]), .w .push (some ((.s 4), true)) (.bslice 1 3 [.nils] [(0, 1, (.s 2)), (1, 1, (.s 1)), (2, 1, (.s 0))]), .w .push (some ((.s 5), true)) (.call (.c (.fn 23 (.of 23) [])) [(.s 4), (.s 0)]), .s (.pick (.s 6) (.s 0) (.c (.bool false))), .s (.mv (.s 0)), .p .push (some ((.s 0), true)) (.mv (.t (.of 16))), .w .push (some ((.s 1), true)) (.bslice 1 3 [(I 0)] [(0, 1, (.c (I 1))), (1, 1, (.c (I 1))), (2, 1, (.c (I 1)))]), .w .push (some ((.s 2), true)) (.call (.c (.fn 35 (.of 35) [])) [(.s 1), (.s 0)]), .s (.pick (.s 3) (.s 0) (.c (.bool false))), .s (.mv (.s 0)), .p .push (some ((.s 0), true)) (.mv (.t (.of 18))), .w .push (some ((.s 1), true)) (.bslice 1 9 [(I 0)] [(0, 1, (.c (I 2))), (1, 1, (.c (I 3))), (2, 1, (.c (I 2))), (3, 1, (.c (I 3))), (4, 1, (.c (I 4))), (5, 1, (.c (I 3))), (6, 1, (.c (I 2))), (7, 1, (.c (I 3))), (8, 1, (.c (I 2)))]), .w .push (some ((.s 2), true)) (.call (.c (.fn 35 (.of 35) [])) [(.s 1), (.s 0)]), .s (.pick (.s 3) (.s 0) (.c (.bool false))), .s (.mv (.s 0)), .p .push (some ((.s 0), true)) (.mv (.t (.of 25))), .w .push (some ((.s 1), true)) (.bslice 1 2 [(I 0)] [(0, 1, (.c (I 1))), (1, 1, (.c (I 2)))]), .w .push (some ((.s 2), true)) (.call (.c (.fn 35 (.of 35) [])) [(.s 1), (.s 0)]), .s (.pick (.s 3) (.s 0) (.c (.bool false))), .q (.of 0) (.mv (.s 0))]) .ret))))
noncomputable def F18.g0 (X1 : IR) : IR := (.seq (.reg [.q (.of 0) (.mv (.c (.bool false)))]) (.seq (.reg [.w .push none (.call (.c (.fn 19 (.of 19) [])) [(.c (I 9)), (.c (I 3)), (.c (I 15))]), .s (.mv (.s 0)), .s (.ext 0 (.s 0)), .s (.ext 1 (.s 1)), .q (.of 1) (.mv (.s 1)), .q (.of 2) (.mv (.s 0))]) (.seq (.reg [.w .push none (.call (.c (.fn 20 (.of 20) [])) [(.c (I 9)), (.c (I 3)), (.c (I 15))]), .s (.mv (.s 0)), .s (.ext 0 (.s 0)), .s (.ext 1 (.s 1)), .q (.of 3) (.mv (.s 1)), .q (.of 4) (.mv (.s 0))]) (.seq (.reg [.w .push none (.call (.c (.fn 75 (.of 75) [])) []), .w .push none (.call (.c (.fn 26 (.of 26) [])) [(.s 0)]), .s (.mv (.s 0)), .s (.ext 0 (.s 0)), .s (.ext 1 (.s 1)), .s (.ext 2 (.s 2)), .q (.of 5) (.mv (.s 2)), .q (.of 6) (.mv (.s 1)), .q (.of 7) (.mv (.s 0))]) (.seq (.reg [.w .push none (.bslice 1 2 [(I 0)] [(0, 1, (.c (I 0))), (1, 1, (.c (I 1)))]), .w .push none (.bslice 1 2 [(I 0)] [(0, 1, (.c (I 2))), (1, 1, (.c (I 3)))]), .w .push none (.bslice 1 2 [.nils] [(0, 1, (.s 1)), (1, 1, (.s 0))]), .s (.build [(I 0), .nils] [(0, 1, (.c (I 4))), (1, 1, (.s 0))]), .w (.loc (.of 8)) none (.alloc [(I 0), .nils]), .w .none none (.store 2 (.t (.of 8)) (.s 0))]) (.seq (.reg [.s (.loadN 2 (.t (.of 8))), .w .push none (.call (.c (.fn 63 (.of 63) [])) [(.s 0)]), .s (.mv (.s 0)), .s (.ext 0 (.s 0)), .s (.ext 1 (.s 1)), .q (.of 9) (.mv (.s 1)), .q (.of 10) (.mv (.s 0))]) (.seq (.reg [.s (.loadN 2 (.t (.of 8))), .w .push none (.call (.c (.fn 52 (.of 52) [])) [(.s 0), (.c (I 5))]), .s (.mv (.s 0)), .s (.ext 0 (.s 0)), .s (.ext 1 (.s 1)), .q (.of 11) (.mv (.s 1)), .q (.of 12) (.mv (.s 0))]) (.seq (.reg [.s (.loadN 2 (.t (.of 8))), .w .push none (.call (.c (.fn 31 (.of 31) [])) [(.s 0), (.c (I 2)), (.c (I 2))]), .s (.mv (.s 0)), .s (.ext 0 (.s 0)), .s (.ext 1 (.s 1)), .q (.of 13) (.mv (.s 1)), .q (.of 14) (.mv (.s 0))]) (.seq (.reg [.s (.loadN 2 (.t (.of 8))), .w .push none (.call (.c (.fn 33 (.of 33) [])) [(.s 0), (.c (I 1)), (.c (I 2))]), .s (.mv (.s 0)), .s (.ext 0 (.s 0)), .s (.ext 1 (.s 1)), .s (.ext 2 (.s 2)), .q (.of 15) (.mv (.s 2)), .q (.of 16) (.mv (.s 1)), .q (.of 17) (.mv (.s 0))]) (.seq (.reg [.w .push none (.call (.c (.fn 75 (.of 75) [])) []), .w .push none (.bslice 1 9 [(I 0)] [(0, 1, (.c (I 2))), (1, 1, (.c (I 7))), (2, 1, (.c (I 6))), (3, 1, (.c (I 9))), (4, 1, (.c (I 5))), (5, 1, (.c (I 1))), (6, 1, (.c (I 4))), (7, 1, (.c (I 3))), (8, 1, (.c (I 8)))]), .w .push none (.call (.c (.fn 36 (.of 36) [])) [(.s 1), (.s 0)]), .s (.mv (.s 0)), .s (.ext 0 (.s 0)), .s (.ext 1 (.s 1)), .q (.of 18) (.mv (.s 1)), .q (.of 19) (.mv (.s 0))]) (.seq (.reg [.s (.build [(I 0), (I 0)] [(0, 1, (.c (I 0))), (1, 1, (.c (I 1)))]), .s (.build [(I 0), (I 0)] [(0, 1, (.c (I 1))), (1, 1, (.c (I 2)))]), .w .push none (.bslice 2 2 [(I 0), (I 0)] [(0, 2, (.s 1)), (2, 2, (.s 0))]), .s (.build [(I 0), .nils] [(0, 1, (.c (I 3))), (1, 1, (.s 0))]), .w (.loc (.of 20)) none (.alloc [(I 0), .nils]), .w .none none (.store 2 (.t (.of 20)) (.s 0))]) (.seq (.reg [.s (.loadN 2 (.t (.of 20))), .w .push none (.call (.c (.fn 67 (.of 67) [])) [(.s 0)]), .s (.mv (.s 0)), .s (.ext 0 (.s 0)), .s (.ext 1 (.s 1)), .q (.of 21) (.mv (.s 1)), .q (.of 22) (.mv (.s 0))]) (.seq (.reg [.s (.loadN 2 (.t (.of 20))), .w .push none (.call (.c (.fn 40 (.of 40) [])) [(.s 0)]), .s (.mv (.s 0)), .s (.ext 0 (.s 0)), .s (.ext 1 (.s 1)), .q (.of 23) (.mv (.s 1)), .q (.of 24) (.mv (.s 0))]) (.seq (.reg [.s (.loadN 2 (.t (.of 20))), .w .push none (.call (.c (.fn 41 (.of 41) [])) [(.s 0)]), .s (.mv (.s 0)), .s (.ext 0 (.s 0)), .s (.ext 1 (.s 1)), .q (.of 25) (.mv (.s 1)), .q (.of 26) (.mv (.s 0))]) (.seq (.reg [.s (.build [(I 0), (I 0)] [(0, 1, (.c (I 0))), (1, 1, (.c (I 1)))]), .w .push none (.bslice 2 1 [(I 0), (I 0)] [(0, 2, (.s 0))]), .s (.build [(I 0), .nils] [(0, 1, (.c (I 2))), (1, 1, (.s 0))]), .w .push none (.call (.c (.fn 41 (.of 41) [])) [(.s 0)]), .s (.mv (.s 0)), .s (.ext 0 (.s 0)), .s (.ext 1 (.s 1)), .s (.mv (.s 1)), .q (.of 27) (.mv (.s 1))]) (.seq (.seq (.reg [.s (.mv (.t (.of 2))), .s (.mv (.t (.of 4))), .s (.bin .add .int (.s 1) (.s 0)), .s (.mv (.t (.of 7))), .s (.bin .add .int (.s 1) (.s 0)), .s (.mv (.t (.of 10))), .s (.bin .add .int (.s 1) (.s 0)), .s (.mv (.t (.of 12))), .s (.bin .add .int (.s 1) (.s 0)), .s (.mv (.t (.of 14))), .s (.bin .add .int (.s 1) (.s 0)), .s (.mv (.t (.of 17))), .s (.bin .add .int (.s 1) (.s 0)), .s (.mv (.t (.of 19))), .s (.bin .add .int (.s 1) (.s 0)), .s (.mv (.t (.of 22))), .s (.bin .add .int (.s 1) (.s 0)), .s (.mv (.t (.of 24))), .s (.bin .add .int (.s 1) (.s 0)), .s (.mv (.t (.of 26))), .s (.bin .add .int (.s 1) (.s 0)), .s (.bin .neq .int (.s 0) (.c (I 0))), .s (.mv (.s 0)), .p .push (some ((.s 0), false)) (.mv (.t (.of 27))), .p .push (some ((.s 1), false)) (.bin .neq .int (.s 0) (.c (I 7))), .s (.pick (.s 2) (.c (.bool true)) (.s 0)), .s (.mv (.s 0)), .p .push (some ((.s 0), false)) (.mv (.t (.of 1))), .p .push (some ((.s 1), false)) (.len (.s 0)), .p .push (some ((.s 2), false)) (.bin .neq .int (.s 0) (.c (I 8))), .s (.pick (.s 3) (.c (.bool true)) (.s 0)), .s (.mv (.s 0)), .p .push (some ((.s 0), false)) (.mv (.t (.of 3))), .p .push (some ((.s 1), false)) (.bin .neq .int (.s 0) (.c (I 8))), .s (.pick (.s 2) (.c (.bool true)) (.s 0)), .s (.mv (.s 0)), .p .push (some ((.s 0), false)) (.mv (.t (.of 5))), .p .push (some ((.s 1), false)) (.bin .neq .int (.s 0) (.c (I 14))), .s (.pick (.s 2) (.c (.bool true)) (.s 0)), .s (.mv (.s 0)), .p .push (some ((.s 0), false)) (.mv (.t (.of 6))), .p .push (some ((.s 1), false)) (.bin .neq .int (.s 0) (.c (I 16))), .s (.pick (.s 2) (.c (.bool true)) (.s 0)), .s (.mv (.s 0)), .p .push (some ((.s 0), false)) (.mv (.t (.of 13))), .p .push (some ((.s 1), false)) (.bin .neq .int (.s 0) (.c (I 9))), .s (.pick (.s 2) (.c (.bool true)) (.s 0)), .s (.mv (.s 0)), .p .push (some ((.s 0), false)) (.mv (.t (.of 23))), .p .push (some ((.s 1), false)) (.bin .neq .int (.s 0) (.c (I 2))), .s (.pick (.s 2) (.c (.bool true)) (.s 0)), .s (.mv (.s 0)), .p .push (some ((.s 0), false)) (.mv (.t (.of 9))), .p .push (some ((.s 1), false)) (.len (.s 0)), .p .push (some ((.s 2), false)) (.bin .neq .int (.s 0) (.c (I 1))), .s (.pick (.s 3) (.c (.bool true)) (.s 0)), .s (.mv (.s 0)), .p .push (some ((.s 0), false)) (.mv (.t (.of 9))), .p .push (some ((.s 1), false)) (.iaddr 2 (.s 0) (.c (I 0))), .p .push (some ((.s 2), false)) (.loadN 2 (.s 0)), .p .push (some ((.s 3), false)) (.build [(I 0), (I 0)] [(0, 1, (.c (I 5))), (1, 1, (.c (I 8)))]), .p .push (some ((.s 4), false)) (.bin .neq (.agg 2) (.s 1) (.s 0)), .s (.pick (.s 5) (.c (.bool true)) (.s 0)), .s (.mv (.s 0)), .p .push (some ((.s 0), false)) (.mv (.t (.of 11))), .p .push (some ((.s 1), false)) (.len (.s 0)), .p .push (some ((.s 2), false)) (.bin .neq .int (.s 0) (.c (I 8))), .s (.pick (.s 3) (.c (.bool true)) (.s 0)), .s (.mv (.s 0)), .p .push (some ((.s 0), false)) (.mv (.t (.of 21))), .p .push (some ((.s 1), false)) (.len (.s 0)), .p .push (some ((.s 2), false)) (.bin .neq .int (.s 0) (.c (I 3))), .s (.pick (.s 3) (.c (.bool true)) (.s 0)), .s (.mv (.s 0)), .p .push (some ((.s 0), false)) (.mv (.t (.of 21))), .p .push (some ((.s 1), false)) (.iaddr 2 (.s 0) (.c (I 0))), .p .push (some ((.s 2), false)) (.loadN 2 (.s 0)), .p .push (some ((.s 3), false)) (.build [(I 0), (I 0)] [(0, 1, (.c (I 8))), (1, 1, (.c (I 8)))]), .p .push (some ((.s 4), false)) (.bin .neq (.agg 2) (.s 1) (.s 0)), .s (.pick (.s 5) (.c (.bool true)) (.s 0)), .s (.mv (.s 0)), .p .push (some ((.s 0), false)) (.mv (.t (.of 21))), .p .push (some ((.s 1), false)) (.iaddr 2 (.s 0) (.c (I 2))), .p .push (some ((.s 2), false)) (.loadN 2 (.s 0)), .p .push (some ((.s 3), false)) (.build [(I 0), (I 0)] [(0, 1, (.c (I 10))), (1, 1, (.c (I 8)))]), .p .push (some ((.s 4), false)) (.bin .neq (.agg 2) (.s 1) (.s 0)), .q (.of 33) (.pick (.s 5) (.c (.bool true)) (.s 0))]) (.cond (.t (.of 33)) (.seq (.reg [.q (.of 0) (.mv (.c (.bool false)))]) .ret) .skip)) X1))))))))))))))))
noncomputable def F18.b0 : IR := F18.g0 F18.b1
noncomputable def F18.res : List RV := [.t (.of 0)]
noncomputable def F18 : Fn := { params := [], res := F18.res, body := F18.b0, init := F18.fr .undef .undef .undef .undef .undef .undef .undef .undef .undef .undef .undef .undef .undef .undef .undef .undef .undef .undef .undef .undef .undef .undef .undef .undef .undef .undef .undef .undef .undef .undef .undef .undef .undef .undef }
theorem F18.ok : fnA Tryz.prog Tryz.f18 [0, 1, 2, 3, 4, 5, 6, 7, 8, 9, 10, 11, 12, 13, 14, 15, 16, 17, 18, 19, 20, 21, 22, 23, 24, 25, 26, 28, 29, 30, 31, 32, 33, 191] = some F18 := by kernel_rfl
/-- talisman/count.Sets -/
def F19.fr (x0 x1 x2 x3 x4 x5 x6 x7 x8 x9 x10 x11 x12 : AV) : T AV := (.n (.n (.n (.n .e x7 .e) x3 (.n .e x11 .e)) x1 (.n (.n .e x9 .e) x5 .e)) x0 (.n (.n (.n .e x8 .e) x4 (.n .e x12 .e)) x2 (.n (.n .e x10 .e) x6 .e)))
noncomputable def F19.b2 : IR := (.seq (.reg [.s (.load (.t (.of 8))), .q (.of 5) (.mv (.s 0)), .q (.of 6) (.mv (.c (I 0)))]) .ret)
noncomputable def F19.g1 (X2 : IR) : IR := (.seq (.reg [.w (.loc (.of 8)) none (.alloc [.nils])]) (.seq (.reg [.w (.loc (.of 9)) none (.alloc [.nils])]) (.seq (.reg [.w (.loc (.of 10)) none (.alloc [.nilf])]) (.seq (.reg [.s (.fn 77 (.of 77) [(.t (.of 4)), (.t (.of 9)), (.t (.of 3)), (.t (.of 8)), (.t (.of 10))]), .w .none none (.store 1 (.t (.of 10)) (.s 0))]) (.seq (.seq (.reg [.s (.load (.t (.of 10))), .s (.mv (.t (.of 2))), .w .push none (.call (.s 1) [(.c (I 1)), (.s 0)]), .q (.of 12) (.not (.s 0))]) (.cond (.t (.of 12)) (.seq (.reg [.q (.of 5) (.mv (.c .nils)), .q (.of 6) (.mv (.c (I 5)))]) .ret) .skip)) X2)))))
noncomputable def F19.b1 : IR := F19.g1 F19.b2
noncomputable def F19.g0 (X1 : IR) : IR := (.seq (.reg [.w (.loc (.of 3)) none (.box (.t (.of 0))), .w (.loc (.of 4)) none (.box (.t (.of 1))), .q (.of 5) (.mv (.c .nils)), .q (.of 6) (.mv (.c (I 0)))]) (.seq (.seq (.reg [.s (.load (.t (.of 3))), .s (.load (.t (.of 4))), .w .push none (.call (.c (.fn 76 (.of 76) [])) [(.s 1), (.s 0)]), .q (.of 7) (.mv (.s 0))]) (.seq (.reg [.s (.mv (.t (.of 7))), .q (.of 11) (.bin .neq .int (.s 0) (.c (I 0)))]) (.cond (.t (.of 11)) (.seq (.reg [.s (.mv (.t (.of 7))), .q (.of 5) (.mv (.c .nils)), .q (.of 6) (.mv (.s 0))]) .ret) .skip))) X1))
noncomputable def F19.b0 : IR := F19.g0 F19.b1
noncomputable def F19.res : List RV := [.t (.of 5), .t (.of 6)]
noncomputable def F19 : Fn := { params := [(.of 0), (.of 1), (.of 2)], res := F19.res, body := F19.b0, init := F19.fr .undef .undef .undef .undef .undef .undef .undef .undef .undef .undef .undef .undef .undef }
theorem F19.ok : fnA Tryz.prog Tryz.f19 [0, 1, 2, 3, 4, 6, 7, 8, 9, 10, 11, 16, 22] = some F19 := by kernel_rfl
/-- talisman/count.SetCount -/
def F20.fr (x0 x1 x2 x3 x4 x5 x6 x7 x8 x9 x10 x11 x12 x13 x14 x15 x16 x17 x18 x19 x20 : AV) : T AV := (.n (.n (.n (.n (.n .e x15 .e) x7 .e) x3 (.n (.n .e x19 .e) x11 .e)) x1 (.n (.n (.n .e x17 .e) x9 .e) x5 (.n .e x13 .e))) x0 (.n (.n (.n (.n .e x16 .e) x8 .e) x4 (.n (.n .e x20 .e) x12 .e)) x2 (.n (.n (.n .e x18 .e) x10 .e) x6 (.n .e x14 .e))))
noncomputable def F20.b8 : IR := (.seq (.reg [.s (.mv (.t (.of 16))), .q (.of 9) (.mv (.s 0))]) (.reg [.s (.mv (.t (.of 8))), .s (.mv (.t (.of 9))), .s (.mv (.t (.of 2))), .s (.bin .add .int (.s 0) (.c (I 1))), .w .push none (.mkslice 1 8 [(I 0)] (.s 0) (.s 0)), .s (.iaddr 1 (.s 4) (.s 3)), .w .none none (.store 1 (.s 0) (.s 1))]))
noncomputable def F20.g7 (X8 : IR) : IR := (.block 1 X8)
noncomputable def F20.b7 : IR := F20.g7 F20.b8
noncomputable def F20.b9 : IR := (.reg [.s (.bin .add .int (.t (.of 16)) (.c (I 1))), .q (.of 16) (.mv (.s 0))])
noncomputable def F20.g6 (X7 X9 : IR) : IR := (.seq X7 X9)
noncomputable def F20.b6 : IR := F20.g6 F20.b7 F20.b9
noncomputable def F20.g5 (X6 : IR) : IR := (.seq (.reg [.q (.of 17) (.bin .lss .int (.t (.of 16)) (.t (.of 15)))]) (.seq (.cond (.t (.of 17)) .skip (.exit 0)) X6))
noncomputable def F20.b5 : IR := F20.g5 F20.b6
noncomputable def F20.g4 (X5 : IR) : IR := (.loop X5)
noncomputable def F20.b4 : IR := F20.g4 F20.b5
noncomputable def F20.g3 (X4 : IR) : IR := (.block 0 X4)
noncomputable def F20.b3 : IR := F20.g3 F20.b4
noncomputable def F20.b28 : IR := (.dreg [] [(.s (.mv (.t (.of 8))), 0, []), (.s (.mv (.t (.of 11))), 0, []), (.s (.iaddr 1 (.s 1) (.s 0)), 0, []), (.s (.load (.s 0)), 0, []), (.s (.mv (.t (.of 12))), 0, []), (.s (.iaddr 1 (.s 1) (.s 0)), 0, []), (.s (.load (.s 0)), 0, []), (.s (.mv (.t (.of 8))), 0, []), (.s (.mv (.t (.of 11))), 0, []), (.s (.bin .sub .int (.s 0) (.c (I 1))), 0, []), (.s (.iaddr 1 (.s 2) (.s 0)), 0, []), (.s (.load (.s 0)), 0, []), (.s (.mv (.t (.of 12))), 0, []), (.s (.mv (.t (.of 10))), 0, []), (.s (.bin .sub .int (.s 1) (.s 0)), 0, []), (.s (.iaddr 1 (.s 3) (.s 0)), 0, []), (.s (.load (.s 0)), 0, []), (.s (.bin .add .int (.s 10) (.s 0)), 0, []), (.s (.iaddr 1 (.s 14) (.s 13)), 0, []), (.w .none none (.store 1 (.s 0) (.s 1)), 0, [])])
noncomputable def F20.g27 (X28 : IR) : IR := (.block 7 X28)
noncomputable def F20.b27 : IR := F20.g27 F20.b28
noncomputable def F20.b29 : IR := (.reg [.s (.mv (.t (.of 12))), .s (.bin .sub .int (.s 0) (.c (I 1))), .q (.of 12) (.mv (.s 0))])
noncomputable def F20.g26 (X27 X29 : IR) : IR := (.seq X27 X29)
noncomputable def F20.b26 : IR := F20.g26 F20.b27 F20.b29
noncomputable def F20.g25 (X26 : IR) : IR := (.seq (.seq (.reg [.s (.mv (.t (.of 12))), .s (.mv (.t (.of 10))), .q (.of 20) (.bin .geq .int (.s 1) (.s 0))]) (.cond (.t (.of 20)) .skip (.exit 6))) X26)
noncomputable def F20.b25 : IR := F20.g25 F20.b26
noncomputable def F20.g24 (X25 : IR) : IR := (.loop X25)
noncomputable def F20.b24 : IR := F20.g24 F20.b25
noncomputable def F20.g23 (X24 : IR) : IR := (.block 6 X24)
noncomputable def F20.b23 : IR := F20.g23 F20.b24
noncomputable def F20.g22 (X23 : IR) : IR := (.seq (.reg [.s (.mv (.t (.of 2))), .q (.of 12) (.mv (.s 0))]) X23)
noncomputable def F20.b22 : IR := F20.g22 F20.b23
noncomputable def F20.g21 (X22 : IR) : IR := (.block 5 X22)
noncomputable def F20.b21 : IR := F20.g21 F20.b22
noncomputable def F20.b30 : IR := (.reg [.s (.mv (.t (.of 11))), .s (.bin .sub .int (.s 0) (.c (I 1))), .q (.of 11) (.mv (.s 0))])
noncomputable def F20.g20 (X21 X30 : IR) : IR := (.seq X21 X30)
noncomputable def F20.b20 : IR := F20.g20 F20.b21 F20.b30
noncomputable def F20.g19 (X20 : IR) : IR := (.seq (.seq (.reg [.s (.mv (.t (.of 11))), .q (.of 19) (.bin .gtr .int (.s 0) (.c (I 0)))]) (.cond (.t (.of 19)) .skip (.exit 4))) X20)
noncomputable def F20.b19 : IR := F20.g19 F20.b20
noncomputable def F20.g18 (X19 : IR) : IR := (.loop X19)
noncomputable def F20.b18 : IR := F20.g18 F20.b19
noncomputable def F20.g17 (X18 : IR) : IR := (.block 4 X18)
noncomputable def F20.b17 : IR := F20.g17 F20.b18
noncomputable def F20.g16 (X17 : IR) : IR := (.seq (.reg [.s (.mv (.t (.of 1))), .q (.of 11) (.mv (.s 0))]) X17)
noncomputable def F20.b16 : IR := F20.g16 F20.b17
noncomputable def F20.g15 (X16 : IR) : IR := (.block 3 X16)
noncomputable def F20.b15 : IR := F20.g15 F20.b16
noncomputable def F20.b31 : IR := (.reg [.s (.mv (.t (.of 10))), .s (.bin .add .int (.s 0) (.c (I 1))), .q (.of 10) (.mv (.s 0))])
noncomputable def F20.g14 (X15 X31 : IR) : IR := (.seq X15 X31)
noncomputable def F20.b14 : IR := F20.g14 F20.b15 F20.b31
noncomputable def F20.g13 (X14 : IR) : IR := (.seq (.seq (.reg [.s (.mv (.t (.of 10))), .s (.mv (.t (.of 0))), .q (.of 18) (.bin .leq .int (.s 1) (.s 0))]) (.cond (.t (.of 18)) .skip (.exit 2))) X14)
noncomputable def F20.b13 : IR := F20.g13 F20.b14
noncomputable def F20.g12 (X13 : IR) : IR := (.loop X13)
noncomputable def F20.b12 : IR := F20.g12 F20.b13
noncomputable def F20.g11 (X12 : IR) : IR := (.block 2 X12)
noncomputable def F20.b11 : IR := F20.g11 F20.b12
noncomputable def F20.b32 : IR := (.seq (.reg [.s (.mv (.t (.of 8))), .s (.mv (.t (.of 1))), .s (.iaddr 1 (.s 1) (.s 0)), .s (.load (.s 0)), .s (.mv (.t (.of 2))), .s (.iaddr 1 (.s 1) (.s 0)), .s (.load (.s 0)), .q (.of 3) (.mv (.s 0)), .q (.of 4) (.mv (.c (I 0)))]) .ret)
noncomputable def F20.g10 (X11 X32 : IR) : IR := (.seq (.reg [.s (.mv (.t (.of 8))), .s (.iaddr 1 (.s 0) (.c (I 0))), .s (.load (.s 0)), .s (.iaddr 1 (.s 0) (.c (I 0))), .w .none none (.store 1 (.s 0) (.c (I 1)))]) (.seq (.seq (.reg [.q (.of 10) (.mv (.c (I 1)))]) X11) X32))
noncomputable def F20.b10 : IR := F20.g10 F20.b11 F20.b32
noncomputable def F20.g2 (X3 X10 : IR) : IR := (.seq (.reg [.s (.mv (.t (.of 1))), .s (.bin .add .int (.s 0) (.c (I 1))), .w .push none (.mkslice 1 24 [.nils] (.s 0) (.s 0)), .q (.of 8) (.mv (.s 0))]) (.seq (.seq (.reg [.s (.mv (.t (.of 8))), .q (.of 15) (.len (.s 0)), .q (.of 16) (.mv (.c (I 0)))]) X3) X10))
noncomputable def F20.b2 : IR := F20.g2 F20.b3 F20.b10
noncomputable def F20.g1 (X2 : IR) : IR := (.seq (.reg [.s (.mv (.t (.of 0))), .s (.mv (.t (.of 1))), .w .push none (.call (.c (.fn 78 (.of 78) [])) [(.c (I 1)), (.s 1), (.s 0)]), .s (.mv (.s 0)), .s (.ext 0 (.s 0)), .s (.ext 1 (.s 1)), .q (.of 6) (.mv (.s 1)), .q (.of 7) (.mv (.s 0))]) (.seq (.seq (.reg [.s (.mv (.t (.of 2))), .s (.mv (.t (.of 6))), .s (.bin .lss .int (.s 1) (.s 0)), .s (.mv (.s 0)), .p .push (some ((.s 0), false)) (.mv (.t (.of 2))), .p .push (some ((.s 1), false)) (.mv (.t (.of 7))), .p .push (some ((.s 2), false)) (.bin .gtr .int (.s 1) (.s 0)), .q (.of 14) (.pick (.s 3) (.c (.bool true)) (.s 0))]) (.cond (.t (.of 14)) (.seq (.reg [.q (.of 3) (.mv (.c (I 0))), .q (.of 4) (.mv (.c (I 0)))]) .ret) .skip)) X2))
noncomputable def F20.b1 : IR := F20.g1 F20.b2
noncomputable def F20.g0 (X1 : IR) : IR := (.seq (.reg [.q (.of 3) (.mv (.c (I 0))), .q (.of 4) (.mv (.c (I 0)))]) (.seq (.seq (.reg [.s (.mv (.t (.of 0))), .s (.mv (.t (.of 1))), .w .push none (.call (.c (.fn 76 (.of 76) [])) [(.s 1), (.s 0)]), .q (.of 5) (.mv (.s 0))]) (.seq (.reg [.s (.mv (.t (.of 5))), .q (.of 13) (.bin .neq .int (.s 0) (.c (I 0)))]) (.cond (.t (.of 13)) (.seq (.reg [.s (.mv (.t (.of 5))), .q (.of 3) (.mv (.c (I 0))), .q (.of 4) (.mv (.s 0))]) .ret) .skip))) X1))
noncomputable def F20.b0 : IR := F20.g0 F20.b1
noncomputable def F20.res : List RV := [.t (.of 3), .t (.of 4)]
noncomputable def F20 : Fn := { params := [(.of 0), (.of 1), (.of 2)], res := F20.res, body := F20.b0, init := F20.fr .undef .undef .undef .undef .undef .undef .undef .undef .undef .undef .undef .undef .undef .undef .undef .undef .undef .undef .undef .undef .undef }
theorem F20.ok : fnA Tryz.prog Tryz.f20 [0, 1, 2, 6, 7, 8, 9, 10, 11, 12, 13, 14, 15, 20, 35, 40, 41, 42, 57, 62, 68] = some F20 := by kernel_rfl
/-- talisman/talismanref07.CheckSets -/
def F21.fr (x0 x1 x2 x3 : AV) : T AV := (.n (.n (.n .e x3 .e) x1 .e) x0 (.n .e x2 .e))
noncomputable def F21.b1 : IR := (.seq (.reg [.q (.of 2) (.mv (.c (I 0)))]) .ret)
noncomputable def F21.g0 (X1 : IR) : IR := (.seq (.reg [.q (.of 2) (.mv (.c (I 0)))]) (.seq (.seq (.reg [.s (.mv (.t (.of 0))), .s (.bin .lss .int (.s 0) (.c (I 0))), .s (.mv (.s 0)), .p .push (some ((.s 0), false)) (.mv (.t (.of 0))), .p .push (some ((.s 1), false)) (.bin .gtr .int (.s 0) (.c (I 64))), .s (.pick (.s 2) (.c (.bool true)) (.s 0)), .s (.mv (.s 0)), .p .push (some ((.s 0), false)) (.mv (.t (.of 1))), .p .push (some ((.s 1), false)) (.bin .lss .int (.s 0) (.c (I 0))), .s (.pick (.s 2) (.c (.bool true)) (.s 0)), .s (.mv (.s 0)), .p .push (some ((.s 0), false)) (.mv (.t (.of 1))), .p .push (some ((.s 1), false)) (.mv (.t (.of 0))), .p .push (some ((.s 2), false)) (.bin .gtr .int (.s 1) (.s 0)), .q (.of 3) (.pick (.s 3) (.c (.bool true)) (.s 0))]) (.cond (.t (.of 3)) (.seq (.reg [.q (.of 2) (.mv (.c (I 3)))]) .ret) .skip)) X1))
noncomputable def F21.b0 : IR := F21.g0 F21.b1
noncomputable def F21.res : List RV := [.t (.of 2)]
noncomputable def F21 : Fn := { params := [(.of 0), (.of 1)], res := F21.res, body := F21.b0, init := F21.fr .undef .undef .undef .undef }
theorem F21.ok : fnA Tryz.prog Tryz.f21 [0, 1, 4, 19] = some F21 := by kernel_rfl
/-- talisman/talismanref07.SetCount -/
def F22.fr (x0 x1 x2 x3 x4 x5 x6 x7 x8 x9 x10 x11 x12 x13 x14 : AV) : T AV := (.n (.n (.n (.n .e x7 .e) x3 (.n .e x11 .e)) x1 (.n (.n .e x9 .e) x5 (.n .e x13 .e))) x0 (.n (.n (.n .e x8 .e) x4 (.n .e x12 .e)) x2 (.n (.n .e x10 .e) x6 (.n .e x14 .e))))
noncomputable def F22.b6 : IR := (.reg [.s (.mv (.t (.of 4))), .s (.mv (.t (.of 6))), .s (.mv (.t (.of 5))), .s (.bin .add .int (.s 0) (.c (I 1))), .w .push none (.mkslice 1 8 [(I 0)] (.s 0) (.s 0)), .s (.iaddr 1 (.s 4) (.s 3)), .w .none none (.store 1 (.s 0) (.s 1))])
noncomputable def F22.g5 (X6 : IR) : IR := (.block 1 X6)
noncomputable def F22.b5 : IR := F22.g5 F22.b6
noncomputable def F22.b7 : IR := (.reg [.s (.mv (.t (.of 6))), .s (.bin .add .int (.s 0) (.c (I 1))), .q (.of 6) (.mv (.s 0))])
noncomputable def F22.g4 (X5 X7 : IR) : IR := (.seq X5 X7)
noncomputable def F22.b4 : IR := F22.g4 F22.b5 F22.b7
noncomputable def F22.g3 (X4 : IR) : IR := (.seq (.seq (.reg [.s (.mv (.t (.of 6))), .s (.mv (.t (.of 1))), .q (.of 10) (.bin .leq .int (.s 1) (.s 0))]) (.cond (.t (.of 10)) .skip (.exit 0))) X4)
noncomputable def F22.b3 : IR := F22.g3 F22.b4
noncomputable def F22.g2 (X3 : IR) : IR := (.loop X3)
noncomputable def F22.b2 : IR := F22.g2 F22.b3
noncomputable def F22.g1 (X2 : IR) : IR := (.block 0 X2)
noncomputable def F22.b1 : IR := F22.g1 F22.b2
noncomputable def F22.b26 : IR := (.dreg [] [(.s (.mv (.t (.of 4))), 0, []), (.s (.mv (.t (.of 8))), 0, []), (.s (.iaddr 1 (.s 1) (.s 0)), 0, []), (.s (.load (.s 0)), 0, []), (.s (.mv (.t (.of 9))), 0, []), (.s (.mv (.t (.of 4))), 0, []), (.s (.mv (.t (.of 8))), 0, []), (.s (.iaddr 1 (.s 1) (.s 0)), 0, []), (.s (.load (.s 0)), 0, []), (.s (.mv (.t (.of 9))), 0, []), (.s (.iaddr 1 (.s 1) (.s 0)), 0, []), (.s (.load (.s 0)), 0, []), (.s (.mv (.t (.of 4))), 0, []), (.s (.mv (.t (.of 8))), 0, []), (.s (.bin .sub .int (.s 0) (.c (I 1))), 0, []), (.s (.iaddr 1 (.s 2) (.s 0)), 0, []), (.s (.load (.s 0)), 0, []), (.s (.mv (.t (.of 9))), 0, []), (.s (.mv (.t (.of 7))), 0, []), (.s (.bin .sub .int (.s 1) (.s 0)), 0, []), (.s (.iaddr 1 (.s 3) (.s 0)), 0, []), (.s (.load (.s 0)), 0, []), (.s (.bin .add .int (.s 10) (.s 0)), 0, []), (.s (.iaddr 1 (.s 19) (.s 18)), 0, []), (.w .none none (.store 1 (.s 0) (.s 1)), 0, [])])
noncomputable def F22.g25 (X26 : IR) : IR := (.block 7 X26)
noncomputable def F22.b25 : IR := F22.g25 F22.b26
noncomputable def F22.b27 : IR := (.reg [.s (.mv (.t (.of 9))), .s (.bin .sub .int (.s 0) (.c (I 1))), .q (.of 9) (.mv (.s 0))])
noncomputable def F22.g24 (X25 X27 : IR) : IR := (.seq X25 X27)
noncomputable def F22.b24 : IR := F22.g24 F22.b25 F22.b27
noncomputable def F22.g23 (X24 : IR) : IR := (.seq (.seq (.reg [.s (.mv (.t (.of 9))), .s (.mv (.t (.of 7))), .q (.of 13) (.bin .geq .int (.s 1) (.s 0))]) (.cond (.t (.of 13)) .skip (.exit 6))) X24)
noncomputable def F22.b23 : IR := F22.g23 F22.b24
noncomputable def F22.g22 (X23 : IR) : IR := (.loop X23)
noncomputable def F22.b22 : IR := F22.g22 F22.b23
noncomputable def F22.g21 (X22 : IR) : IR := (.block 6 X22)
noncomputable def F22.b21 : IR := F22.g21 F22.b22
noncomputable def F22.g20 (X21 : IR) : IR := (.seq (.reg [.s (.mv (.t (.of 5))), .q (.of 9) (.mv (.s 0))]) X21)
noncomputable def F22.b20 : IR := F22.g20 F22.b21
noncomputable def F22.g19 (X20 : IR) : IR := (.block 5 X20)
noncomputable def F22.b19 : IR := F22.g19 F22.b20
noncomputable def F22.b28 : IR := (.reg [.s (.mv (.t (.of 8))), .s (.bin .sub .int (.s 0) (.c (I 1))), .q (.of 8) (.mv (.s 0))])
noncomputable def F22.g18 (X19 X28 : IR) : IR := (.seq X19 X28)
noncomputable def F22.b18 : IR := F22.g18 F22.b19 F22.b28
noncomputable def F22.g17 (X18 : IR) : IR := (.seq (.seq (.reg [.s (.mv (.t (.of 8))), .q (.of 12) (.bin .geq .int (.s 0) (.c (I 1)))]) (.cond (.t (.of 12)) .skip (.exit 4))) X18)
noncomputable def F22.b17 : IR := F22.g17 F22.b18
noncomputable def F22.g16 (X17 : IR) : IR := (.loop X17)
noncomputable def F22.b16 : IR := F22.g16 F22.b17
noncomputable def F22.g15 (X16 : IR) : IR := (.block 4 X16)
noncomputable def F22.b15 : IR := F22.g15 F22.b16
noncomputable def F22.g14 (X15 : IR) : IR := (.seq (.reg [.s (.mv (.t (.of 1))), .q (.of 8) (.mv (.s 0))]) X15)
noncomputable def F22.b14 : IR := F22.g14 F22.b15
noncomputable def F22.g13 (X14 : IR) : IR := (.block 3 X14)
noncomputable def F22.b13 : IR := F22.g13 F22.b14
noncomputable def F22.b29 : IR := (.reg [.s (.mv (.t (.of 7))), .s (.bin .add .int (.s 0) (.c (I 1))), .q (.of 7) (.mv (.s 0))])
noncomputable def F22.g12 (X13 X29 : IR) : IR := (.seq X13 X29)
noncomputable def F22.b12 : IR := F22.g12 F22.b13 F22.b29
noncomputable def F22.g11 (X12 : IR) : IR := (.seq (.seq (.reg [.s (.mv (.t (.of 7))), .s (.mv (.t (.of 0))), .q (.of 11) (.bin .leq .int (.s 1) (.s 0))]) (.cond (.t (.of 11)) .skip (.exit 2))) X12)
noncomputable def F22.b11 : IR := F22.g11 F22.b12
noncomputable def F22.g10 (X11 : IR) : IR := (.loop X11)
noncomputable def F22.b10 : IR := F22.g10 F22.b11
noncomputable def F22.g9 (X10 : IR) : IR := (.block 2 X10)
noncomputable def F22.b9 : IR := F22.g9 F22.b10
noncomputable def F22.b31 : IR := (.seq (.reg [.s (.mv (.t (.of 4))), .s (.mv (.t (.of 1))), .s (.iaddr 1 (.s 1) (.s 0)), .s (.load (.s 0)), .s (.mv (.t (.of 2))), .s (.iaddr 1 (.s 1) (.s 0)), .s (.load (.s 0)), .q (.of 3) (.mv (.s 0))]) .ret)
noncomputable def F22.g30 (X31 : IR) : IR := (.seq (.seq (.reg [.s (.mv (.t (.of 2))), .s (.bin .lss .int (.s 0) (.c (I 0))), .s (.mv (.s 0)), .p .push (some ((.s 0), false)) (.mv (.t (.of 2))), .p .push (some ((.s 1), false)) (.mv (.t (.of 5))), .p .push (some ((.s 2), false)) (.bin .gtr .int (.s 1) (.s 0)), .q (.of 14) (.pick (.s 3) (.c (.bool true)) (.s 0))]) (.cond (.t (.of 14)) (.seq (.reg [.q (.of 3) (.mv (.c (I 0)))]) .ret) .skip)) X31)
noncomputable def F22.b30 : IR := F22.g30 F22.b31
noncomputable def F22.g8 (X9 X30 : IR) : IR := (.seq (.reg [.s (.mv (.t (.of 4))), .s (.iaddr 1 (.s 0) (.c (I 0))), .s (.load (.s 0)), .s (.iaddr 1 (.s 0) (.c (I 0))), .w .none none (.store 1 (.s 0) (.c (I 1)))]) (.seq (.seq (.reg [.q (.of 7) (.mv (.c (I 1)))]) X9) X30))
noncomputable def F22.b8 : IR := F22.g8 F22.b9 F22.b30
noncomputable def F22.g0 (X1 X8 : IR) : IR := (.seq (.reg [.q (.of 3) (.mv (.c (I 0)))]) (.seq (.reg [.s (.mv (.t (.of 1))), .s (.bin .add .int (.s 0) (.c (I 1))), .w .push none (.mkslice 1 24 [.nils] (.s 0) (.s 0)), .q (.of 4) (.mv (.s 0))]) (.seq (.reg [.s (.mv (.t (.of 0))), .s (.mv (.t (.of 0))), .s (.bin .add .int (.s 0) (.c (I 1))), .s (.bin .mul .int (.s 2) (.s 0)), .s (.bin .quo .int (.s 0) (.c (I 2))), .q (.of 5) (.mv (.s 0))]) (.seq (.seq (.reg [.q (.of 6) (.mv (.c (I 0)))]) X1) X8))))
noncomputable def F22.b0 : IR := F22.g0 F22.b1 F22.b8
noncomputable def F22.res : List RV := [.t (.of 3)]
noncomputable def F22 : Fn := { params := [(.of 0), (.of 1), (.of 2)], res := F22.res, body := F22.b0, init := F22.fr .undef .undef .undef .undef .undef .undef .undef .undef .undef .undef .undef .undef .undef .undef .undef }
theorem F22.ok : fnA Tryz.prog Tryz.f22 [0, 1, 2, 6, 7, 8, 9, 10, 11, 12, 23, 38, 43, 49, 82] = some F22 := by kernel_rfl
/-- talisman/talismanref07.SameTable -/
def F23.fr (x0 x1 x2 x3 x4 x5 x6 : AV) : T AV := (.n (.n (.n .e x3 .e) x1 (.n .e x5 .e)) x0 (.n (.n .e x4 .e) x2 (.n .e x6 .e)))
noncomputable def F23.b7 : IR := (.seq (.dreg [] [(.s (.mv (.t (.of 0))), 0, []), (.s (.mv (.t (.of 3))), 0, []), (.s (.iaddr 1 (.s 1) (.s 0)), 0, []), (.s (.load (.s 0)), 0, []), (.s (.mv (.t (.of 1))), 0, []), (.s (.mv (.t (.of 3))), 0, []), (.s (.iaddr 1 (.s 1) (.s 0)), 0, []), (.s (.load (.s 0)), 0, []), (.w .push none (.call (.c (.fn 35 (.of 35) [])) [(.s 4), (.s 0)]), 0, []), (.q (.of 6) (.not (.s 0)), 0, [])]) (.cond (.t (.of 6)) (.seq (.reg [.q (.of 2) (.mv (.c (.bool false)))]) .ret) .skip))
noncomputable def F23.g6 (X7 : IR) : IR := (.block 1 X7)
noncomputable def F23.b6 : IR := F23.g6 F23.b7
noncomputable def F23.b8 : IR := (.reg [.s (.mv (.t (.of 3))), .s (.bin .add .int (.s 0) (.c (I 1))), .q (.of 3) (.mv (.s 0))])
noncomputable def F23.g5 (X6 X8 : IR) : IR := (.seq X6 X8)
noncomputable def F23.b5 : IR := F23.g5 F23.b6 F23.b8
noncomputable def F23.g4 (X5 : IR) : IR := (.seq (.seq (.reg [.s (.mv (.t (.of 3))), .s (.mv (.t (.of 0))), .s (.len (.s 0)), .q (.of 5) (.bin .lss .int (.s 2) (.s 0))]) (.cond (.t (.of 5)) .skip (.exit 0))) X5)
noncomputable def F23.b4 : IR := F23.g4 F23.b5
noncomputable def F23.g3 (X4 : IR) : IR := (.loop X4)
noncomputable def F23.b3 : IR := F23.g3 F23.b4
noncomputable def F23.g2 (X3 : IR) : IR := (.block 0 X3)
noncomputable def F23.b2 : IR := F23.g2 F23.b3
noncomputable def F23.b9 : IR := (.seq (.reg [.q (.of 2) (.mv (.c (.bool true)))]) .ret)
noncomputable def F23.g1 (X2 X9 : IR) : IR := (.seq (.seq (.reg [.q (.of 3) (.mv (.c (I 0)))]) X2) X9)
noncomputable def F23.b1 : IR := F23.g1 F23.b2 F23.b9
noncomputable def F23.g0 (X1 : IR) : IR := (.seq (.reg [.q (.of 2) (.mv (.c (.bool false)))]) (.seq (.seq (.reg [.s (.mv (.t (.of 0))), .s (.len (.s 0)), .s (.mv (.t (.of 1))), .s (.len (.s 0)), .q (.of 4) (.bin .neq .int (.s 2) (.s 0))]) (.cond (.t (.of 4)) (.seq (.reg [.q (.of 2) (.mv (.c (.bool false)))]) .ret) .skip)) X1))
noncomputable def F23.b0 : IR := F23.g0 F23.b1
noncomputable def F23.res : List RV := [.t (.of 2)]
noncomputable def F23 : Fn := { params := [(.of 0), (.of 1)], res := F23.res, body := F23.b0, init := F23.fr .undef .undef .undef .undef .undef .undef .undef }
theorem F23.ok : fnA Tryz.prog Tryz.f23 [0, 1, 4, 5, 10, 14, 26] = some F23 := by kernel_rfl
/-- talisman/talismanref07.Sets -/
def F24.fr (x0 x1 x2 x3 x4 x5 x6 x7 x8 x9 x10 : AV) : T AV := (.n (.n (.n (.n .e x7 .e) x3 .e) x1 (.n (.n .e x9 .e) x5 .e)) x0 (.n (.n (.n .e x8 .e) x4 .e) x2 (.n (.n .e x10 .e) x6 .e)))
noncomputable def F24.b1 : IR := (.seq (.reg [.q (.of 5) (.mv (.c .nils))]) .ret)
noncomputable def F24.b8 : IR := (.reg [.s (.mv (.t (.of 6))), .w .push none (.bslice 1 0 [(I 0)] []), .s (.mv (.t (.of 0))), .w .push none (.app 1 8 (.s 1) (.s 0)), .s (.mv (.t (.of 7))), .w .push none (.bslice 1 1 [(I 0)] [(0, 1, (.s 0))]), .w .push none (.app 1 8 (.s 2) (.s 0)), .s (.mv (.t (.of 7))), .s (.bin .add .int (.s 0) (.c (I 1))), .s (.mv (.t (.of 2))), .s (.mv (.t (.of 3))), .s (.bin .sub .int (.s 0) (.c (I 1))), .s (.mv (.t (.of 4))), .s (.mv (.t (.of 7))), .s (.bin .sub .int (.s 1) (.s 0)), .w .push none (.call (.c (.fn 24 (.of 24) [])) [(.s 8), (.s 6), (.s 5), (.s 3), (.s 0)]), .w .push none (.app 1 24 (.s 15) (.s 0)), .q (.of 6) (.mv (.s 0))])
noncomputable def F24.g7 (X8 : IR) : IR := (.block 1 X8)
noncomputable def F24.b7 : IR := F24.g7 F24.b8
noncomputable def F24.b9 : IR := (.reg [.s (.mv (.t (.of 7))), .s (.bin .add .int (.s 0) (.c (I 1))), .q (.of 7) (.mv (.s 0))])
noncomputable def F24.g6 (X7 X9 : IR) : IR := (.seq X7 X9)
noncomputable def F24.b6 : IR := F24.g6 F24.b7 F24.b9
noncomputable def F24.g5 (X6 : IR) : IR := (.seq (.seq (.reg [.s (.mv (.t (.of 7))), .s (.mv (.t (.of 2))), .s (.bin .leq .int (.s 1) (.s 0)), .s (.mv (.s 0)), .p .push (some ((.s 0), true)) (.mv (.t (.of 3))), .p .push (some ((.s 1), true)) (.mv (.t (.of 7))), .p .push (some ((.s 2), true)) (.bin .mul .int (.s 1) (.s 0)), .p .push (some ((.s 3), true)) (.mv (.t (.of 3))), .p .push (some ((.s 4), true)) (.mv (.t (.of 3))), .p .push (some ((.s 5), true)) (.bin .sub .int (.s 0) (.c (I 1))), .p .push (some ((.s 6), true)) (.bin .mul .int (.s 2) (.s 0)), .p .push (some ((.s 7), true)) (.bin .quo .int (.s 0) (.c (I 2))), .p .push (some ((.s 8), true)) (.bin .add .int (.s 5) (.s 0)), .p .push (some ((.s 9), true)) (.mv (.t (.of 4))), .p .push (some ((.s 10), true)) (.bin .leq .int (.s 1) (.s 0)), .q (.of 10) (.pick (.s 11) (.s 0) (.c (.bool false)))]) (.cond (.t (.of 10)) .skip (.exit 0))) X6)
noncomputable def F24.b5 : IR := F24.g5 F24.b6
noncomputable def F24.g4 (X5 : IR) : IR := (.loop X5)
noncomputable def F24.b4 : IR := F24.g4 F24.b5
noncomputable def F24.g3 (X4 : IR) : IR := (.block 0 X4)
noncomputable def F24.b3 : IR := F24.g3 F24.b4
noncomputable def F24.b10 : IR := (.seq (.reg [.s (.mv (.t (.of 6))), .q (.of 5) (.mv (.s 0))]) .ret)
noncomputable def F24.g2 (X3 X10 : IR) : IR := (.seq (.reg [.q (.of 6) (.mv (.c .nils))]) (.seq (.seq (.reg [.s (.mv (.t (.of 1))), .q (.of 7) (.mv (.s 0))]) X3) X10))
noncomputable def F24.b2 : IR := F24.g2 F24.b3 F24.b10
noncomputable def F24.g0 (X1 X2 : IR) : IR := (.seq (.reg [.q (.of 5) (.mv (.c .nils))]) (.seq (.seq (.reg [.s (.mv (.t (.of 3))), .q (.of 8) (.bin .eql .int (.s 0) (.c (I 0)))]) (.cond (.t (.of 8)) (.seq (.seq (.reg [.s (.mv (.t (.of 4))), .q (.of 9) (.bin .eql .int (.s 0) (.c (I 0)))]) (.cond (.t (.of 9)) (.seq (.reg [.w .push none (.bslice 1 0 [(I 0)] []), .s (.mv (.t (.of 0))), .w .push none (.app 1 8 (.s 1) (.s 0)), .w .push none (.bslice 1 1 [.nils] [(0, 1, (.s 0))]), .q (.of 5) (.mv (.s 0))]) .ret) .skip)) X1) .skip)) X2))
noncomputable def F24.b0 : IR := F24.g0 F24.b1 F24.b2
noncomputable def F24.res : List RV := [.t (.of 5)]
noncomputable def F24 : Fn := { params := [(.of 0), (.of 1), (.of 2), (.of 3), (.of 4)], res := F24.res, body := F24.b0, init := F24.fr .undef .undef .undef .undef .undef .undef .undef .undef .undef .undef .undef }
theorem F24.ok : fnA Tryz.prog Tryz.f24 [0, 1, 2, 3, 4, 10, 11, 12, 14, 16, 37] = some F24 := by kernel_rfl
/-- talisman/count.Bounds -/
def F26.fr (x0 x1 x2 x3 x4 x5 x6 x7 x8 : AV) : T AV := (.n (.n (.n (.n .e x7 .e) x3 .e) x1 (.n .e x5 .e)) x0 (.n (.n (.n .e x8 .e) x4 .e) x2 (.n .e x6 .e)))
noncomputable def F26.b1 : IR := (.seq (.reg [.s (.loadN 2 (.t (.of 1))), .w .push none (.call (.c (.fn 83 (.of 83) [])) [(.s 0)]), .s (.mv (.s 0)), .s (.ext 0 (.s 0)), .s (.ext 1 (.s 1)), .q (.of 6) (.mv (.s 1)), .q (.of 7) (.mv (.s 0))]) (.seq (.reg [.s (.mv (.t (.of 6))), .s (.mv (.t (.of 7))), .q (.of 2) (.mv (.s 1)), .q (.of 3) (.mv (.s 0)), .q (.of 4) (.mv (.c (I 0)))]) .ret))
noncomputable def F26.g0 (X1 : IR) : IR := (.seq (.reg [.w (.loc (.of 1)) none (.box (.t (.of 0))), .q (.of 2) (.mv (.c (I 0))), .q (.of 3) (.mv (.c (I 0))), .q (.of 4) (.mv (.c (I 0)))]) (.seq (.seq (.dreg [] [(.s (.loadN 2 (.t (.of 1))), 0, []), (.s (.faddr 1 (.t (.of 1))), 1, []), (.s (.load (.s 0)), 1, []), (.s (.len (.s 0)), 1, []), (.s (.bin .eql .int (.s 0) (.c (I 0))), 1, []), (.w .push none (.call (.c (.fn 81 (.of 81) [])) [(.s 4)]), 0, []), (.w .push none (.call (.c (.fn 82 (.of 82) [])) [(.s 1), (.c (I 12))]), 0, []), (.w .push none (.bslice 1 2 [(I 0)] [(0, 1, (.s 1)), (1, 1, (.s 0))]), 0, []), (.w .push none (.call (.c (.fn 80 (.of 80) [])) [(.s 0)]), 0, []), (.q (.of 5) (.mv (.s 0)), 0, [])]) (.seq (.reg [.s (.mv (.t (.of 5))), .q (.of 8) (.bin .neq .int (.s 0) (.c (I 0)))]) (.cond (.t (.of 8)) (.seq (.reg [.s (.mv (.t (.of 5))), .q (.of 2) (.mv (.c (I 0))), .q (.of 3) (.mv (.c (I 0))), .q (.of 4) (.mv (.s 0))]) .ret) .skip))) X1))
noncomputable def F26.b0 : IR := F26.g0 F26.b1
noncomputable def F26.res : List RV := [.t (.of 2), .t (.of 3), .t (.of 4)]
noncomputable def F26 : Fn := { params := [(.of 0)], res := F26.res, body := F26.b0, init := F26.fr .undef .undef .undef .undef .undef .undef .undef .undef .undef }
theorem F26.ok : fnA Tryz.prog Tryz.f26 [0, 1, 2, 3, 4, 5, 6, 7, 18] = some F26 := by kernel_rfl
/-- talisman/count.Bounded -/
def F31.fr (x0 x1 x2 x3 x4 x5 x6 x7 x8 x9 x10 x11 x12 x13 x14 x15 x16 x17 x18 x19 x20 x21 x22 : AV) : T AV := (.n (.n (.n (.n (.n .e x15 .e) x7 .e) x3 (.n (.n .e x19 .e) x11 .e)) x1 (.n (.n (.n .e x17 .e) x9 .e) x5 (.n (.n .e x21 .e) x13 .e))) x0 (.n (.n (.n (.n .e x16 .e) x8 .e) x4 (.n (.n .e x20 .e) x12 .e)) x2 (.n (.n (.n .e x18 .e) x10 .e) x6 (.n (.n .e x22 .e) x14 .e))))
noncomputable def F31.b15 : IR := (.reg [.s (.mv (.t (.of 13))), .s (.mv (.t (.of 2))), .s (.conv .u8 (.s 0)), .s (.mv (.t (.of 13))), .s (.aaddr 1 128 (.t (.of 10)) (.s 0)), .s (.load (.s 0)), .s (.bin .sub .int (.s 3) (.s 0)), .s (.aaddr 1 128 (.t (.of 12)) (.s 6)), .w .none none (.store 1 (.s 0) (.s 1))])
noncomputable def F31.g14 (X15 : IR) : IR := (.seq (.reg [.s (.mv (.t (.of 20))), .q (.of 13) (.mv (.s 0))]) (.seq (.seq (.reg [.s (.mv (.t (.of 13))), .s (.aaddr 1 128 (.t (.of 10)) (.s 0)), .s (.load (.s 0)), .s (.conv .i64 (.s 0)), .s (.mv (.t (.of 2))), .q (.of 22) (.bin .gtr .int (.s 1) (.s 0))]) (.cond (.t (.of 22)) (.exit 1) .skip)) X15))
noncomputable def F31.b14 : IR := F31.g14 F31.b15
noncomputable def F31.g13 (X14 : IR) : IR := (.block 3 X14)
noncomputable def F31.b13 : IR := F31.g13 F31.b14
noncomputable def F31.b16 : IR := (.reg [.s (.bin .add .int (.t (.of 20)) (.c (I 1))), .q (.of 20) (.mv (.s 0))])
noncomputable def F31.g12 (X13 X16 : IR) : IR := (.seq X13 X16)
noncomputable def F31.b12 : IR := F31.g12 F31.b13 F31.b16
noncomputable def F31.g11 (X12 : IR) : IR := (.seq (.reg [.q (.of 21) (.bin .lss .int (.t (.of 20)) (.t (.of 19)))]) (.seq (.cond (.t (.of 21)) .skip (.exit 2)) X12))
noncomputable def F31.b11 : IR := F31.g11 F31.b12
noncomputable def F31.g10 (X11 : IR) : IR := (.loop X11)
noncomputable def F31.b10 : IR := F31.g10 F31.b11
noncomputable def F31.g9 (X10 : IR) : IR := (.block 2 X10)
noncomputable def F31.b9 : IR := F31.g9 F31.b10
noncomputable def F31.b17 : IR := (.reg [.s (.mv (.t (.of 9))), .s (.mv (.t (.of 11))), .s (.mv (.t (.of 8))), .s (.loadN 128 (.t (.of 12))), .s (.look (.agg 128) (I 0) false (.s 1) (.s 0)), .s (.bin .mul .int (.s 3) (.s 0)), .s (.bin .add .int (.s 5) (.s 0)), .q (.of 9) (.mv (.s 0))])
noncomputable def F31.g8 (X9 X17 : IR) : IR := (.seq (.reg [.s (.entry (.t (.of 17))), .s (.ext 0 (.s 0)), .s (.ext 1 (.s 1)), .w (.loc (.of 10)) none (.alloc [(.int .u8 0), (.int .u8 0), (.int .u8 0), (.int .u8 0), (.int .u8 0), (.int .u8 0), (.int .u8 0), (.int .u8 0), (.int .u8 0), (.int .u8 0), (.int .u8 0), (.int .u8 0), (.int .u8 0), (.int .u8 0), (.int .u8 0), (.int .u8 0), (.int .u8 0), (.int .u8 0), (.int .u8 0), (.int .u8 0), (.int .u8 0), (.int .u8 0), (.int .u8 0), (.int .u8 0), (.int .u8 0), (.int .u8 0), (.int .u8 0), (.int .u8 0), (.int .u8 0), (.int .u8 0), (.int .u8 0), (.int .u8 0), (.int .u8 0), (.int .u8 0), (.int .u8 0), (.int .u8 0), (.int .u8 0), (.int .u8 0), (.int .u8 0), (.int .u8 0), (.int .u8 0), (.int .u8 0), (.int .u8 0), (.int .u8 0), (.int .u8 0), (.int .u8 0), (.int .u8 0), (.int .u8 0), (.int .u8 0), (.int .u8 0), (.int .u8 0), (.int .u8 0), (.int .u8 0), (.int .u8 0), (.int .u8 0), (.int .u8 0), (.int .u8 0), (.int .u8 0), (.int .u8 0), (.int .u8 0), (.int .u8 0), (.int .u8 0), (.int .u8 0), (.int .u8 0), (.int .u8 0), (.int .u8 0), (.int .u8 0), (.int .u8 0), (.int .u8 0), (.int .u8 0), (.int .u8 0), (.int .u8 0), (.int .u8 0), (.int .u8 0), (.int .u8 0), (.int .u8 0), (.int .u8 0), (.int .u8 0), (.int .u8 0), (.int .u8 0), (.int .u8 0), (.int .u8 0), (.int .u8 0), (.int .u8 0), (.int .u8 0), (.int .u8 0), (.int .u8 0), (.int .u8 0), (.int .u8 0), (.int .u8 0), (.int .u8 0), (.int .u8 0), (.int .u8 0), (.int .u8 0), (.int .u8 0), (.int .u8 0), (.int .u8 0), (.int .u8 0), (.int .u8 0), (.int .u8 0), (.int .u8 0), (.int .u8 0), (.int .u8 0), (.int .u8 0), (.int .u8 0), (.int .u8 0), (.int .u8 0), (.int .u8 0), (.int .u8 0), (.int .u8 0), (.int .u8 0), (.int .u8 0), (.int .u8 0), (.int .u8 0), (.int .u8 0), (.int .u8 0), (.int .u8 0), (.int .u8 0), (.int .u8 0), (.int .u8 0), (.int .u8 0), (.int .u8 0), (.int .u8 0), (.int .u8 0), (.int .u8 0), (.int .u8 0), (.int .u8 0), (.int .u8 0)]), .w .none none (.store 128 (.t (.of 10)) (.s 1)), .q (.of 11) (.mv (.s 0))]) (.seq (.reg [.w (.loc (.of 12)) none (.alloc [(.int .u8 0), (.int .u8 0), (.int .u8 0), (.int .u8 0), (.int .u8 0), (.int .u8 0), (.int .u8 0), (.int .u8 0), (.int .u8 0), (.int .u8 0), (.int .u8 0), (.int .u8 0), (.int .u8 0), (.int .u8 0), (.int .u8 0), (.int .u8 0), (.int .u8 0), (.int .u8 0), (.int .u8 0), (.int .u8 0), (.int .u8 0), (.int .u8 0), (.int .u8 0), (.int .u8 0), (.int .u8 0), (.int .u8 0), (.int .u8 0), (.int .u8 0), (.int .u8 0), (.int .u8 0), (.int .u8 0), (.int .u8 0), (.int .u8 0), (.int .u8 0), (.int .u8 0), (.int .u8 0), (.int .u8 0), (.int .u8 0), (.int .u8 0), (.int .u8 0), (.int .u8 0), (.int .u8 0), (.int .u8 0), (.int .u8 0), (.int .u8 0), (.int .u8 0), (.int .u8 0), (.int .u8 0), (.int .u8 0), (.int .u8 0), (.int .u8 0), (.int .u8 0), (.int .u8 0), (.int .u8 0), (.int .u8 0), (.int .u8 0), (.int .u8 0), (.int .u8 0), (.int .u8 0), (.int .u8 0), (.int .u8 0), (.int .u8 0), (.int .u8 0), (.int .u8 0), (.int .u8 0), (.int .u8 0), (.int .u8 0), (.int .u8 0), (.int .u8 0), (.int .u8 0), (.int .u8 0), (.int .u8 0), (.int .u8 0), (.int .u8 0), (.int .u8 0), (.int .u8 0), (.int .u8 0), (.int .u8 0), (.int .u8 0), (.int .u8 0), (.int .u8 0), (.int .u8 0), (.int .u8 0), (.int .u8 0), (.int .u8 0), (.int .u8 0), (.int .u8 0), (.int .u8 0), (.int .u8 0), (.int .u8 0), (.int .u8 0), (.int .u8 0), (.int .u8 0), (.int .u8 0), (.int .u8 0), (.int .u8 0), (.int .u8 0), (.int .u8 0), (.int .u8 0), (.int .u8 0), (.int .u8 0), (.int .u8 0), (.int .u8 0), (.int .u8 0), (.int .u8 0), (.int .u8 0), (.int .u8 0), (.int .u8 0), (.int .u8 0), (.int .u8 0), (.int .u8 0), (.int .u8 0), (.int .u8 0), (.int .u8 0), (.int .u8 0), (.int .u8 0), (.int .u8 0), (.int .u8 0), (.int .u8 0), (.int .u8 0), (.int .u8 0), (.int .u8 0), (.int .u8 0), (.int .u8 0), (.int .u8 0), (.int .u8 0), (.int .u8 0), (.int .u8 0)])]) (.seq (.seq (.reg [.s (.faddr 1 (.t (.of 3))), .s (.load (.s 0)), .q (.of 19) (.len (.s 0)), .q (.of 20) (.mv (.c (I 0)))]) X9) X17)))
noncomputable def F31.b8 : IR := F31.g8 F31.b9 F31.b17
noncomputable def F31.g7 (X8 : IR) : IR := (.block 1 X8)
noncomputable def F31.b7 : IR := F31.g7 F31.b8
noncomputable def F31.g6 (X7 : IR) : IR := (.seq (.reg [.w .push none (.next (.t (.of 17))), .q (.of 18) (.ext 0 (.s 0))]) (.seq (.cond (.t (.of 18)) .skip (.exit 0)) X7))
noncomputable def F31.b6 : IR := F31.g6 F31.b7
noncomputable def F31.g5 (X6 : IR) : IR := (.loop X6)
noncomputable def F31.b5 : IR := F31.g5 F31.b6
noncomputable def F31.g4 (X5 : IR) : IR := (.block 0 X5)
noncomputable def F31.b4 : IR := F31.g4 F31.b5
noncomputable def F31.b18 : IR := (.seq (.reg [.s (.mv (.t (.of 9))), .q (.of 4) (.mv (.s 0)), .q (.of 5) (.mv (.c (I 0)))]) .ret)
noncomputable def F31.g3 (X4 X18 : IR) : IR := (.seq (.reg [.s (.loadN 2 (.t (.of 3))), .s (.mv (.t (.of 7))), .s (.faddr 0 (.t (.of 3))), .s (.load (.s 0)), .s (.mv (.t (.of 1))), .w .push none (.call (.c (.fn 89 (.of 89) [])) [(.s 4), (.s 3), (.s 1), (.s 0)]), .q (.of 8) (.mv (.s 0))]) (.seq (.reg [.q (.of 9) (.mv (.c (I 0)))]) (.seq .skip (.seq (.seq (.reg [.s (.loadN 2 (.t (.of 3))), .s (.mv (.t (.of 7))), .s (.mv (.t (.of 1))), .w .push none (.call (.c (.fn 89 (.of 89) [])) [(.s 2), (.c (I 0)), (.s 1), (.s 0)]), .w (.loc (.of 17)) none (.range (.s 0))]) X4) X18))))
noncomputable def F31.b3 : IR := F31.g3 F31.b4 F31.b18
noncomputable def F31.g2 (X3 : IR) : IR := (.seq (.seq (.reg [.s (.faddr 1 (.t (.of 3))), .s (.load (.s 0)), .s (.len (.s 0)), .s (.bin .gtr .int (.s 0) (.c (I 0))), .s (.mv (.s 0)), .p .push (some ((.s 0), true)) (.mv (.t (.of 2))), .p .push (some ((.s 1), true)) (.bin .lss .int (.s 0) (.c (I 0))), .p .push (some ((.s 2), true)) (.mv (.s 0)), .p .push (some ((.s 0), false)) (.mv (.t (.of 2))), .p .push (some ((.s 1), false)) (.bin .gtr .int (.s 0) (.c (I 255))), .p .push (some ((.s 5), true)) (.pick (.s 2) (.c (.bool true)) (.s 0)), .q (.of 16) (.pick (.s 6) (.s 0) (.c (.bool false)))]) (.cond (.t (.of 16)) (.seq (.reg [.q (.of 4) (.mv (.c (I 0))), .q (.of 5) (.mv (.c (I 0)))]) .ret) .skip)) X3)
noncomputable def F31.b2 : IR := F31.g2 F31.b3
noncomputable def F31.g1 (X2 : IR) : IR := (.seq (.reg [.s (.faddr 0 (.t (.of 3))), .s (.load (.s 0)), .s (.bin .quo .int (.s 0) (.c (I 2))), .q (.of 7) (.mv (.s 0))]) (.seq (.seq (.reg [.s (.faddr 0 (.t (.of 3))), .s (.load (.s 0)), .s (.mv (.t (.of 7))), .s (.bin .sub .int (.s 1) (.s 0)), .s (.mv (.t (.of 1))), .w (.loc (.of 15)) none (.call (.c (.fn 88 (.of 88) [])) [(.s 1), (.s 0)])]) (.cond (.t (.of 15)) (.seq (.reg [.q (.of 4) (.mv (.c (I 0))), .q (.of 5) (.mv (.c (I 20)))]) .ret) .skip)) X2))
noncomputable def F31.b1 : IR := F31.g1 F31.b2
noncomputable def F31.g0 (X1 : IR) : IR := (.seq (.reg [.w (.loc (.of 3)) none (.box (.t (.of 0))), .q (.of 4) (.mv (.c (I 0))), .q (.of 5) (.mv (.c (I 0)))]) (.seq (.seq (.reg [.s (.loadN 2 (.t (.of 3))), .s (.mv (.t (.of 1))), .w .push none (.call (.c (.fn 87 (.of 87) [])) [(.s 1), (.s 0)]), .q (.of 6) (.mv (.s 0))]) (.seq (.reg [.s (.mv (.t (.of 6))), .q (.of 14) (.bin .neq .int (.s 0) (.c (I 0)))]) (.cond (.t (.of 14)) (.seq (.reg [.s (.mv (.t (.of 6))), .q (.of 4) (.mv (.c (I 0))), .q (.of 5) (.mv (.s 0))]) .ret) .skip))) X1))
noncomputable def F31.b0 : IR := F31.g0 F31.b1
noncomputable def F31.res : List RV := [.t (.of 4), .t (.of 5)]
noncomputable def F31 : Fn := { params := [(.of 0), (.of 1), (.of 2)], res := F31.res, body := F31.b0, init := F31.fr .undef .undef .undef .undef .undef .undef .undef .undef .undef .undef .undef .undef .undef .undef .undef .undef .undef .undef .undef .undef .undef .undef .undef }
theorem F31.ok : fnA Tryz.prog Tryz.f31 [0, 1, 2, 3, 6, 7, 8, 9, 10, 11, 12, 13, 14, 15, 20, 30, 42, 53, 55, 61, 62, 63, 70] = some F31 := by kernel_rfl
/-- talisman/count.Halves -/
def F33.fr (x0 x1 x2 x3 x4 x5 x6 x7 x8 x9 x10 x11 x12 x13 x14 x15 x16 x17 x18 x19 x20 x21 x22 x23 x24 x25 x26 x27 x28 x29 x30 x31 x32 : AV) : T AV := (.n (.n (.n (.n (.n (.n .e x31 .e) x15 .e) x7 (.n .e x23 .e)) x3 (.n (.n .e x19 .e) x11 (.n .e x27 .e))) x1 (.n (.n (.n .e x17 .e) x9 (.n .e x25 .e)) x5 (.n (.n .e x21 .e) x13 (.n .e x29 .e)))) x0 (.n (.n (.n (.n (.n .e x32 .e) x16 .e) x8 (.n .e x24 .e)) x4 (.n (.n .e x20 .e) x12 (.n .e x28 .e))) x2 (.n (.n (.n .e x18 .e) x10 (.n .e x26 .e)) x6 (.n (.n .e x22 .e) x14 (.n .e x30 .e)))))
noncomputable def F33.b13 : IR := (.seq (.reg [.s (.mv (.t (.of 23))), .q (.of 12) (.mv (.s 0))]) (.reg [.s (.mv (.t (.of 11))), .s (.mv (.t (.of 12))), .s (.mv (.t (.of 12))), .s (.aaddr 1 128 (.t (.of 10)) (.s 0)), .s (.load (.s 0)), .s (.conv .i64 (.s 0)), .s (.iaddr 1 (.s 5) (.s 4)), .w .none none (.store 1 (.s 0) (.s 1))]))
noncomputable def F33.g12 (X13 : IR) : IR := (.block 3 X13)
noncomputable def F33.b12 : IR := F33.g12 F33.b13
noncomputable def F33.b14 : IR := (.reg [.s (.bin .add .int (.t (.of 23)) (.c (I 1))), .q (.of 23) (.mv (.s 0))])
noncomputable def F33.g11 (X12 X14 : IR) : IR := (.seq X12 X14)
noncomputable def F33.b11 : IR := F33.g11 F33.b12 F33.b14
noncomputable def F33.g10 (X11 : IR) : IR := (.seq (.reg [.q (.of 24) (.bin .lss .int (.t (.of 23)) (.t (.of 22)))]) (.seq (.cond (.t (.of 24)) .skip (.exit 2)) X11))
noncomputable def F33.b10 : IR := F33.g10 F33.b11
noncomputable def F33.g9 (X10 : IR) : IR := (.loop X10)
noncomputable def F33.b9 : IR := F33.g9 F33.b10
noncomputable def F33.g8 (X9 : IR) : IR := (.block 2 X9)
noncomputable def F33.b8 : IR := F33.g8 F33.b9
noncomputable def F33.b15 : IR := (.reg [.s (.mv (.t (.of 9))), .s (.mv (.t (.of 11))), .w .push none (.bslice 1 1 [.nils] [(0, 1, (.s 0))]), .w .push none (.app 1 24 (.s 2) (.s 0)), .q (.of 9) (.mv (.s 0))])
noncomputable def F33.g7 (X8 X15 : IR) : IR := (.seq (.reg [.s (.entry (.t (.of 20))), .s (.ext 0 (.s 0)), .w (.loc (.of 10)) none (.alloc [(.int .u8 0), (.int .u8 0), (.int .u8 0), (.int .u8 0), (.int .u8 0), (.int .u8 0), (.int .u8 0), (.int .u8 0), (.int .u8 0), (.int .u8 0), (.int .u8 0), (.int .u8 0), (.int .u8 0), (.int .u8 0), (.int .u8 0), (.int .u8 0), (.int .u8 0), (.int .u8 0), (.int .u8 0), (.int .u8 0), (.int .u8 0), (.int .u8 0), (.int .u8 0), (.int .u8 0), (.int .u8 0), (.int .u8 0), (.int .u8 0), (.int .u8 0), (.int .u8 0), (.int .u8 0), (.int .u8 0), (.int .u8 0), (.int .u8 0), (.int .u8 0), (.int .u8 0), (.int .u8 0), (.int .u8 0), (.int .u8 0), (.int .u8 0), (.int .u8 0), (.int .u8 0), (.int .u8 0), (.int .u8 0), (.int .u8 0), (.int .u8 0), (.int .u8 0), (.int .u8 0), (.int .u8 0), (.int .u8 0), (.int .u8 0), (.int .u8 0), (.int .u8 0), (.int .u8 0), (.int .u8 0), (.int .u8 0), (.int .u8 0), (.int .u8 0), (.int .u8 0), (.int .u8 0), (.int .u8 0), (.int .u8 0), (.int .u8 0), (.int .u8 0), (.int .u8 0), (.int .u8 0), (.int .u8 0), (.int .u8 0), (.int .u8 0), (.int .u8 0), (.int .u8 0), (.int .u8 0), (.int .u8 0), (.int .u8 0), (.int .u8 0), (.int .u8 0), (.int .u8 0), (.int .u8 0), (.int .u8 0), (.int .u8 0), (.int .u8 0), (.int .u8 0), (.int .u8 0), (.int .u8 0), (.int .u8 0), (.int .u8 0), (.int .u8 0), (.int .u8 0), (.int .u8 0), (.int .u8 0), (.int .u8 0), (.int .u8 0), (.int .u8 0), (.int .u8 0), (.int .u8 0), (.int .u8 0), (.int .u8 0), (.int .u8 0), (.int .u8 0), (.int .u8 0), (.int .u8 0), (.int .u8 0), (.int .u8 0), (.int .u8 0), (.int .u8 0), (.int .u8 0), (.int .u8 0), (.int .u8 0), (.int .u8 0), (.int .u8 0), (.int .u8 0), (.int .u8 0), (.int .u8 0), (.int .u8 0), (.int .u8 0), (.int .u8 0), (.int .u8 0), (.int .u8 0), (.int .u8 0), (.int .u8 0), (.int .u8 0), (.int .u8 0), (.int .u8 0), (.int .u8 0), (.int .u8 0), (.int .u8 0), (.int .u8 0), (.int .u8 0), (.int .u8 0)]), .w .none none (.store 128 (.t (.of 10)) (.s 0))]) (.seq (.reg [.s (.faddr 1 (.t (.of 3))), .s (.load (.s 0)), .s (.len (.s 0)), .w .push none (.mkslice 1 8 [(I 0)] (.s 0) (.s 0)), .q (.of 11) (.mv (.s 0))]) (.seq (.seq (.reg [.s (.mv (.t (.of 11))), .q (.of 22) (.len (.s 0)), .q (.of 23) (.mv (.c (I 0)))]) X8) X15)))
noncomputable def F33.b7 : IR := F33.g7 F33.b8 F33.b15
noncomputable def F33.g6 (X7 : IR) : IR := (.block 1 X7)
noncomputable def F33.b6 : IR := F33.g6 F33.b7
noncomputable def F33.g5 (X6 : IR) : IR := (.seq (.reg [.w .push none (.next (.t (.of 20))), .q (.of 21) (.ext 0 (.s 0))]) (.seq (.cond (.t (.of 21)) .skip (.exit 0)) X6))
noncomputable def F33.b5 : IR := F33.g5 F33.b6
noncomputable def F33.g4 (X5 : IR) : IR := (.loop X5)
noncomputable def F33.b4 : IR := F33.g4 F33.b5
noncomputable def F33.g3 (X4 : IR) : IR := (.block 0 X4)
noncomputable def F33.b3 : IR := F33.g3 F33.b4
noncomputable def F33.b28 : IR := (.seq (.reg [.s (.mv (.t (.of 31))), .s (.iaddr 1 (.t (.of 29)) (.t (.of 31))), .s (.load (.s 0)), .q (.of 16) (.mv (.s 2)), .q (.of 17) (.mv (.s 0))]) (.reg [.s (.mv (.t (.of 16))), .s (.mv (.t (.of 17))), .s (.conv .u8 (.s 0)), .s (.aaddr 1 128 (.t (.of 15)) (.s 2)), .w .none none (.store 1 (.s 0) (.s 1))]))
noncomputable def F33.g27 (X28 : IR) : IR := (.block 7 X28)
noncomputable def F33.b27 : IR := F33.g27 F33.b28
noncomputable def F33.b29 : IR := (.reg [.s (.bin .add .int (.t (.of 31)) (.c (I 1))), .q (.of 31) (.mv (.s 0))])
noncomputable def F33.g26 (X27 X29 : IR) : IR := (.seq X27 X29)
noncomputable def F33.b26 : IR := F33.g26 F33.b27 F33.b29
noncomputable def F33.g25 (X26 : IR) : IR := (.seq (.reg [.q (.of 32) (.bin .lss .int (.t (.of 31)) (.t (.of 30)))]) (.seq (.cond (.t (.of 32)) .skip (.exit 6)) X26))
noncomputable def F33.b25 : IR := F33.g25 F33.b26
noncomputable def F33.g24 (X25 : IR) : IR := (.loop X25)
noncomputable def F33.b24 : IR := F33.g24 F33.b25
noncomputable def F33.g23 (X24 : IR) : IR := (.block 6 X24)
noncomputable def F33.b23 : IR := F33.g23 F33.b24
noncomputable def F33.b30 : IR := (.reg [.s (.mv (.t (.of 13))), .s (.mv (.t (.of 8))), .s (.loadN 128 (.t (.of 15))), .s (.look (.agg 128) (I 0) false (.s 1) (.s 0)), .w .push none (.bslice 1 1 [(I 0)] [(0, 1, (.s 0))]), .w .push none (.app 1 8 (.s 4) (.s 0)), .q (.of 13) (.mv (.s 0))])
noncomputable def F33.g22 (X23 X30 : IR) : IR := (.seq (.reg [.s (.iaddr 1 (.t (.of 25)) (.t (.of 27))), .s (.load (.s 0)), .q (.of 14) (.mv (.s 0))]) (.seq (.reg [.w (.loc (.of 15)) none (.alloc [(.int .u8 0), (.int .u8 0), (.int .u8 0), (.int .u8 0), (.int .u8 0), (.int .u8 0), (.int .u8 0), (.int .u8 0), (.int .u8 0), (.int .u8 0), (.int .u8 0), (.int .u8 0), (.int .u8 0), (.int .u8 0), (.int .u8 0), (.int .u8 0), (.int .u8 0), (.int .u8 0), (.int .u8 0), (.int .u8 0), (.int .u8 0), (.int .u8 0), (.int .u8 0), (.int .u8 0), (.int .u8 0), (.int .u8 0), (.int .u8 0), (.int .u8 0), (.int .u8 0), (.int .u8 0), (.int .u8 0), (.int .u8 0), (.int .u8 0), (.int .u8 0), (.int .u8 0), (.int .u8 0), (.int .u8 0), (.int .u8 0), (.int .u8 0), (.int .u8 0), (.int .u8 0), (.int .u8 0), (.int .u8 0), (.int .u8 0), (.int .u8 0), (.int .u8 0), (.int .u8 0), (.int .u8 0), (.int .u8 0), (.int .u8 0), (.int .u8 0), (.int .u8 0), (.int .u8 0), (.int .u8 0), (.int .u8 0), (.int .u8 0), (.int .u8 0), (.int .u8 0), (.int .u8 0), (.int .u8 0), (.int .u8 0), (.int .u8 0), (.int .u8 0), (.int .u8 0), (.int .u8 0), (.int .u8 0), (.int .u8 0), (.int .u8 0), (.int .u8 0), (.int .u8 0), (.int .u8 0), (.int .u8 0), (.int .u8 0), (.int .u8 0), (.int .u8 0), (.int .u8 0), (.int .u8 0), (.int .u8 0), (.int .u8 0), (.int .u8 0), (.int .u8 0), (.int .u8 0), (.int .u8 0), (.int .u8 0), (.int .u8 0), (.int .u8 0), (.int .u8 0), (.int .u8 0), (.int .u8 0), (.int .u8 0), (.int .u8 0), (.int .u8 0), (.int .u8 0), (.int .u8 0), (.int .u8 0), (.int .u8 0), (.int .u8 0), (.int .u8 0), (.int .u8 0), (.int .u8 0), (.int .u8 0), (.int .u8 0), (.int .u8 0), (.int .u8 0), (.int .u8 0), (.int .u8 0), (.int .u8 0), (.int .u8 0), (.int .u8 0), (.int .u8 0), (.int .u8 0), (.int .u8 0), (.int .u8 0), (.int .u8 0), (.int .u8 0), (.int .u8 0), (.int .u8 0), (.int .u8 0), (.int .u8 0), (.int .u8 0), (.int .u8 0), (.int .u8 0), (.int .u8 0), (.int .u8 0), (.int .u8 0), (.int .u8 0), (.int .u8 0), (.int .u8 0)])]) (.seq (.seq (.reg [.q (.of 29) (.mv (.t (.of 14))), .q (.of 30) (.len (.t (.of 29))), .q (.of 31) (.mv (.c (I 0)))]) X23) X30)))
noncomputable def F33.b22 : IR := F33.g22 F33.b23 F33.b30
noncomputable def F33.g21 (X22 : IR) : IR := (.block 5 X22)
noncomputable def F33.b21 : IR := F33.g21 F33.b22
noncomputable def F33.b31 : IR := (.reg [.s (.bin .add .int (.t (.of 27)) (.c (I 1))), .q (.of 27) (.mv (.s 0))])
noncomputable def F33.g20 (X21 X31 : IR) : IR := (.seq X21 X31)
noncomputable def F33.b20 : IR := F33.g20 F33.b21 F33.b31
noncomputable def F33.g19 (X20 : IR) : IR := (.seq (.reg [.q (.of 28) (.bin .lss .int (.t (.of 27)) (.t (.of 26)))]) (.seq (.cond (.t (.of 28)) .skip (.exit 4)) X20))
noncomputable def F33.b19 : IR := F33.g19 F33.b20
noncomputable def F33.g18 (X19 : IR) : IR := (.loop X19)
noncomputable def F33.b18 : IR := F33.g18 F33.b19
noncomputable def F33.g17 (X18 : IR) : IR := (.block 4 X18)
noncomputable def F33.b17 : IR := F33.g17 F33.b18
noncomputable def F33.b32 : IR := (.seq (.reg [.s (.mv (.t (.of 9))), .s (.mv (.t (.of 13))), .q (.of 4) (.mv (.s 1)), .q (.of 5) (.mv (.s 0)), .q (.of 6) (.mv (.c (I 0)))]) .ret)
noncomputable def F33.g16 (X17 X32 : IR) : IR := (.seq (.reg [.s (.mv (.t (.of 9))), .w .push none (.call (.c (.fn 91 (.of 91) [])) [(.s 0), (.c (.fn 92 (.of 92) []))])]) (.seq (.reg [.q (.of 13) (.mv (.c .nils))]) (.seq (.seq (.reg [.q (.of 25) (.mv (.t (.of 9))), .q (.of 26) (.len (.t (.of 25))), .q (.of 27) (.mv (.c (I 0)))]) X17) X32)))
noncomputable def F33.b16 : IR := F33.g16 F33.b17 F33.b32
noncomputable def F33.g2 (X3 X16 : IR) : IR := (.seq (.reg [.s (.loadN 2 (.t (.of 3))), .s (.mv (.t (.of 1))), .s (.mv (.t (.of 2))), .w .push none (.call (.c (.fn 89 (.of 89) [])) [(.s 2), (.c (I 0)), (.s 1), (.s 0)]), .q (.of 8) (.mv (.s 0))]) (.seq (.reg [.q (.of 9) (.mv (.c .nils))]) (.seq (.seq (.reg [.s (.mv (.t (.of 8))), .w (.loc (.of 20)) none (.range (.s 0))]) X3) X16)))
noncomputable def F33.b2 : IR := F33.g2 F33.b3 F33.b16
noncomputable def F33.g1 (X2 : IR) : IR := (.seq (.seq (.reg [.s (.mv (.t (.of 1))), .s (.mv (.t (.of 2))), .w (.loc (.of 19)) none (.call (.c (.fn 88 (.of 88) [])) [(.s 1), (.s 0)])]) (.cond (.t (.of 19)) (.seq (.reg [.q (.of 4) (.mv (.c .nils)), .q (.of 5) (.mv (.c .nils)), .q (.of 6) (.mv (.c (I 20)))]) .ret) .skip)) X2)
noncomputable def F33.b1 : IR := F33.g1 F33.b2
noncomputable def F33.g0 (X1 : IR) : IR := (.seq (.reg [.w (.loc (.of 3)) none (.box (.t (.of 0))), .q (.of 4) (.mv (.c .nils)), .q (.of 5) (.mv (.c .nils)), .q (.of 6) (.mv (.c (I 0)))]) (.seq (.seq (.dreg [] [(.s (.loadN 2 (.t (.of 3))), 0, []), (.s (.faddr 0 (.t (.of 3))), 1, []), (.s (.load (.s 0)), 1, []), (.s (.bin .gtr .int (.s 0) (.c (I 16))), 1, []), (.s (.mv (.t (.of 2))), 2, []), (.s (.bin .lss .int (.s 0) (.c (I 0))), 2, []), (.w .push none (.call (.c (.fn 81 (.of 81) [])) [(.s 5)]), 0, []), (.w .push none (.call (.c (.fn 82 (.of 82) [])) [(.s 3), (.c (I 20))]), 0, []), (.s (.mv (.s 2)), 0, []), (.p .push (some ((.s 0), false)) (.mv (.t (.of 2))), 0, []), (.p .push (some ((.s 1), false)) (.bin .gtr .int (.s 0) (.c (I 9))), 0, []), (.s (.pick (.s 2) (.c (.bool true)) (.s 0)), 0, []), (.s (.mv (.s 0)), 0, []), (.p .push (some ((.s 0), false)) (.mv (.t (.of 1))), 0, []), (.p .push (some ((.s 1), false)) (.bin .lss .int (.s 0) (.c (I 0))), 0, []), (.s (.pick (.s 2) (.c (.bool true)) (.s 0)), 0, []), (.s (.mv (.s 0)), 0, []), (.p .push (some ((.s 0), false)) (.mv (.t (.of 1))), 0, []), (.p .push (some ((.s 1), false)) (.faddr 0 (.t (.of 3))), 0, []), (.p .push (some ((.s 2), false)) (.load (.s 0)), 0, []), (.p .push (some ((.s 3), false)) (.bin .gtr .int (.s 2) (.s 0)), 0, []), (.s (.pick (.s 4) (.c (.bool true)) (.s 0)), 0, []), (.w .push none (.call (.c (.fn 82 (.of 82) [])) [(.s 0), (.c (I 3))]), 0, []), (.w .push none (.bslice 1 3 [(I 0)] [(0, 1, (.s 16)), (1, 1, (.s 15)), (2, 1, (.s 0))]), 0, []), (.w .push none (.call (.c (.fn 80 (.of 80) [])) [(.s 0)]), 0, []), (.q (.of 7) (.mv (.s 0)), 0, [])]) (.seq (.reg [.s (.mv (.t (.of 7))), .q (.of 18) (.bin .neq .int (.s 0) (.c (I 0)))]) (.cond (.t (.of 18)) (.seq (.reg [.s (.mv (.t (.of 7))), .q (.of 4) (.mv (.c .nils)), .q (.of 5) (.mv (.c .nils)), .q (.of 6) (.mv (.s 0))]) .ret) .skip))) X1))
noncomputable def F33.b0 : IR := F33.g0 F33.b1
noncomputable def F33.res : List RV := [.t (.of 4), .t (.of 5), .t (.of 6)]
noncomputable def F33 : Fn := { params := [(.of 0), (.of 1), (.of 2)], res := F33.res, body := F33.b0, init := F33.fr .undef .undef .undef .undef .undef .undef .undef .undef .undef .undef .undef .undef .undef .undef .undef .undef .undef .undef .undef .undef .undef .undef .undef .undef .undef .undef .undef .undef .undef .undef .undef .undef .undef }
theorem F33.ok : fnA Tryz.prog Tryz.f33 [0, 1, 2, 3, 6, 7, 8, 9, 10, 11, 12, 13, 14, 15, 17, 18, 19, 20, 47, 51, 57, 59, 67, 68, 69, 85, 86, 87, 88, 91, 92, 93, 94] = some F33 := by kernel_rfl
/-- talisman/talismanref01.SameInts -/
def F35.fr (x0 x1 x2 x3 x4 x5 x6 : AV) : T AV := (.n (.n (.n .e x3 .e) x1 (.n .e x5 .e)) x0 (.n (.n .e x4 .e) x2 (.n .e x6 .e)))
noncomputable def F35.b7 : IR := (.seq (.dreg [] [(.s (.mv (.t (.of 0))), 0, []), (.s (.mv (.t (.of 3))), 0, []), (.s (.iaddr 1 (.s 1) (.s 0)), 0, []), (.s (.load (.s 0)), 0, []), (.s (.mv (.t (.of 1))), 0, []), (.s (.mv (.t (.of 3))), 0, []), (.s (.iaddr 1 (.s 1) (.s 0)), 0, []), (.s (.load (.s 0)), 0, []), (.q (.of 6) (.bin .neq .int (.s 4) (.s 0)), 0, [])]) (.cond (.t (.of 6)) (.seq (.reg [.q (.of 2) (.mv (.c (.bool false)))]) .ret) .skip))
noncomputable def F35.g6 (X7 : IR) : IR := (.block 1 X7)
noncomputable def F35.b6 : IR := F35.g6 F35.b7
noncomputable def F35.b8 : IR := (.reg [.s (.mv (.t (.of 3))), .s (.bin .add .int (.s 0) (.c (I 1))), .q (.of 3) (.mv (.s 0))])
noncomputable def F35.g5 (X6 X8 : IR) : IR := (.seq X6 X8)
noncomputable def F35.b5 : IR := F35.g5 F35.b6 F35.b8
noncomputable def F35.g4 (X5 : IR) : IR := (.seq (.seq (.reg [.s (.mv (.t (.of 3))), .s (.mv (.t (.of 0))), .s (.len (.s 0)), .q (.of 5) (.bin .lss .int (.s 2) (.s 0))]) (.cond (.t (.of 5)) .skip (.exit 0))) X5)
noncomputable def F35.b4 : IR := F35.g4 F35.b5
noncomputable def F35.g3 (X4 : IR) : IR := (.loop X4)
noncomputable def F35.b3 : IR := F35.g3 F35.b4
noncomputable def F35.g2 (X3 : IR) : IR := (.block 0 X3)
noncomputable def F35.b2 : IR := F35.g2 F35.b3
noncomputable def F35.b9 : IR := (.seq (.reg [.q (.of 2) (.mv (.c (.bool true)))]) .ret)
noncomputable def F35.g1 (X2 X9 : IR) : IR := (.seq (.seq (.reg [.q (.of 3) (.mv (.c (I 0)))]) X2) X9)
noncomputable def F35.b1 : IR := F35.g1 F35.b2 F35.b9
noncomputable def F35.g0 (X1 : IR) : IR := (.seq (.reg [.q (.of 2) (.mv (.c (.bool false)))]) (.seq (.seq (.reg [.s (.mv (.t (.of 0))), .s (.len (.s 0)), .s (.mv (.t (.of 1))), .s (.len (.s 0)), .q (.of 4) (.bin .neq .int (.s 2) (.s 0))]) (.cond (.t (.of 4)) (.seq (.reg [.q (.of 2) (.mv (.c (.bool false)))]) .ret) .skip)) X1))
noncomputable def F35.b0 : IR := F35.g0 F35.b1
noncomputable def F35.res : List RV := [.t (.of 2)]
noncomputable def F35 : Fn := { params := [(.of 0), (.of 1)], res := F35.res, body := F35.b0, init := F35.fr .undef .undef .undef .undef .undef .undef .undef }
theorem F35.ok : fnA Tryz.prog Tryz.f35 [0, 1, 4, 5, 10, 14, 25] = some F35 := by kernel_rfl
/-- talisman/count.Key -/
def F36.fr (x0 x1 x2 x3 x4 x5 x6 x7 x8 x9 x10 x11 x12 x13 x14 x15 x16 x17 : AV) : T AV := (.n (.n (.n (.n (.n .e x15 .e) x7 .e) x3 (.n .e x11 .e)) x1 (.n (.n (.n .e x17 .e) x9 .e) x5 (.n .e x13 .e))) x0 (.n (.n (.n (.n .e x16 .e) x8 .e) x4 (.n .e x12 .e)) x2 (.n (.n .e x10 .e) x6 (.n .e x14 .e))))
noncomputable def F36.b8 : IR := (.reg [.s (.mv (.t (.of 7))), .s (.mv (.t (.of 10))), .s (.bin .sub .int (.s 0) (.c (I 1))), .s (.mv (.t (.of 6))), .s (.mv (.t (.of 10))), .s (.bin .sub .int (.s 0) (.c (I 1))), .s (.mv (.t (.of 9))), .s (.iaddr 1 (.s 6) (.s 4)), .w .none none (.store 1 (.s 0) (.c (.bool true))), .s (.iaddr 1 (.s 4) (.s 2)), .w .none none (.store 1 (.s 0) (.s 2))])
noncomputable def F36.g7 (X8 : IR) : IR := (.seq (.reg [.s (.mv (.t (.of 15))), .s (.iaddr 1 (.t (.of 13)) (.t (.of 15))), .s (.load (.s 0)), .q (.of 8) (.mv (.s 2)), .q (.of 9) (.mv (.s 0))]) (.seq (.reg [.s (.mv (.t (.of 1))), .s (.mv (.t (.of 8))), .s (.iaddr 1 (.s 1) (.s 0)), .s (.load (.s 0)), .q (.of 10) (.mv (.s 0))]) (.seq (.seq (.reg [.s (.mv (.t (.of 10))), .s (.bin .lss .int (.s 0) (.c (I 1))), .s (.mv (.s 0)), .p .push (some ((.s 0), false)) (.mv (.t (.of 10))), .p .push (some ((.s 1), false)) (.mv (.t (.of 1))), .p .push (some ((.s 2), false)) (.len (.s 0)), .p .push (some ((.s 3), false)) (.bin .gtr .int (.s 2) (.s 0)), .s (.pick (.s 4) (.c (.bool true)) (.s 0)), .s (.mv (.s 0)), .p .push (some ((.s 0), false)) (.mv (.t (.of 7))), .p .push (some ((.s 1), false)) (.mv (.t (.of 10))), .p .push (some ((.s 2), false)) (.bin .sub .int (.s 0) (.c (I 1))), .p .push (some ((.s 3), false)) (.iaddr 1 (.s 2) (.s 0)), .p .push (some ((.s 4), false)) (.load (.s 0)), .q (.of 17) (.pick (.s 5) (.c (.bool true)) (.s 0))]) (.cond (.t (.of 17)) (.seq (.reg [.q (.of 3) (.mv (.c .nils)), .q (.of 4) (.mv (.c (I 1)))]) .ret) .skip)) X8)))
noncomputable def F36.b7 : IR := F36.g7 F36.b8
noncomputable def F36.g6 (X7 : IR) : IR := (.block 1 X7)
noncomputable def F36.b6 : IR := F36.g6 F36.b7
noncomputable def F36.b9 : IR := (.reg [.s (.bin .add .int (.t (.of 15)) (.c (I 1))), .q (.of 15) (.mv (.s 0))])
noncomputable def F36.g5 (X6 X9 : IR) : IR := (.seq X6 X9)
noncomputable def F36.b5 : IR := F36.g5 F36.b6 F36.b9
noncomputable def F36.g4 (X5 : IR) : IR := (.seq (.reg [.q (.of 16) (.bin .lss .int (.t (.of 15)) (.t (.of 14)))]) (.seq (.cond (.t (.of 16)) .skip (.exit 0)) X5))
noncomputable def F36.b4 : IR := F36.g4 F36.b5
noncomputable def F36.g3 (X4 : IR) : IR := (.loop X4)
noncomputable def F36.b3 : IR := F36.g3 F36.b4
noncomputable def F36.g2 (X3 : IR) : IR := (.block 0 X3)
noncomputable def F36.b2 : IR := F36.g2 F36.b3
noncomputable def F36.b10 : IR := (.seq (.reg [.s (.mv (.t (.of 6))), .w .push none (.call (.c (.fn 79 (.of 79) [])) [(.s 0)]), .q (.of 11) (.mv (.s 0))]) (.seq (.reg [.s (.mv (.t (.of 11))), .w .push none (.call (.c (.fn 96 (.of 96) [])) [(.s 0)])]) (.seq (.reg [.s (.mv (.t (.of 6))), .s (.mv (.t (.of 11))), .w .push none (.bslice 1 2 [.nils] [(0, 1, (.s 1)), (1, 1, (.s 0))]), .w .push none (.call (.c (.fn 97 (.of 97) [])) [(.s 0), (.c (.fn 92 (.of 92) []))]), .q (.of 3) (.mv (.s 0)), .q (.of 4) (.mv (.c (I 0)))]) .ret)))
noncomputable def F36.g1 (X2 X10 : IR) : IR := (.seq (.reg [.s (.mv (.t (.of 1))), .s (.len (.s 0)), .w .push none (.mkslice 1 8 [(I 0)] (.s 0) (.s 0)), .q (.of 6) (.mv (.s 0))]) (.seq (.reg [.s (.mv (.t (.of 1))), .s (.len (.s 0)), .w .push none (.mkslice 1 1 [(.bool false)] (.s 0) (.s 0)), .q (.of 7) (.mv (.s 0))]) (.seq (.seq (.reg [.s (.loadN 2 (.t (.of 2))), .w (.loc (.of 13)) none (.call (.c (.fn 95 (.of 95) [])) [(.s 0)]), .q (.of 14) (.len (.t (.of 13))), .q (.of 15) (.mv (.c (I 0)))]) X2) X10)))
noncomputable def F36.b1 : IR := F36.g1 F36.b2 F36.b10
noncomputable def F36.g0 (X1 : IR) : IR := (.seq (.reg [.w (.loc (.of 2)) none (.box (.t (.of 0))), .q (.of 3) (.mv (.c .nils)), .q (.of 4) (.mv (.c (I 0)))]) (.seq (.seq (.dreg [] [(.s (.loadN 2 (.t (.of 2))), 0, []), (.s (.mv (.t (.of 1))), 1, []), (.s (.len (.s 0)), 1, []), (.s (.faddr 0 (.t (.of 2))), 1, []), (.s (.load (.s 0)), 1, []), (.s (.bin .neq .int (.s 2) (.s 0)), 1, []), (.s (.mv (.t (.of 1))), 2, []), (.w .push none (.call (.c (.fn 81 (.of 81) [])) [(.s 6)]), 0, []), (.w .push none (.call (.c (.fn 82 (.of 82) [])) [(.s 2), (.c (I 2))]), 0, []), (.w .push none (.call (.c (.fn 94 (.of 94) [])) [(.s 2)]), 0, []), (.w .push none (.call (.c (.fn 82 (.of 82) [])) [(.s 0), (.c (I 3))]), 0, []), (.w .push none (.bslice 1 3 [(I 0)] [(0, 1, (.s 3)), (1, 1, (.s 2)), (2, 1, (.s 0))]), 0, []), (.w .push none (.call (.c (.fn 80 (.of 80) [])) [(.s 0)]), 0, []), (.q (.of 5) (.mv (.s 0)), 0, [])]) (.seq (.reg [.s (.mv (.t (.of 5))), .q (.of 12) (.bin .neq .int (.s 0) (.c (I 0)))]) (.cond (.t (.of 12)) (.seq (.reg [.s (.mv (.t (.of 5))), .q (.of 3) (.mv (.c .nils)), .q (.of 4) (.mv (.s 0))]) .ret) .skip))) X1))
noncomputable def F36.b0 : IR := F36.g0 F36.b1
noncomputable def F36.res : List RV := [.t (.of 3), .t (.of 4)]
noncomputable def F36 : Fn := { params := [(.of 0), (.of 1)], res := F36.res, body := F36.b0, init := F36.fr .undef .undef .undef .undef .undef .undef .undef .undef .undef .undef .undef .undef .undef .undef .undef .undef .undef .undef }
theorem F36.ok : fnA Tryz.prog Tryz.f36 [0, 1, 2, 4, 5, 6, 7, 8, 9, 10, 11, 12, 27, 36, 37, 38, 39, 61] = some F36 := by kernel_rfl
/-- talisman/count.AntimagicCount -/
def F40.fr (x0 x1 x2 x3 x4 x5 x6 : AV) : T AV := (.n (.n (.n .e x3 .e) x1 (.n .e x5 .e)) x0 (.n (.n .e x4 .e) x2 (.n .e x6 .e)))
noncomputable def F40.b1 : IR := (.seq (.reg [.w (.loc (.of 5)) none (.alloc [(I 0)]), .w .none none (.store 1 (.t (.of 5)) (.c (I 0)))]) (.seq (.reg [.s (.loadN 2 (.t (.of 1))), .s (.fn 100 (.of 100) [(.t (.of 5))]), .w .push none (.call (.c (.fn 99 (.of 99) [])) [(.s 1), (.s 0)])]) (.seq (.reg [.s (.load (.t (.of 5))), .q (.of 2) (.mv (.s 0)), .q (.of 3) (.mv (.c (I 0)))]) .ret)))
noncomputable def F40.g0 (X1 : IR) : IR := (.seq (.reg [.w (.loc (.of 1)) none (.box (.t (.of 0))), .q (.of 2) (.mv (.c (I 0))), .q (.of 3) (.mv (.c (I 0)))]) (.seq (.seq (.reg [.s (.loadN 2 (.t (.of 1))), .w .push none (.call (.c (.fn 98 (.of 98) [])) [(.s 0)]), .q (.of 4) (.mv (.s 0))]) (.seq (.reg [.s (.mv (.t (.of 4))), .q (.of 6) (.bin .neq .int (.s 0) (.c (I 0)))]) (.cond (.t (.of 6)) (.seq (.reg [.s (.mv (.t (.of 4))), .q (.of 2) (.mv (.c (I 0))), .q (.of 3) (.mv (.s 0))]) .ret) .skip))) X1))
noncomputable def F40.b0 : IR := F40.g0 F40.b1
noncomputable def F40.res : List RV := [.t (.of 2), .t (.of 3)]
noncomputable def F40 : Fn := { params := [(.of 0)], res := F40.res, body := F40.b0, init := F40.fr .undef .undef .undef .undef .undef .undef .undef }
theorem F40.ok : fnA Tryz.prog Tryz.f40 [0, 1, 2, 3, 4, 5, 9] = some F40 := by kernel_rfl
/-- talisman/count.AntimagicFirst -/
def F41.fr (x0 x1 x2 x3 x4 x5 x6 x7 : AV) : T AV := (.n (.n (.n (.n .e x7 .e) x3 .e) x1 (.n .e x5 .e)) x0 (.n (.n .e x4 .e) x2 (.n .e x6 .e)))
noncomputable def F41.b1 : IR := (.seq (.reg [.w (.loc (.of 5)) none (.alloc [(.bool false)]), .w .none none (.store 1 (.t (.of 5)) (.c (.bool false)))]) (.seq (.reg [.w (.loc (.of 6)) none (.alloc [.nils])]) (.seq (.reg [.s (.loadN 2 (.t (.of 1))), .s (.fn 101 (.of 101) [(.t (.of 5)), (.t (.of 6))]), .w .push none (.call (.c (.fn 99 (.of 99) [])) [(.s 1), (.s 0)])]) (.seq (.dreg [] [(.s (.load (.t (.of 6))), 1, []), (.s (.load (.t (.of 5))), 0, []), (.s (.not (.s 0)), 0, []), (.w .push none (.call (.c (.fn 82 (.of 82) [])) [(.s 0), (.c (I 7))]), 0, []), (.q (.of 2) (.mv (.s 3)), 0, []), (.q (.of 3) (.mv (.s 0)), 0, [])]) .ret))))
noncomputable def F41.g0 (X1 : IR) : IR := (.seq (.reg [.w (.loc (.of 1)) none (.box (.t (.of 0))), .q (.of 2) (.mv (.c .nils)), .q (.of 3) (.mv (.c (I 0)))]) (.seq (.seq (.reg [.s (.loadN 2 (.t (.of 1))), .w .push none (.call (.c (.fn 98 (.of 98) [])) [(.s 0)]), .q (.of 4) (.mv (.s 0))]) (.seq (.reg [.s (.mv (.t (.of 4))), .q (.of 7) (.bin .neq .int (.s 0) (.c (I 0)))]) (.cond (.t (.of 7)) (.seq (.reg [.s (.mv (.t (.of 4))), .q (.of 2) (.mv (.c .nils)), .q (.of 3) (.mv (.s 0))]) .ret) .skip))) X1))
noncomputable def F41.b0 : IR := F41.g0 F41.b1
noncomputable def F41.res : List RV := [.t (.of 2), .t (.of 3)]
noncomputable def F41 : Fn := { params := [(.of 0)], res := F41.res, body := F41.b0, init := F41.fr .undef .undef .undef .undef .undef .undef .undef .undef }
theorem F41.ok : fnA Tryz.prog Tryz.f41 [0, 1, 2, 3, 4, 5, 6, 10] = some F41 := by kernel_rfl
/-- talisman/count.Fillings -/
def F52.fr (x0 x1 x2 x3 x4 x5 x6 x7 x8 x9 x10 x11 : AV) : T AV := (.n (.n (.n (.n .e x7 .e) x3 (.n .e x11 .e)) x1 (.n (.n .e x9 .e) x5 .e)) x0 (.n (.n (.n .e x8 .e) x4 .e) x2 (.n (.n .e x10 .e) x6 .e)))
noncomputable def F52.b4 : IR := (.reg [.q (.of 7) (.mv (.t (.of 10)))])
noncomputable def F52.b7 : IR := (.dreg [] [(.s (.load (.t (.of 6))), 2, []), (.s (.mv (.t (.of 7))), 0, []), (.w .push none (.call (.c (.fn 79 (.of 79) [])) [(.s 0)]), 0, []), (.w .push none (.bslice 1 1 [.nils] [(0, 1, (.s 0))]), 0, []), (.w .push none (.app 1 24 (.s 3) (.s 0)), 0, []), (.w .none none (.store 1 (.t (.of 6)) (.s 0)), 0, [])])
noncomputable def F52.g6 (X7 : IR) : IR := (.seq (.seq (.reg [.s (.load (.t (.of 6))), .s (.len (.s 0)), .q (.of 11) (.bin .eql .int (.s 0) (.c (I 1024)))]) (.cond (.t (.of 11)) (.seq (.reg [.w .none none (.store 1 (.t (.of 3)) (.c .nils)), .w .none none (.store 1 (.t (.of 4)) (.c (I 5)))]) .ret) .skip)) X7)
noncomputable def F52.b6 : IR := F52.g6 F52.b7
noncomputable def F52.g5 (X6 : IR) : IR := (.block 1 X6)
noncomputable def F52.b5 : IR := F52.g5 F52.b6
noncomputable def F52.g3 (X4 X5 : IR) : IR := (.rf (.t (.of 9)) [(.of 10)] X4 X5)
noncomputable def F52.b3 : IR := F52.g3 F52.b4 F52.b5
noncomputable def F52.g2 (X3 : IR) : IR := (.block 0 X3)
noncomputable def F52.b2 : IR := F52.g2 F52.b3
noncomputable def F52.b8 : IR := (.seq (.reg [.s (.load (.t (.of 6))), .w .none none (.store 1 (.t (.of 3)) (.s 0)), .w .none none (.store 1 (.t (.of 4)) (.c (I 0)))]) .ret)
noncomputable def F52.g1 (X2 X8 : IR) : IR := (.seq (.reg [.w (.loc (.of 6)) none (.alloc [.nils])]) (.seq (.seq (.reg [.s (.loadN 2 (.t (.of 2))), .s (.mv (.t (.of 1))), .w (.loc (.of 9)) none (.call (.c (.fn 107 (.of 107) [])) [(.s 1), (.s 0)])]) X2) X8))
noncomputable def F52.b1 : IR := F52.g1 F52.b2 F52.b8
noncomputable def F52.g0 (X1 : IR) : IR := (.seq (.reg [.w (.loc (.of 2)) none (.box (.t (.of 0))), .w (.loc (.of 3)) none (.alloc [.nils]), .w (.loc (.of 4)) none (.alloc [(I 0)])]) (.seq (.seq (.reg [.s (.loadN 2 (.t (.of 2))), .w .push none (.call (.c (.fn 106 (.of 106) [])) [(.s 0)]), .q (.of 5) (.mv (.s 0))]) (.seq (.reg [.s (.mv (.t (.of 5))), .q (.of 8) (.bin .neq .int (.s 0) (.c (I 0)))]) (.cond (.t (.of 8)) (.seq (.reg [.s (.mv (.t (.of 5))), .w .none none (.store 1 (.t (.of 3)) (.c .nils)), .w .none none (.store 1 (.t (.of 4)) (.s 0))]) .ret) .skip))) X1))
noncomputable def F52.b0 : IR := F52.g0 F52.b1
noncomputable def F52.res : List RV := [.cell (.of 3) none, .cell (.of 4) none]
noncomputable def F52 : Fn := { params := [(.of 0), (.of 1)], res := F52.res, body := F52.b0, init := F52.fr .undef .undef .undef .undef .undef .undef .undef .undef .undef .undef .undef .undef }
theorem F52.ok : fnA Tryz.prog Tryz.f52 [0, 1, 2, 4, 5, 6, 7, 8, 12, 16, 17, 20] = some F52 := by kernel_rfl
/-- talisman/count.Classes -/
def F56.fr (x0 x1 x2 x3 x4 x5 x6 x7 x8 x9 x10 x11 x12 x13 x14 x15 x16 x17 x18 x19 x20 x21 x22 x23 x24 x25 : AV) : T AV := (.n (.n (.n (.n (.n .e x15 .e) x7 (.n .e x23 .e)) x3 (.n (.n .e x19 .e) x11 .e)) x1 (.n (.n (.n .e x17 .e) x9 (.n .e x25 .e)) x5 (.n (.n .e x21 .e) x13 .e))) x0 (.n (.n (.n (.n .e x16 .e) x8 (.n .e x24 .e)) x4 (.n (.n .e x20 .e) x12 .e)) x2 (.n (.n (.n .e x18 .e) x10 .e) x6 (.n (.n .e x22 .e) x14 .e))))
noncomputable def F56.b13 : IR := (.seq (.reg [.s (.iaddr 1 (.t (.of 17)) (.t (.of 19))), .s (.load (.s 0)), .q (.of 9) (.mv (.s 0))]) (.reg [.s (.mv (.t (.of 8))), .s (.mv (.t (.of 9))), .s (.mv (.t (.of 7))), .s (.iaddr 1 (.s 1) (.s 0)), .s (.load (.s 0)), .s (.minmax false (.s 4) [(.s 0)]), .q (.of 8) (.mv (.s 0))]))
noncomputable def F56.g12 (X13 : IR) : IR := (.block 3 X13)
noncomputable def F56.b12 : IR := F56.g12 F56.b13
noncomputable def F56.b14 : IR := (.reg [.s (.bin .add .int (.t (.of 19)) (.c (I 1))), .q (.of 19) (.mv (.s 0))])
noncomputable def F56.g11 (X12 X14 : IR) : IR := (.seq X12 X14)
noncomputable def F56.b11 : IR := F56.g11 F56.b12 F56.b14
noncomputable def F56.g10 (X11 : IR) : IR := (.seq (.reg [.q (.of 20) (.bin .lss .int (.t (.of 19)) (.t (.of 18)))]) (.seq (.cond (.t (.of 20)) .skip (.exit 2)) X11))
noncomputable def F56.b10 : IR := F56.g10 F56.b11
noncomputable def F56.g9 (X10 : IR) : IR := (.loop X10)
noncomputable def F56.b9 : IR := F56.g9 F56.b10
noncomputable def F56.g8 (X9 : IR) : IR := (.block 2 X9)
noncomputable def F56.b8 : IR := F56.g8 F56.b9
noncomputable def F56.b15 : IR := (.reg [.s (.mv (.t (.of 6))), .s (.mv (.t (.of 8))), .s (.iaddr 1 (.s 1) (.s 0)), .s (.load (.s 0)), .s (.bin .add .int (.s 0) (.c (I 1))), .s (.iaddr 1 (.s 4) (.s 3)), .w .none none (.store 1 (.s 0) (.s 1))])
noncomputable def F56.g7 (X8 X15 : IR) : IR := (.seq (.reg [.s (.mv (.t (.of 15))), .q (.of 7) (.mv (.s 0))]) (.seq (.reg [.s (.mv (.t (.of 7))), .q (.of 8) (.mv (.s 0))]) (.seq (.seq (.reg [.q (.of 17) (.mv (.t (.of 4))), .q (.of 18) (.len (.t (.of 17))), .q (.of 19) (.mv (.c (I 0)))]) X8) X15)))
noncomputable def F56.b7 : IR := F56.g7 F56.b8 F56.b15
noncomputable def F56.g6 (X7 : IR) : IR := (.block 1 X7)
noncomputable def F56.b6 : IR := F56.g6 F56.b7
noncomputable def F56.b16 : IR := (.reg [.s (.bin .add .int (.t (.of 15)) (.c (I 1))), .q (.of 15) (.mv (.s 0))])
noncomputable def F56.g5 (X6 X16 : IR) : IR := (.seq X6 X16)
noncomputable def F56.b5 : IR := F56.g5 F56.b6 F56.b16
noncomputable def F56.g4 (X5 : IR) : IR := (.seq (.reg [.q (.of 16) (.bin .lss .int (.t (.of 15)) (.t (.of 14)))]) (.seq (.cond (.t (.of 16)) .skip (.exit 0)) X5))
noncomputable def F56.b4 : IR := F56.g4 F56.b5
noncomputable def F56.g3 (X4 : IR) : IR := (.loop X4)
noncomputable def F56.b3 : IR := F56.g3 F56.b4
noncomputable def F56.g2 (X3 : IR) : IR := (.block 0 X3)
noncomputable def F56.b2 : IR := F56.g2 F56.b3
noncomputable def F56.b23 : IR := (.seq (.reg [.s (.mv (.t (.of 23))), .s (.iaddr 1 (.t (.of 21)) (.t (.of 23))), .s (.load (.s 0)), .q (.of 11) (.mv (.s 2)), .q (.of 12) (.mv (.s 0))]) (.seq (.reg [.s (.mv (.t (.of 12))), .q (.of 25) (.bin .gtr .int (.s 0) (.c (I 0)))]) (.cond (.t (.of 25)) (.reg [.s (.mv (.t (.of 10))), .s (.mv (.t (.of 1))), .s (.mv (.t (.of 11))), .s (.iaddr 1 (.s 1) (.s 0)), .s (.load (.s 0)), .w .push none (.call (.c (.fn 79 (.of 79) [])) [(.s 0)]), .s (.mv (.t (.of 12))), .s (.build [.nils, (I 0)] [(0, 1, (.s 1)), (1, 1, (.s 0))]), .w .push none (.bslice 2 1 [.nils, (I 0)] [(0, 2, (.s 0))]), .w .push none (.app 2 32 (.s 8) (.s 0)), .q (.of 10) (.mv (.s 0))]) .skip)))
noncomputable def F56.g22 (X23 : IR) : IR := (.block 5 X23)
noncomputable def F56.b22 : IR := F56.g22 F56.b23
noncomputable def F56.b24 : IR := (.reg [.s (.bin .add .int (.t (.of 23)) (.c (I 1))), .q (.of 23) (.mv (.s 0))])
noncomputable def F56.g21 (X22 X24 : IR) : IR := (.seq X22 X24)
noncomputable def F56.b21 : IR := F56.g21 F56.b22 F56.b24
noncomputable def F56.g20 (X21 : IR) : IR := (.seq (.reg [.q (.of 24) (.bin .lss .int (.t (.of 23)) (.t (.of 22)))]) (.seq (.cond (.t (.of 24)) .skip (.exit 4)) X21))
noncomputable def F56.b20 : IR := F56.g20 F56.b21
noncomputable def F56.g19 (X20 : IR) : IR := (.loop X20)
noncomputable def F56.b19 : IR := F56.g19 F56.b20
noncomputable def F56.g18 (X19 : IR) : IR := (.block 4 X19)
noncomputable def F56.b18 : IR := F56.g18 F56.b19
noncomputable def F56.b25 : IR := (.seq (.reg [.s (.mv (.t (.of 10))), .q (.of 2) (.mv (.s 0)), .q (.of 3) (.mv (.c (I 0)))]) .ret)
noncomputable def F56.g17 (X18 X25 : IR) : IR := (.seq (.reg [.q (.of 10) (.mv (.c .nils))]) (.seq (.seq (.reg [.q (.of 21) (.mv (.t (.of 6))), .q (.of 22) (.len (.t (.of 21))), .q (.of 23) (.mv (.c (I 0)))]) X18) X25))
noncomputable def F56.b17 : IR := F56.g17 F56.b18 F56.b25
noncomputable def F56.g1 (X2 X17 : IR) : IR := (.seq (.reg [.s (.mv (.t (.of 1))), .s (.len (.s 0)), .w .push none (.mkslice 1 8 [(I 0)] (.s 0) (.s 0)), .q (.of 6) (.mv (.s 0))]) (.seq (.seq (.reg [.s (.mv (.t (.of 1))), .q (.of 14) (.len (.s 0)), .q (.of 15) (.mv (.c (I 0)))]) X2) X17))
noncomputable def F56.b1 : IR := F56.g1 F56.b2 F56.b17
noncomputable def F56.g0 (X1 : IR) : IR := (.seq (.reg [.q (.of 2) (.mv (.c .nils)), .q (.of 3) (.mv (.c (I 0)))]) (.seq (.reg [.s (.mv (.t (.of 0))), .s (.mv (.t (.of 1))), .w .push none (.call (.c (.fn 109 (.of 109) [])) [(.s 1), (.s 0)]), .s (.mv (.s 0)), .s (.ext 0 (.s 0)), .s (.ext 1 (.s 1)), .q (.of 4) (.mv (.s 1)), .q (.of 5) (.mv (.s 0))]) (.seq (.seq (.reg [.s (.mv (.t (.of 5))), .q (.of 13) (.bin .neq .int (.s 0) (.c (I 0)))]) (.cond (.t (.of 13)) (.seq (.reg [.s (.mv (.t (.of 5))), .q (.of 2) (.mv (.c .nils)), .q (.of 3) (.mv (.s 0))]) .ret) .skip)) X1)))
noncomputable def F56.b0 : IR := F56.g0 F56.b1
noncomputable def F56.res : List RV := [.t (.of 2), .t (.of 3)]
noncomputable def F56 : Fn := { params := [(.of 0), (.of 1)], res := F56.res, body := F56.b0, init := F56.fr .undef .undef .undef .undef .undef .undef .undef .undef .undef .undef .undef .undef .undef .undef .undef .undef .undef .undef .undef .undef .undef .undef .undef .undef .undef .undef }
theorem F56.ok : fnA Tryz.prog Tryz.f56 [0, 1, 4, 5, 6, 7, 8, 9, 10, 12, 13, 14, 15, 23, 29, 30, 31, 34, 35, 36, 37, 54, 55, 56, 57, 62] = some F56 := by kernel_rfl
/-- talisman/count.ClassCount -/
def F58.fr (x0 x1 x2 x3 x4 x5 : AV) : T AV := (.n (.n (.n .e x3 .e) x1 (.n .e x5 .e)) x0 (.n (.n .e x4 .e) x2 .e))
noncomputable def F58.b0 : IR := (.seq (.reg [.q (.of 2) (.mv (.c (I 0))), .q (.of 3) (.mv (.c (I 0)))]) (.seq (.reg [.s (.mv (.t (.of 0))), .s (.mv (.t (.of 1))), .w .push none (.call (.c (.fn 56 (.of 56) [])) [(.s 1), (.s 0)]), .s (.mv (.s 0)), .s (.ext 0 (.s 0)), .s (.ext 1 (.s 1)), .q (.of 4) (.mv (.s 1)), .q (.of 5) (.mv (.s 0))]) (.seq (.reg [.s (.mv (.t (.of 4))), .s (.len (.s 0)), .s (.mv (.t (.of 5))), .q (.of 2) (.mv (.s 1)), .q (.of 3) (.mv (.s 0))]) .ret)))
noncomputable def F58.res : List RV := [.t (.of 2), .t (.of 3)]
noncomputable def F58 : Fn := { params := [(.of 0), (.of 1)], res := F58.res, body := F58.b0, init := F58.fr .undef .undef .undef .undef .undef .undef }
theorem F58.ok : fnA Tryz.prog Tryz.f58 [0, 1, 4, 5, 6, 7] = some F58 := by kernel_rfl
/-- talisman/count.Spectrum -/
def F63.fr (x0 x1 x2 x3 x4 x5 : AV) : T AV := (.n (.n (.n .e x3 .e) x1 (.n .e x5 .e)) x0 (.n (.n .e x4 .e) x2 .e))
noncomputable def F63.b1 : IR := (.seq (.reg [.s (.loadN 2 (.t (.of 1))), .w .push none (.call (.c (.fn 113 (.of 113) [])) [(.s 0)]), .q (.of 2) (.mv (.s 0)), .q (.of 3) (.mv (.c (I 0)))]) .ret)
noncomputable def F63.g0 (X1 : IR) : IR := (.seq (.reg [.w (.loc (.of 1)) none (.box (.t (.of 0))), .q (.of 2) (.mv (.c .nils)), .q (.of 3) (.mv (.c (I 0)))]) (.seq (.seq (.dreg [] [(.s (.loadN 2 (.t (.of 1))), 0, []), (.s (.faddr 1 (.t (.of 1))), 1, []), (.s (.load (.s 0)), 1, []), (.s (.len (.s 0)), 1, []), (.s (.bin .eql .int (.s 0) (.c (I 0))), 1, []), (.w .push none (.call (.c (.fn 106 (.of 106) [])) [(.s 4)]), 0, []), (.w .push none (.call (.c (.fn 82 (.of 82) [])) [(.s 1), (.c (I 12))]), 0, []), (.w .push none (.bslice 1 2 [(I 0)] [(0, 1, (.s 1)), (1, 1, (.s 0))]), 0, []), (.w .push none (.call (.c (.fn 80 (.of 80) [])) [(.s 0)]), 0, []), (.q (.of 4) (.mv (.s 0)), 0, [])]) (.seq (.reg [.s (.mv (.t (.of 4))), .q (.of 5) (.bin .neq .int (.s 0) (.c (I 0)))]) (.cond (.t (.of 5)) (.seq (.reg [.s (.mv (.t (.of 4))), .q (.of 2) (.mv (.c .nils)), .q (.of 3) (.mv (.s 0))]) .ret) .skip))) X1))
noncomputable def F63.b0 : IR := F63.g0 F63.b1
noncomputable def F63.res : List RV := [.t (.of 2), .t (.of 3)]
noncomputable def F63 : Fn := { params := [(.of 0)], res := F63.res, body := F63.b0, init := F63.fr .undef .undef .undef .undef .undef .undef }
theorem F63.ok : fnA Tryz.prog Tryz.f63 [0, 1, 2, 3, 4, 15] = some F63 := by kernel_rfl
/-- talisman/count.EdgeConstants -/
def F67.fr (x0 x1 x2 x3 : AV) : T AV := (.n (.n (.n .e x3 .e) x1 .e) x0 (.n .e x2 .e))
noncomputable def F67.b0 : IR := (.seq (.reg [.w (.loc (.of 1)) none (.box (.t (.of 0))), .q (.of 2) (.mv (.c .nils)), .q (.of 3) (.mv (.c (I 0)))]) (.seq (.reg [.s (.loadN 2 (.t (.of 1))), .w .push none (.call (.c (.fn 115 (.of 115) [])) [(.s 0)]), .s (.ext 0 (.s 0)), .s (.ext 1 (.s 1)), .w .push none (.call (.c (.fn 114 (.of 114) [])) [(.s 1), (.s 0)]), .s (.ext 0 (.s 0)), .s (.ext 1 (.s 1)), .q (.of 2) (.mv (.s 1)), .q (.of 3) (.mv (.s 0))]) .ret))
noncomputable def F67.res : List RV := [.t (.of 2), .t (.of 3)]
noncomputable def F67 : Fn := { params := [(.of 0)], res := F67.res, body := F67.b0, init := F67.fr .undef .undef .undef .undef }
theorem F67.ok : fnA Tryz.prog Tryz.f67 [0, 1, 2, 3] = some F67 := by kernel_rfl
/-- talisman/talismanlaw07.square -/
def F75.fr (x0 : AV) : T AV := (.n .e x0 .e)
noncomputable def F75.b0 : IR := (.seq (.reg [.w (.loc (.of 0)) none (.alloc [(I 0), .nils])]) (.seq (.reg [.w .push none (.bslice 1 3 [(I 0)] [(0, 1, (.c (I 0))), (1, 1, (.c (I 1))), (2, 1, (.c (I 2)))]), .w .push none (.bslice 1 3 [(I 0)] [(0, 1, (.c (I 3))), (1, 1, (.c (I 4))), (2, 1, (.c (I 5)))]), .w .push none (.bslice 1 3 [(I 0)] [(0, 1, (.c (I 6))), (1, 1, (.c (I 7))), (2, 1, (.c (I 8)))]), .w .push none (.bslice 1 3 [(I 0)] [(0, 1, (.c (I 0))), (1, 1, (.c (I 3))), (2, 1, (.c (I 6)))]), .w .push none (.bslice 1 3 [(I 0)] [(0, 1, (.c (I 1))), (1, 1, (.c (I 4))), (2, 1, (.c (I 7)))]), .w .push none (.bslice 1 3 [(I 0)] [(0, 1, (.c (I 2))), (1, 1, (.c (I 5))), (2, 1, (.c (I 8)))]), .w .push none (.bslice 1 3 [(I 0)] [(0, 1, (.c (I 0))), (1, 1, (.c (I 4))), (2, 1, (.c (I 8)))]), .w .push none (.bslice 1 3 [(I 0)] [(0, 1, (.c (I 2))), (1, 1, (.c (I 4))), (2, 1, (.c (I 6)))]), .w .push none (.bslice 1 8 [.nils] [(0, 1, (.s 7)), (1, 1, (.s 6)), (2, 1, (.s 5)), (3, 1, (.s 4)), (4, 1, (.s 3)), (5, 1, (.s 2)), (6, 1, (.s 1)), (7, 1, (.s 0))]), .s (.build [(I 0), .nils] [(0, 1, (.c (I 9))), (1, 1, (.s 0))]), .w .none none (.store 2 (.t (.of 0)) (.s 0))]) .ret))
noncomputable def F75.res : List RV := [.cell (.of 0) (some 2)]
noncomputable def F75 : Fn := { params := [], res := F75.res, body := F75.b0, init := F75.fr .undef }
theorem F75.ok : fnA Tryz.prog Tryz.f75 [0] = some F75 := by kernel_rfl
/-- talisman/count.checkSets -/
def F76.fr (x0 x1 x2 : AV) : T AV := (.n (.n .e x1 .e) x0 (.n .e x2 .e))
noncomputable def F76.b0 : IR := (.seq (.reg [.q (.of 2) (.mv (.c (I 0)))]) (.seq (.reg [.s (.mv (.t (.of 0))), .s (.bin .lss .int (.s 0) (.c (I 0))), .s (.mv (.s 0)), .p .push (some ((.s 0), false)) (.mv (.t (.of 0))), .p .push (some ((.s 1), false)) (.bin .gtr .int (.s 0) (.c (I 64))), .s (.pick (.s 2) (.c (.bool true)) (.s 0)), .s (.mv (.s 0)), .p .push (some ((.s 0), false)) (.mv (.t (.of 1))), .p .push (some ((.s 1), false)) (.bin .lss .int (.s 0) (.c (I 0))), .s (.pick (.s 2) (.c (.bool true)) (.s 0)), .s (.mv (.s 0)), .p .push (some ((.s 0), false)) (.mv (.t (.of 1))), .p .push (some ((.s 1), false)) (.mv (.t (.of 0))), .p .push (some ((.s 2), false)) (.bin .gtr .int (.s 1) (.s 0)), .s (.pick (.s 3) (.c (.bool true)) (.s 0)), .w .push none (.call (.c (.fn 82 (.of 82) [])) [(.s 0), (.c (I 3))]), .q (.of 2) (.mv (.s 0))]) .ret))
noncomputable def F76.res : List RV := [.t (.of 2)]
noncomputable def F76 : Fn := { params := [(.of 0), (.of 1)], res := F76.res, body := F76.b0, init := F76.fr .undef .undef .undef }
theorem F76.ok : fnA Tryz.prog Tryz.f76 [0, 1, 4] = some F76 := by kernel_rfl
/-- talisman/count.Sets$1 -/
def F77.fr (x0 x1 x2 x3 x4 x5 x6 x7 x8 x9 x10 x11 x12 x13 x14 x15 x16 : AV) : T AV := (.n (.n (.n (.n (.n .e x15 .e) x7 .e) x3 (.n .e x11 .e)) x1 (.n (.n .e x9 .e) x5 (.n .e x13 .e))) x0 (.n (.n (.n (.n .e x16 .e) x8 .e) x4 (.n .e x12 .e)) x2 (.n (.n .e x10 .e) x6 (.n .e x14 .e))))
noncomputable def F77.b8 : IR := (.seq (.reg [.s (.load (.t (.of 3))), .s (.mv (.t (.of 11))), .w .push none (.bslice 1 1 [(I 0)] [(0, 1, (.s 0))]), .w .push none (.app 1 8 (.s 2) (.s 0)), .w .none none (.store 1 (.t (.of 3)) (.s 0))]) (.seq (.reg [.s (.load (.t (.of 6))), .s (.mv (.t (.of 11))), .s (.bin .add .int (.s 0) (.c (I 1))), .s (.mv (.t (.of 1))), .s (.mv (.t (.of 11))), .s (.bin .sub .int (.s 1) (.s 0)), .w .push none (.call (.s 5) [(.s 3), (.s 0)]), .q (.of 12) (.mv (.s 0))]) (.seq (.reg [.s (.load (.t (.of 3))), .s (.load (.t (.of 3))), .s (.len (.s 0)), .s (.bin .sub .int (.s 0) (.c (I 1))), .s (.slice 1 (.s 3) none (some (.s 0)) none), .w .none none (.store 1 (.t (.of 3)) (.s 0))]) (.seq (.reg [.s (.mv (.t (.of 12))), .q (.of 16) (.not (.s 0))]) (.cond (.t (.of 16)) (.seq (.reg [.q (.of 7) (.mv (.c (.bool false)))]) .ret) .skip)))))
noncomputable def F77.g7 (X8 : IR) : IR := (.block 1 X8)
noncomputable def F77.b7 : IR := F77.g7 F77.b8
noncomputable def F77.b9 : IR := (.reg [.s (.mv (.t (.of 11))), .s (.bin .add .int (.s 0) (.c (I 1))), .q (.of 11) (.mv (.s 0))])
noncomputable def F77.g6 (X7 X9 : IR) : IR := (.seq X7 X9)
noncomputable def F77.b6 : IR := F77.g6 F77.b7 F77.b9
noncomputable def F77.g5 (X6 : IR) : IR := (.seq (.seq (.reg [.s (.mv (.t (.of 11))), .s (.load (.t (.of 4))), .q (.of 15) (.bin .leq .int (.s 1) (.s 0))]) (.cond (.t (.of 15)) .skip (.exit 0))) X6)
noncomputable def F77.b5 : IR := F77.g5 F77.b6
noncomputable def F77.g4 (X5 : IR) : IR := (.loop X5)
noncomputable def F77.b4 : IR := F77.g4 F77.b5
noncomputable def F77.g3 (X4 : IR) : IR := (.block 0 X4)
noncomputable def F77.b3 : IR := F77.g3 F77.b4
noncomputable def F77.b10 : IR := (.seq (.reg [.q (.of 7) (.mv (.c (.bool true)))]) .ret)
noncomputable def F77.g2 (X3 X10 : IR) : IR := (.seq (.seq (.reg [.s (.mv (.t (.of 0))), .q (.of 11) (.mv (.s 0))]) X3) X10)
noncomputable def F77.b2 : IR := F77.g2 F77.b3 F77.b10
noncomputable def F77.g1 (X2 : IR) : IR := (.seq (.seq (.reg [.s (.mv (.t (.of 8))), .q (.of 14) (.bin .eql .int (.s 0) (.c (I 0)))]) (.cond (.t (.of 14)) (.seq (.dreg [] [(.s (.load (.t (.of 5))), 2, []), (.s (.load (.t (.of 3))), 0, []), (.w .push none (.call (.c (.fn 79 (.of 79) [])) [(.s 0)]), 0, []), (.w .push none (.bslice 1 1 [.nils] [(0, 1, (.s 0))]), 0, []), (.w .push none (.app 1 24 (.s 3) (.s 0)), 0, []), (.w .none none (.store 1 (.t (.of 5)) (.s 0)), 0, [])]) (.seq (.reg [.s (.load (.t (.of 5))), .s (.len (.s 0)), .s (.bin .leq .int (.s 0) (.c (I 1024))), .q (.of 7) (.mv (.s 0))]) .ret)) .skip)) X2)
noncomputable def F77.b1 : IR := F77.g1 F77.b2
noncomputable def F77.g0 (X1 : IR) : IR := (.seq (.reg [.q (.of 7) (.mv (.c (.bool false)))]) (.seq (.reg [.s (.load (.t (.of 2))), .s (.load (.t (.of 3))), .s (.len (.s 0)), .s (.bin .sub .int (.s 2) (.s 0)), .q (.of 8) (.mv (.s 0))]) (.seq (.reg [.s (.mv (.t (.of 0))), .s (.load (.t (.of 4))), .s (.mv (.t (.of 8))), .w .push none (.call (.c (.fn 78 (.of 78) [])) [(.s 2), (.s 1), (.s 0)]), .s (.mv (.s 0)), .s (.ext 0 (.s 0)), .s (.ext 1 (.s 1)), .q (.of 9) (.mv (.s 1)), .q (.of 10) (.mv (.s 0))]) (.seq (.seq (.reg [.s (.mv (.t (.of 8))), .s (.load (.t (.of 4))), .s (.mv (.t (.of 0))), .s (.bin .sub .int (.s 1) (.s 0)), .s (.bin .add .int (.s 0) (.c (I 1))), .s (.bin .gtr .int (.s 4) (.s 0)), .s (.mv (.s 0)), .p .push (some ((.s 0), false)) (.mv (.t (.of 1))), .p .push (some ((.s 1), false)) (.mv (.t (.of 9))), .p .push (some ((.s 2), false)) (.bin .lss .int (.s 1) (.s 0)), .s (.pick (.s 3) (.c (.bool true)) (.s 0)), .s (.mv (.s 0)), .p .push (some ((.s 0), false)) (.mv (.t (.of 1))), .p .push (some ((.s 1), false)) (.mv (.t (.of 10))), .p .push (some ((.s 2), false)) (.bin .gtr .int (.s 1) (.s 0)), .q (.of 13) (.pick (.s 3) (.c (.bool true)) (.s 0))]) (.cond (.t (.of 13)) (.seq (.reg [.q (.of 7) (.mv (.c (.bool true)))]) .ret) .skip)) X1))))
noncomputable def F77.b0 : IR := F77.g0 F77.b1
noncomputable def F77.res : List RV := [.t (.of 7)]
noncomputable def F77 : Fn := { params := [(.of 0), (.of 1), (.of 2), (.of 3), (.of 4), (.of 5), (.of 6)], res := F77.res, body := F77.b0, init := F77.fr .undef .undef .undef .undef .undef .undef .undef .undef .undef .undef .undef .undef .undef .undef .undef .undef .undef }
theorem F77.ok : fnA Tryz.prog Tryz.f77 [0, 1, 2, 3, 4, 5, 6, 9, 10, 11, 12, 13, 14, 41, 43, 55, 75] = some F77 := by kernel_rfl
/-- talisman/count.span -/
def F78.fr (x0 x1 x2 x3 x4 : AV) : T AV := (.n (.n (.n .e x3 .e) x1 .e) x0 (.n (.n .e x4 .e) x2 .e))
noncomputable def F78.b0 : IR := (.seq (.reg [.q (.of 3) (.mv (.c (I 0))), .q (.of 4) (.mv (.c (I 0)))]) (.seq (.reg [.s (.mv (.t (.of 2))), .s (.mv (.t (.of 0))), .s (.bin .mul .int (.s 1) (.s 0)), .s (.mv (.t (.of 2))), .s (.mv (.t (.of 2))), .s (.bin .sub .int (.s 0) (.c (I 1))), .s (.bin .mul .int (.s 2) (.s 0)), .s (.bin .quo .int (.s 0) (.c (I 2))), .s (.bin .add .int (.s 5) (.s 0)), .s (.mv (.t (.of 2))), .s (.mv (.t (.of 1))), .s (.bin .mul .int (.s 1) (.s 0)), .s (.mv (.t (.of 2))), .s (.mv (.t (.of 2))), .s (.bin .sub .int (.s 0) (.c (I 1))), .s (.bin .mul .int (.s 2) (.s 0)), .s (.bin .quo .int (.s 0) (.c (I 2))), .s (.bin .sub .int (.s 5) (.s 0)), .q (.of 3) (.mv (.s 9)), .q (.of 4) (.mv (.s 0))]) .ret))
noncomputable def F78.res : List RV := [.t (.of 3), .t (.of 4)]
noncomputable def F78 : Fn := { params := [(.of 0), (.of 1), (.of 2)], res := F78.res, body := F78.b0, init := F78.fr .undef .undef .undef .undef .undef }
theorem F78.ok : fnA Tryz.prog Tryz.f78 [0, 1, 2, 6, 7] = some F78 := by kernel_rfl
end Go.Ev
