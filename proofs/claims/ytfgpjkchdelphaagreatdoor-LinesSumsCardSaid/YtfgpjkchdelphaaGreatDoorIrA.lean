import Derived.Test.YtfgpjkchdelphaaGreatDoorEvC
import Derived.Test.YtfgpjkchdelphaaGreatDoorProg
import Derived.KernelRfl
set_option linter.unusedSimpArgs false
set_option linter.unusedVariables false
namespace Go.Ev
open Go Go.Proofs
set_option maxRecDepth 100000
noncomputable section
abbrev zU : List AV := [(.int .u8 0), (.int .u8 0), (.int .u8 0), (.int .u8 0), (.int .u8 0), (.int .u8 0), (.int .u8 0), (.int .u8 0), (.int .u8 0), (.int .u8 0), (.int .u8 0), (.int .u8 0), (.int .u8 0), (.int .u8 0), (.int .u8 0), (.int .u8 0), (.int .u8 0), (.int .u8 0), (.int .u8 0), (.int .u8 0), (.int .u8 0), (.int .u8 0), (.int .u8 0), (.int .u8 0), (.int .u8 0), (.int .u8 0), (.int .u8 0), (.int .u8 0), (.int .u8 0), (.int .u8 0), (.int .u8 0), (.int .u8 0), (.int .u8 0), (.int .u8 0), (.int .u8 0), (.int .u8 0), (.int .u8 0), (.int .u8 0), (.int .u8 0), (.int .u8 0), (.int .u8 0), (.int .u8 0), (.int .u8 0), (.int .u8 0), (.int .u8 0), (.int .u8 0), (.int .u8 0), (.int .u8 0), (.int .u8 0), (.int .u8 0), (.int .u8 0), (.int .u8 0), (.int .u8 0), (.int .u8 0), (.int .u8 0), (.int .u8 0), (.int .u8 0), (.int .u8 0), (.int .u8 0), (.int .u8 0), (.int .u8 0), (.int .u8 0), (.int .u8 0), (.int .u8 0), (.int .u8 0), (.int .u8 0), (.int .u8 0), (.int .u8 0), (.int .u8 0), (.int .u8 0), (.int .u8 0), (.int .u8 0), (.int .u8 0), (.int .u8 0), (.int .u8 0), (.int .u8 0), (.int .u8 0), (.int .u8 0), (.int .u8 0), (.int .u8 0), (.int .u8 0), (.int .u8 0), (.int .u8 0), (.int .u8 0), (.int .u8 0), (.int .u8 0), (.int .u8 0), (.int .u8 0), (.int .u8 0), (.int .u8 0), (.int .u8 0), (.int .u8 0), (.int .u8 0), (.int .u8 0), (.int .u8 0), (.int .u8 0), (.int .u8 0), (.int .u8 0), (.int .u8 0), (.int .u8 0), (.int .u8 0), (.int .u8 0), (.int .u8 0), (.int .u8 0), (.int .u8 0), (.int .u8 0), (.int .u8 0), (.int .u8 0), (.int .u8 0), (.int .u8 0), (.int .u8 0), (.int .u8 0), (.int .u8 0), (.int .u8 0), (.int .u8 0), (.int .u8 0), (.int .u8 0), (.int .u8 0), (.int .u8 0), (.int .u8 0), (.int .u8 0), (.int .u8 0), (.int .u8 0), (.int .u8 0), (.int .u8 0), (.int .u8 0), (.int .u8 0), (.int .u8 0)]
abbrev iSm (n : Nat) : RO := .s (.mv (.t (.of n)))
abbrev iQm (n m : Nat) : RO := .q (.of n) (.mv (.s m))
abbrev iQo (n : Nat) (o : PO) : RO := .q (.of n) o
abbrev iPf (n : Nat) (o : PO) : RO := .p .push (some (.s n, false)) o
abbrev iPt (n : Nat) (o : PO) : RO := .p .push (some (.s n, true)) o
abbrev iCa (n : Nat) (l : List Arg) : RO := .w .push none (.call (.c (.fn n (.of n) [])) l)
abbrev iWl (n : Nat) (o : WO) : RO := .w (.loc (.of n)) none o
abbrev iSr (l : List RO) (c : IR) : IR := .seq (.reg l) c
def fr1 (x0 : AV) : T AV := (.n .e x0 .e)
def fr2 (x0 x1 : AV) : T AV := (.n (.n .e x1 .e) x0 .e)
def fr3 (x0 x1 x2 : AV) : T AV := (.n (.n .e x1 .e) x0 (.n .e x2 .e))
def fr4 (x0 x1 x2 x3 : AV) : T AV := (.n (.n (.n .e x3 .e) x1 .e) x0 (.n .e x2 .e))
def fr5 (x0 x1 x2 x3 x4 : AV) : T AV := (.n (.n (.n .e x3 .e) x1 .e) x0 (.n (.n .e x4 .e) x2 .e))
def fr6 (x0 x1 x2 x3 x4 x5 : AV) : T AV := (.n (.n (.n .e x3 .e) x1 (.n .e x5 .e)) x0 (.n (.n .e x4 .e) x2 .e))
def fr7 (x0 x1 x2 x3 x4 x5 x6 : AV) : T AV := (.n (.n (.n .e x3 .e) x1 (.n .e x5 .e)) x0 (.n (.n .e x4 .e) x2 (.n .e x6 .e)))
def fr8 (x0 x1 x2 x3 x4 x5 x6 x7 : AV) : T AV := (.n (.n (.n (.n .e x7 .e) x3 .e) x1 (.n .e x5 .e)) x0 (.n (.n .e x4 .e) x2 (.n .e x6 .e)))
def fr9 (x0 x1 x2 x3 x4 x5 x6 x7 x8 : AV) : T AV := (.n (.n (.n (.n .e x7 .e) x3 .e) x1 (.n .e x5 .e)) x0 (.n (.n (.n .e x8 .e) x4 .e) x2 (.n .e x6 .e)))
def fr10 (x0 x1 x2 x3 x4 x5 x6 x7 x8 x9 : AV) : T AV := (.n (.n (.n (.n .e x7 .e) x3 .e) x1 (.n (.n .e x9 .e) x5 .e)) x0 (.n (.n (.n .e x8 .e) x4 .e) x2 (.n .e x6 .e)))
def fr11 (x0 x1 x2 x3 x4 x5 x6 x7 x8 x9 x10 : AV) : T AV := (.n (.n (.n (.n .e x7 .e) x3 .e) x1 (.n (.n .e x9 .e) x5 .e)) x0 (.n (.n (.n .e x8 .e) x4 .e) x2 (.n (.n .e x10 .e) x6 .e)))
def fr12 (x0 x1 x2 x3 x4 x5 x6 x7 x8 x9 x10 x11 : AV) : T AV := (.n (.n (.n (.n .e x7 .e) x3 (.n .e x11 .e)) x1 (.n (.n .e x9 .e) x5 .e)) x0 (.n (.n (.n .e x8 .e) x4 .e) x2 (.n (.n .e x10 .e) x6 .e)))
def fr13 (x0 x1 x2 x3 x4 x5 x6 x7 x8 x9 x10 x11 x12 : AV) : T AV := (.n (.n (.n (.n .e x7 .e) x3 (.n .e x11 .e)) x1 (.n (.n .e x9 .e) x5 .e)) x0 (.n (.n (.n .e x8 .e) x4 (.n .e x12 .e)) x2 (.n (.n .e x10 .e) x6 .e)))
def fr14 (x0 x1 x2 x3 x4 x5 x6 x7 x8 x9 x10 x11 x12 x13 : AV) : T AV := (.n (.n (.n (.n .e x7 .e) x3 (.n .e x11 .e)) x1 (.n (.n .e x9 .e) x5 (.n .e x13 .e))) x0 (.n (.n (.n .e x8 .e) x4 (.n .e x12 .e)) x2 (.n (.n .e x10 .e) x6 .e)))
def fr15 (x0 x1 x2 x3 x4 x5 x6 x7 x8 x9 x10 x11 x12 x13 x14 : AV) : T AV := (.n (.n (.n (.n .e x7 .e) x3 (.n .e x11 .e)) x1 (.n (.n .e x9 .e) x5 (.n .e x13 .e))) x0 (.n (.n (.n .e x8 .e) x4 (.n .e x12 .e)) x2 (.n (.n .e x10 .e) x6 (.n .e x14 .e))))
def fr16 (x0 x1 x2 x3 x4 x5 x6 x7 x8 x9 x10 x11 x12 x13 x14 x15 : AV) : T AV := (.n (.n (.n (.n (.n .e x15 .e) x7 .e) x3 (.n .e x11 .e)) x1 (.n (.n .e x9 .e) x5 (.n .e x13 .e))) x0 (.n (.n (.n .e x8 .e) x4 (.n .e x12 .e)) x2 (.n (.n .e x10 .e) x6 (.n .e x14 .e))))
def fr18 (x0 x1 x2 x3 x4 x5 x6 x7 x8 x9 x10 x11 x12 x13 x14 x15 x16 x17 : AV) : T AV := (.n (.n (.n (.n (.n .e x15 .e) x7 .e) x3 (.n .e x11 .e)) x1 (.n (.n (.n .e x17 .e) x9 .e) x5 (.n .e x13 .e))) x0 (.n (.n (.n (.n .e x16 .e) x8 .e) x4 (.n .e x12 .e)) x2 (.n (.n .e x10 .e) x6 (.n .e x14 .e))))
def fr19 (x0 x1 x2 x3 x4 x5 x6 x7 x8 x9 x10 x11 x12 x13 x14 x15 x16 x17 x18 : AV) : T AV := (.n (.n (.n (.n (.n .e x15 .e) x7 .e) x3 (.n .e x11 .e)) x1 (.n (.n (.n .e x17 .e) x9 .e) x5 (.n .e x13 .e))) x0 (.n (.n (.n (.n .e x16 .e) x8 .e) x4 (.n .e x12 .e)) x2 (.n (.n (.n .e x18 .e) x10 .e) x6 (.n .e x14 .e))))
def fr23 (x0 x1 x2 x3 x4 x5 x6 x7 x8 x9 x10 x11 x12 x13 x14 x15 x16 x17 x18 x19 x20 x21 x22 : AV) : T AV := (.n (.n (.n (.n (.n .e x15 .e) x7 .e) x3 (.n (.n .e x19 .e) x11 .e)) x1 (.n (.n (.n .e x17 .e) x9 .e) x5 (.n (.n .e x21 .e) x13 .e))) x0 (.n (.n (.n (.n .e x16 .e) x8 .e) x4 (.n (.n .e x20 .e) x12 .e)) x2 (.n (.n (.n .e x18 .e) x10 .e) x6 (.n (.n .e x22 .e) x14 .e))))
def fr28 (x0 x1 x2 x3 x4 x5 x6 x7 x8 x9 x10 x11 x12 x13 x14 x15 x16 x17 x18 x19 x20 x21 x22 x23 x24 x25 x26 x27 : AV) : T AV := (.n (.n (.n (.n (.n .e x15 .e) x7 (.n .e x23 .e)) x3 (.n (.n .e x19 .e) x11 (.n .e x27 .e))) x1 (.n (.n (.n .e x17 .e) x9 (.n .e x25 .e)) x5 (.n (.n .e x21 .e) x13 .e))) x0 (.n (.n (.n (.n .e x16 .e) x8 (.n .e x24 .e)) x4 (.n (.n .e x20 .e) x12 .e)) x2 (.n (.n (.n .e x18 .e) x10 (.n .e x26 .e)) x6 (.n (.n .e x22 .e) x14 .e))))
def fr29 (x0 x1 x2 x3 x4 x5 x6 x7 x8 x9 x10 x11 x12 x13 x14 x15 x16 x17 x18 x19 x20 x21 x22 x23 x24 x25 x26 x27 x28 : AV) : T AV := (.n (.n (.n (.n (.n .e x15 .e) x7 (.n .e x23 .e)) x3 (.n (.n .e x19 .e) x11 (.n .e x27 .e))) x1 (.n (.n (.n .e x17 .e) x9 (.n .e x25 .e)) x5 (.n (.n .e x21 .e) x13 .e))) x0 (.n (.n (.n (.n .e x16 .e) x8 (.n .e x24 .e)) x4 (.n (.n .e x20 .e) x12 (.n .e x28 .e))) x2 (.n (.n (.n .e x18 .e) x10 (.n .e x26 .e)) x6 (.n (.n .e x22 .e) x14 .e))))
def fr32 (x0 x1 x2 x3 x4 x5 x6 x7 x8 x9 x10 x11 x12 x13 x14 x15 x16 x17 x18 x19 x20 x21 x22 x23 x24 x25 x26 x27 x28 x29 x30 x31 : AV) : T AV := (.n (.n (.n (.n (.n (.n .e x31 .e) x15 .e) x7 (.n .e x23 .e)) x3 (.n (.n .e x19 .e) x11 (.n .e x27 .e))) x1 (.n (.n (.n .e x17 .e) x9 (.n .e x25 .e)) x5 (.n (.n .e x21 .e) x13 (.n .e x29 .e)))) x0 (.n (.n (.n (.n .e x16 .e) x8 (.n .e x24 .e)) x4 (.n (.n .e x20 .e) x12 (.n .e x28 .e))) x2 (.n (.n (.n .e x18 .e) x10 (.n .e x26 .e)) x6 (.n (.n .e x22 .e) x14 (.n .e x30 .e)))))
def fr36 (x0 x1 x2 x3 x4 x5 x6 x7 x8 x9 x10 x11 x12 x13 x14 x15 x16 x17 x18 x19 x20 x21 x22 x23 x24 x25 x26 x27 x28 x29 x30 x31 x32 x33 x34 x35 : AV) : T AV := (.n (.n (.n (.n (.n (.n .e x31 .e) x15 .e) x7 (.n .e x23 .e)) x3 (.n (.n (.n .e x35 .e) x19 .e) x11 (.n .e x27 .e))) x1 (.n (.n (.n (.n .e x33 .e) x17 .e) x9 (.n .e x25 .e)) x5 (.n (.n .e x21 .e) x13 (.n .e x29 .e)))) x0 (.n (.n (.n (.n (.n .e x32 .e) x16 .e) x8 (.n .e x24 .e)) x4 (.n (.n .e x20 .e) x12 (.n .e x28 .e))) x2 (.n (.n (.n (.n .e x34 .e) x18 .e) x10 (.n .e x26 .e)) x6 (.n (.n .e x22 .e) x14 (.n .e x30 .e)))))
abbrev in1 : T AV := fr1 .undef
abbrev in2 : T AV := fr2 .undef .undef
abbrev in3 : T AV := fr3 .undef .undef .undef
abbrev in4 : T AV := fr4 .undef .undef .undef .undef
abbrev in5 : T AV := fr5 .undef .undef .undef .undef .undef
abbrev in6 : T AV := fr6 .undef .undef .undef .undef .undef .undef
abbrev in7 : T AV := fr7 .undef .undef .undef .undef .undef .undef .undef
abbrev in8 : T AV := fr8 .undef .undef .undef .undef .undef .undef .undef .undef
abbrev in9 : T AV := fr9 .undef .undef .undef .undef .undef .undef .undef .undef .undef
abbrev in10 : T AV := fr10 .undef .undef .undef .undef .undef .undef .undef .undef .undef .undef
abbrev in11 : T AV := fr11 .undef .undef .undef .undef .undef .undef .undef .undef .undef .undef .undef
abbrev in12 : T AV := fr12 .undef .undef .undef .undef .undef .undef .undef .undef .undef .undef .undef .undef
abbrev in13 : T AV := fr13 .undef .undef .undef .undef .undef .undef .undef .undef .undef .undef .undef .undef .undef
abbrev in14 : T AV := fr14 .undef .undef .undef .undef .undef .undef .undef .undef .undef .undef .undef .undef .undef .undef
abbrev in15 : T AV := fr15 .undef .undef .undef .undef .undef .undef .undef .undef .undef .undef .undef .undef .undef .undef .undef
abbrev in16 : T AV := fr16 .undef .undef .undef .undef .undef .undef .undef .undef .undef .undef .undef .undef .undef .undef .undef .undef
abbrev in18 : T AV := fr18 .undef .undef .undef .undef .undef .undef .undef .undef .undef .undef .undef .undef .undef .undef .undef .undef .undef .undef
abbrev in19 : T AV := fr19 .undef .undef .undef .undef .undef .undef .undef .undef .undef .undef .undef .undef .undef .undef .undef .undef .undef .undef .undef
abbrev in23 : T AV := fr23 .undef .undef .undef .undef .undef .undef .undef .undef .undef .undef .undef .undef .undef .undef .undef .undef .undef .undef .undef .undef .undef .undef .undef
abbrev in28 : T AV := fr28 .undef .undef .undef .undef .undef .undef .undef .undef .undef .undef .undef .undef .undef .undef .undef .undef .undef .undef .undef .undef .undef .undef .undef .undef .undef .undef .undef .undef
abbrev in29 : T AV := fr29 .undef .undef .undef .undef .undef .undef .undef .undef .undef .undef .undef .undef .undef .undef .undef .undef .undef .undef .undef .undef .undef .undef .undef .undef .undef .undef .undef .undef .undef
abbrev in32 : T AV := fr32 .undef .undef .undef .undef .undef .undef .undef .undef .undef .undef .undef .undef .undef .undef .undef .undef .undef .undef .undef .undef .undef .undef .undef .undef .undef .undef .undef .undef .undef .undef .undef .undef
abbrev in36 : T AV := fr36 .undef .undef .undef .undef .undef .undef .undef .undef .undef .undef .undef .undef .undef .undef .undef .undef .undef .undef .undef .undef .undef .undef .undef .undef .undef .undef .undef .undef .undef .undef .undef .undef .undef .undef .undef .undef
abbrev aT0 : Arg := .t (.of 0)
abbrev aT1 : Arg := .t (.of 1)
abbrev aT2 : Arg := .t (.of 2)
abbrev aT3 : Arg := .t (.of 3)
abbrev aT4 : Arg := .t (.of 4)
abbrev aT5 : Arg := .t (.of 5)
abbrev aT6 : Arg := .t (.of 6)
abbrev aT7 : Arg := .t (.of 7)
abbrev aT8 : Arg := .t (.of 8)
abbrev aT9 : Arg := .t (.of 9)
abbrev aT10 : Arg := .t (.of 10)
abbrev aT11 : Arg := .t (.of 11)
abbrev aT12 : Arg := .t (.of 12)
abbrev aT13 : Arg := .t (.of 13)
abbrev aT14 : Arg := .t (.of 14)
abbrev aT15 : Arg := .t (.of 15)
abbrev aT16 : Arg := .t (.of 16)
abbrev aT17 : Arg := .t (.of 17)
abbrev aT18 : Arg := .t (.of 18)
abbrev aT19 : Arg := .t (.of 19)
abbrev aT20 : Arg := .t (.of 20)
abbrev aT21 : Arg := .t (.of 21)
abbrev aT22 : Arg := .t (.of 22)
abbrev aT23 : Arg := .t (.of 23)
abbrev aT24 : Arg := .t (.of 24)
abbrev aT25 : Arg := .t (.of 25)
abbrev aT26 : Arg := .t (.of 26)
abbrev aT27 : Arg := .t (.of 27)
abbrev aT28 : Arg := .t (.of 28)
abbrev aT29 : Arg := .t (.of 29)
abbrev aT30 : Arg := .t (.of 30)
abbrev aT31 : Arg := .t (.of 31)
abbrev aT32 : Arg := .t (.of 32)
abbrev aT33 : Arg := .t (.of 33)
abbrev aT34 : Arg := .t (.of 34)
abbrev aT35 : Arg := .t (.of 35)
abbrev aS0 : Arg := .s 0
abbrev aS1 : Arg := .s 1
abbrev aS2 : Arg := .s 2
abbrev aS3 : Arg := .s 3
abbrev aS4 : Arg := .s 4
abbrev aS5 : Arg := .s 5
abbrev aS6 : Arg := .s 6
abbrev aS7 : Arg := .s 7
abbrev aS8 : Arg := .s 8
abbrev aS9 : Arg := .s 9
abbrev aS10 : Arg := .s 10
abbrev aS11 : Arg := .s 11
abbrev aS12 : Arg := .s 12
abbrev aS13 : Arg := .s 13
abbrev aS14 : Arg := .s 14
abbrev aS15 : Arg := .s 15
abbrev aS16 : Arg := .s 16
abbrev aS21 : Arg := .s 21
abbrev aS24 : Arg := .s 24
abbrev aC0 : Arg := .c (I 0)
abbrev aC1 : Arg := .c (I 1)
abbrev aC2 : Arg := .c (I 2)
abbrev aC3 : Arg := .c (I 3)
abbrev aC4 : Arg := .c (I 4)
abbrev aC5 : Arg := .c (I 5)
abbrev aC6 : Arg := .c (I 6)
abbrev aC7 : Arg := .c (I 7)
abbrev aC8 : Arg := .c (I 8)
abbrev aC9 : Arg := .c (I 9)
abbrev aC10 : Arg := .c (I 10)
abbrev aC11 : Arg := .c (I 11)
abbrev aC12 : Arg := .c (I 12)
abbrev aC13 : Arg := .c (I 13)
abbrev aC14 : Arg := .c (I 14)
abbrev aC15 : Arg := .c (I 15)
abbrev aC16 : Arg := .c (I 16)
abbrev aC18 : Arg := .c (I 18)
abbrev aC21 : Arg := .c (I 21)
abbrev aC26 : Arg := .c (I 26)
abbrev aC32 : Arg := .c (I 32)
abbrev aC40 : Arg := .c (I 40)
abbrev aC64 : Arg := .c (I 64)
abbrev aC100 : Arg := .c (I 100)
abbrev aC128 : Arg := .c (I 128)
abbrev aC130 : Arg := .c (I 130)
abbrev aC256 : Arg := .c (I 256)
abbrev aC300 : Arg := .c (I 300)
abbrev aC600 : Arg := .c (I 600)
abbrev aC1800 : Arg := .c (I 1800)
abbrev aC78913 : Arg := .c (I 78913)
abbrev aC1048576 : Arg := .c (I 1048576)
abbrev aC999999999 : Arg := .c (I 999999999)
abbrev F3.fr := fr6
def F3.b1 : IR := (.seq (.dreg [] [(.s (.loadN 2 aT2), 0, []), (.s (.loadN 2 aT2), 1, []), (iCa 18 [aS1], 0, []), (iCa 19 [aS1], 0, []), (.s (.bin .eql .int aS1 aS0), 0, []), (.s (.mv aS0), 0, []), (iPt 0 (.loadN 2 aT3), 0, []), (iPt 1 (.loadN 2 aT3), 1, []), (.w .push (some (aS2, true)) (.call (.c (.fn 20 (.of 20) [])) [aS1]), 0, []), (.w .push (some (aS3, true)) (.call (.c (.fn 21 (.of 21) [])) [aS1]), 0, []), (iPt 4 (.bin .eql .int aS1 aS0), 0, []), (.s (.pick aS5 aS0 (.c (.bool false))), 0, []), (.s (.mv aS0), 0, []), (.w .push (some (aS0, true)) (.call (.c (.fn 17 (.of 17) [])) []), 0, []), (.s (.pick aS1 aS0 (.c (.bool false))), 0, []), (iQm 4 0, 0, [])]) .ret)
def F3.g0 (X1 : IR) : IR := (iSr [iWl 2 (.box aT0), iWl 3 (.box aT1), iQo 4 (.mv (.c (.bool false)))] (.seq (iSr [.s (.loadN 2 aT2), iCa 16 [aS0, aC40, aC130], .s (.not aS0), .s (.mv aS0), iPf 0 (.faddr 1 aT3), iPf 1 (.load aS0), iPf 2 (.len aS0), iPf 3 (.bin .gtr .int aS0 aC40), iQo 5 (.pick aS4 (.c (.bool true)) aS0)] (.cond aT5 (iSr [iCa 17 [], iQm 4 0] .ret) .skip)) X1))
def F3.b0 : IR := F3.g0 F3.b1
def F3.res : List RV := [.t (.of 4)]
def F3 : Fn := { params := [(.of 0), (.of 1)], res := F3.res, body := F3.b0, init := in6 }
theorem F3.ok : fnA Tryz.prog Tryz.f3 [0, 1, 2, 3, 4, 13] = some F3 := by kernel_rfl
abbrev F12.fr := fr16
def F12.b5 : IR := (iSr [iSm 9, .s (.bin .eql .int aS0 aC0), .s (.mv aS0), iPt 0 (.mv aT8), iPt 1 (.loadN 2 aT2), iPt 2 (.mv aT1), .w .push (some (aS3, true)) (.call (.c (.fn 60 (.of 60) [])) [aS1, aS0]), iPt 4 (.bin .eql .int aS3 aS0), .s (.pick aS5 aS0 (.c (.bool false))), .s (.mv aS0), .w .push (some (aS0, true)) (.call (.c (.fn 17 (.of 17) [])) []), .s (.pick aS1 aS0 (.c (.bool false))), iQm 3 0] .ret)
def F12.g4 (X5 : IR) : IR := (.seq (iSr [iQo 15 (.mv aT6)] (.cond aT15 (iSr [iSm 8, .s (.bin .eql .int aS0 aC0), .s (.mv aS0), iPt 0 (.mv aT9), iPt 1 (.bin .eql .int aS0 aC7), .s (.pick aS2 aS0 (.c (.bool false))), .s (.mv aS0), .w .push (some (aS0, true)) (.call (.c (.fn 17 (.of 17) [])) []), .s (.pick aS1 aS0 (.c (.bool false))), iQm 3 0] .ret) .skip)) X5)
def F12.b4 : IR := F12.g4 F12.b5
def F12.g3 (X4 : IR) : IR := (.seq (iSr [iSm 5, .s (.bin .neq .int aS0 aC0), .s (.mv aS0), iPf 0 (.mv aT7), iPf 1 (.bin .neq .int aS0 aC0), .s (.pick aS2 (.c (.bool true)) aS0), .s (.mv aS0), iPf 0 (.mv aT4), iPf 1 (.loadN 2 aT2), iPf 2 (.mv aT1), .w .push (some (aS3, false)) (.call (.c (.fn 59 (.of 59) [])) [aS1, aS0]), .w .push (some (aS4, false)) (.call (.c (.fn 49 (.of 49) [])) [aS3, aS0]), iPf 5 (.not aS0), .s (.pick aS6 (.c (.bool true)) aS0), .s (.mv aS0), iPf 0 (.mv aT6), iPf 1 (.loadN 2 aT2), iPf 2 (.mv aT1), .w .push (some (aS3, false)) (.call (.c (.fn 28 (.of 28) [])) [aS1, aS0]), iPf 4 (.bin .neq .bool aS3 aS0), iQo 14 (.pick aS5 (.c (.bool true)) aS0)] (.cond aT14 (iSr [iQo 3 (.mv (.c (.bool false)))] .ret) .skip)) X4)
def F12.b3 : IR := F12.g3 F12.b4
def F12.g2 (X3 : IR) : IR := (.seq (iSr [iSm 10, iQo 13 (.bin .neq .int aS0 aC0)] (.cond aT13 (iSr [iSm 4, .s (.len aS0), .s (.bin .eql .int aS0 aC0), .s (.mv aS0), iPt 0 (.mv aT5), iPt 1 (.mv aT10), iPt 2 (.bin .eql .int aS1 aS0), .s (.pick aS3 aS0 (.c (.bool false))), .s (.mv aS0), iPt 0 (.mv aT6), iPt 1 (.not aS0), .s (.pick aS2 aS0 (.c (.bool false))), .s (.mv aS0), iPt 0 (.mv aT7), iPt 1 (.mv aT10), iPt 2 (.bin .eql .int aS1 aS0), .s (.pick aS3 aS0 (.c (.bool false))), .s (.mv aS0), iPt 0 (.mv aT8), iPt 1 (.bin .eql .int aS0 aC0), .s (.pick aS2 aS0 (.c (.bool false))), .s (.mv aS0), iPt 0 (.mv aT9), iPt 1 (.mv aT10), iPt 2 (.bin .eql .int aS1 aS0), .s (.pick aS3 aS0 (.c (.bool false))), .s (.mv aS0), .w .push (some (aS0, true)) (.call (.c (.fn 17 (.of 17) [])) []), .s (.pick aS1 aS0 (.c (.bool false))), iQm 3 0] .ret) .skip)) X3)
def F12.b2 : IR := F12.g2 F12.b3
def F12.g1 (X2 : IR) : IR := (iSr [.s (.loadN 2 aT2), iSm 1, iCa 48 [aS1, aS0], .s (.mv aS0), .s (.ext 0 aS0), .s (.ext 1 aS1), iQm 4 1, iQm 5 0] (iSr [.s (.loadN 2 aT2), iSm 1, iCa 43 [aS1, aS0], .s (.mv aS0), .s (.ext 0 aS0), .s (.ext 1 aS1), iQm 6 1, iQm 7 0] (iSr [.s (.loadN 2 aT2), iSm 1, iCa 58 [aS1, aS0], .s (.mv aS0), .s (.ext 0 aS0), .s (.ext 1 aS1), iQm 8 1, iQm 9 0] (iSr [.s (.loadN 2 aT2), iCa 19 [aS0], iQm 10 0] (.seq (iSr [iSm 10, iQo 12 (.bin .eql .int aS0 aC0)] (.cond aT12 (.reg [.s (.loadN 2 aT2), iSm 1, iCa 27 [aS1, aS0], iQm 10 0]) .skip)) X2)))))
def F12.b1 : IR := F12.g1 F12.b2
def F12.g0 (X1 : IR) : IR := (iSr [iWl 2 (.box aT0), iQo 3 (.mv (.c (.bool false)))] (.seq (iSr [.s (.loadN 2 aT2), iCa 16 [aS0, aC40, aC130], .s (.not aS0), .s (.mv aS0), iPf 0 (.mv aT1), iPf 1 (.len aS0), iPf 2 (.bin .gtr .int aS0 aC300), iQo 11 (.pick aS3 (.c (.bool true)) aS0)] (.cond aT11 (iSr [iCa 17 [], iQm 3 0] .ret) .skip)) X1))
def F12.b0 : IR := F12.g0 F12.b1
def F12.res : List RV := [.t (.of 3)]
def F12 : Fn := { params := [(.of 0), (.of 1)], res := F12.res, body := F12.b0, init := in16 }
theorem F12.ok : fnA Tryz.prog Tryz.f12 [0, 1, 2, 4, 5, 6, 7, 8, 9, 10, 11, 19, 42, 47, 97, 98] = some F12 := by kernel_rfl
abbrev F16.fr := fr9
def F16.b7 : IR := (iSr [.s (.faddr 1 aT3), .s (.load aS0), iSm 5, .s (.iaddr 1 aS1 aS0), .s (.load aS0), .s (.len aS0), iSm 1, iQo 8 (.bin .gtr .int aS1 aS0)] (.cond aT8 (iSr [iQo 4 (.mv (.c (.bool false)))] .ret) .skip))
def F16.g6 (X7 : IR) : IR := (.block 1 X7)
def F16.b6 : IR := F16.g6 F16.b7
def F16.b8 : IR := (.reg [iSm 5, .s (.bin .add .int aS0 aC1), iQm 5 0])
def F16.g5 (X6 X8 : IR) : IR := (.seq X6 X8)
def F16.b5 : IR := F16.g5 F16.b6 F16.b8
def F16.g4 (X5 : IR) : IR := (.seq (iSr [iSm 5, .s (.faddr 1 aT3), .s (.load aS0), .s (.len aS0), iQo 7 (.bin .lss .int aS3 aS0)] (.cond aT7 .skip (.exit 0))) X5)
def F16.b4 : IR := F16.g4 F16.b5
def F16.g3 (X4 : IR) : IR := (.loop X4)
def F16.b3 : IR := F16.g3 F16.b4
def F16.g2 (X3 : IR) : IR := (.block 0 X3)
def F16.b2 : IR := F16.g2 F16.b3
def F16.b9 : IR := (iSr [iQo 4 (.mv (.c (.bool true)))] .ret)
def F16.g1 (X2 X9 : IR) : IR := (.seq (iSr [iQo 5 (.mv aC0)] X2) X9)
def F16.b1 : IR := F16.g1 F16.b2 F16.b9
def F16.g0 (X1 : IR) : IR := (iSr [iWl 3 (.box aT0), iQo 4 (.mv (.c (.bool false)))] (.seq (iSr [.s (.faddr 1 aT3), .s (.load aS0), .s (.len aS0), iSm 2, iQo 6 (.bin .gtr .int aS1 aS0)] (.cond aT6 (iSr [iQo 4 (.mv (.c (.bool false)))] .ret) .skip)) X1))
def F16.b0 : IR := F16.g0 F16.b1
def F16.res : List RV := [.t (.of 4)]
def F16 : Fn := { params := [(.of 0), (.of 1), (.of 2)], res := F16.res, body := F16.b0, init := in9 }
theorem F16.ok : fnA Tryz.prog Tryz.f16 [0, 1, 2, 3, 6, 7, 12, 17, 27] = some F16 := by kernel_rfl
abbrev F17.fr := fr29
def F17.b2 : IR := (iSr [iCa 69 [aC6], .s (.mv aS0), .s (.ext 0 aS0), .s (.ext 1 aS1), iWl 21 (.alloc [(I 0), .nils]), .w .none none (.store 2 aT21 aS1), iQm 22 0] (iSr [.s (.loadN 2 aT21), iCa 33 [aS0], .s (.mv aS0), .s (.ext 0 aS0), .s (.ext 1 aS1), iQm 23 1, iQm 24 0] (iSr [.s (.build [(I 0), (I 0)] [(0, 1, aC0), (1, 1, aC1)]), .s (.build [(I 0), (I 0)] [(0, 1, aC1), (1, 1, aC2)]), .w .push none (.bslice 2 2 [(I 0), (I 0)] [(0, 2, aS1), (2, 2, aS0)]), .s (.build [(I 0), .nils] [(0, 1, aC3), (1, 1, aS0)]), .w .push none (.bslice 1 2 [(I 0)] [(0, 1, aC1), (1, 1, aC2)]), iCa 78 [aS1, aS0], .s (.mv aS0), .s (.ext 0 aS0), .s (.ext 1 aS1), iQm 25 1, iQm 26 0] (iSr [iSm 22, iSm 24, .s (.bin .add .int aS1 aS0), iSm 26, .s (.bin .add .int aS1 aS0), .s (.bin .eql .int aS0 aC0), .s (.mv aS0), iPt 0 (.mv aT23), iPt 1 (.bin .eql .int aS0 aC26), .s (.pick aS2 aS0 (.c (.bool false))), .s (.mv aS0), iPt 0 (.mv aT25), .w .push (some (aS1, true)) (.bslice 1 3 [(I 0)] [(0, 1, aC1), (1, 1, aC3), (2, 1, aC2)]), .w .push (some (aS2, true)) (.call (.c (.fn 49 (.of 49) [])) [aS1, aS0]), .s (.pick aS3 aS0 (.c (.bool false))), .s (.mv aS0), iPt 0 (.mv aT17), .w .push (some (aS1, true)) (.bslice 1 4 [(.str [])] [(0, 1, (.c (.str [110, 111, 114, 109, 97, 108]))), (1, 1, (.c (.str [115, 101, 109, 105, 109, 97, 103, 105, 99]))), (2, 1, (.c (.str [109, 97, 103, 105, 99]))), (3, 1, (.c (.str [97, 115, 115, 111, 99, 105, 97, 116, 105, 118, 101])))]), .w .push (some (aS2, true)) (.call (.c (.fn 53 (.of 53) [])) [aS1, aS0]), .s (.pick aS3 aS0 (.c (.bool false))), .s (.mv aS0), iPt 0 (.mv aT19), .w .push (some (aS1, true)) (.bslice 1 9 [(I 0)] [(0, 1, aC8), (1, 1, aC3), (2, 1, aC4), (3, 1, aC1), (4, 1, aC5), (5, 1, aC9), (6, 1, aC6), (7, 1, aC7), (8, 1, aC2)]), .w .push (some (aS2, true)) (.call (.c (.fn 49 (.of 49) [])) [aS1, aS0]), .s (.pick aS3 aS0 (.c (.bool false))), iQm 0 0] .ret))))
def F17.g1 (X2 : IR) : IR := (.seq (iSr [iSm 7, .s (.len aS0), .s (.bin .neq .int aS0 aC3), .s (.mv aS0), iPf 0 (.mv aT7), iPf 1 (.iaddr 1 aS0 aC0), iPf 2 (.load aS0), .w .push (some (aS3, false)) (.bslice 1 9 [(.str [])] [(0, 1, (.c (.str [49]))), (1, 1, (.c (.str [48]))), (2, 1, (.c (.str [48]))), (3, 1, (.c (.str [45, 50, 47, 51]))), (4, 1, (.c (.str [49, 47, 51]))), (5, 1, (.c (.str [52, 47, 51]))), (6, 1, (.c (.str [50, 47, 51]))), (7, 1, (.c (.str [50, 47, 51]))), (8, 1, (.c (.str [45, 49, 47, 51])))]), .w .push (some (aS4, false)) (.call (.c (.fn 29 (.of 29) [])) [aS1, aS0]), iPf 5 (.not aS0), .s (.pick aS6 (.c (.bool true)) aS0), .s (.mv aS0), iPf 0 (.mv aT9), .w .push (some (aS1, false)) (.bslice 1 3 [(.str [])] [(0, 1, (.c (.str [50]))), (1, 1, (.c (.str [55]))), (2, 1, (.c (.str [54])))]), .w .push (some (aS2, false)) (.call (.c (.fn 29 (.of 29) [])) [aS1, aS0]), iPf 3 (.not aS0), .s (.pick aS4 (.c (.bool true)) aS0), .s (.mv aS0), iPf 0 (.mv aT15), iPf 1 (.len aS0), iPf 2 (.bin .neq .int aS0 aC1), .s (.pick aS3 (.c (.bool true)) aS0), .s (.mv aS0), iPf 0 (.mv aT15), iPf 1 (.iaddr 2 aS0 aC0), iPf 2 (.faddr 0 aS0), iPf 3 (.load aS0), iPf 4 (.bin .neq .int aS0 aC5), .s (.pick aS5 (.c (.bool true)) aS0), .s (.mv aS0), iPf 0 (.mv aT15), iPf 1 (.iaddr 2 aS0 aC0), iPf 2 (.faddr 1 aS0), iPf 3 (.load aS0), .w .push (some (aS4, false)) (.bslice 1 5 [(.str [])] [(0, 1, (.c (.str [49]))), (1, 1, (.c (.str [49]))), (2, 1, (.c (.str [49]))), (3, 1, (.c (.str [45, 49]))), (4, 1, (.c (.str [45, 49])))]), .w .push (some (aS5, false)) (.call (.c (.fn 29 (.of 29) [])) [aS1, aS0]), iPf 6 (.not aS0), iQo 28 (.pick aS7 (.c (.bool true)) aS0)] (.cond aT28 (iSr [iQo 0 (.mv (.c (.bool false)))] .ret) .skip)) X2)
def F17.b1 : IR := F17.g1 F17.b2
def F17.g0 (X1 : IR) : IR := (iSr [iQo 0 (.mv (.c (.bool false)))] (iSr [.w .push none (.call (.c (.fn 65 (.of 65) [])) [(.c (.str [109, 97, 103, 105, 99])), aC3]), .s (.mv aS0), .s (.ext 0 aS0), .s (.ext 1 aS1), iWl 1 (.alloc [(I 0), .nils]), .w .none none (.store 2 aT1 aS1), iQm 2 0] (.seq (.dreg [] [(.s (.loadN 2 aT1), 1, []), (iCa 85 [], 0, []), (iCa 48 [aS1, aS0], 0, []), (.s (.mv aS0), 0, []), (.s (.ext 0 aS0), 0, []), (.s (.ext 1 aS1), 0, []), (iQm 3 1, 0, []), (iQm 4 0, 0, [])]) (.seq (.dreg [] [(.s (.loadN 2 aT1), 1, []), (iCa 85 [], 0, []), (iCa 43 [aS1, aS0], 0, []), (.s (.mv aS0), 0, []), (.s (.ext 0 aS0), 0, []), (.s (.ext 1 aS1), 0, []), (iQm 5 1, 0, []), (iQm 6 0, 0, [])]) (iSr [.s (.loadN 2 aT1), iCa 23 [aS0], .s (.mv aS0), .s (.ext 0 aS0), .s (.ext 1 aS1), iQm 7 1, iQm 8 0] (.seq (.dreg [] [(.s (.loadN 2 aT1), 1, []), (iCa 85 [], 0, []), (iCa 24 [aS1, aS0], 0, []), (.s (.mv aS0), 0, []), (.s (.ext 0 aS0), 0, []), (.s (.ext 1 aS1), 0, []), (iQm 9 1, 0, []), (iQm 10 0, 0, [])]) (iSr [.s (.loadN 2 aT1), iCa 33 [aS0], .s (.mv aS0), .s (.ext 0 aS0), .s (.ext 1 aS1), iQm 11 1, iQm 12 0] (iSr [.w .push none (.call (.c (.fn 65 (.of 65) [])) [(.c (.str [115, 101, 109, 105, 109, 97, 103, 105, 99])), aC3]), .s (.mv aS0), .s (.ext 0 aS0), .s (.ext 1 aS1), iWl 13 (.alloc [(I 0), .nils]), .w .none none (.store 2 aT13 aS1), iQm 14 0] (iSr [.s (.loadN 2 aT13), iCa 31 [aS0], .s (.mv aS0), .s (.ext 0 aS0), .s (.ext 1 aS1), iQm 15 1, iQm 16 0] (iSr [iCa 85 [], .s (.build [(I 0), (I 0), .nils] [(0, 1, aC3), (1, 1, aC3), (2, 1, aS0)]), iCa 51 [aS0], .s (.mv aS0), .s (.ext 0 aS0), .s (.ext 1 aS1), iQm 17 1, iQm 18 0] (iSr [iCa 85 [], iCa 47 [aS0], .s (.mv aS0), .s (.ext 0 aS0), .s (.ext 1 aS1), iQm 19 1, iQm 20 0] (.seq (iSr [iSm 2, iSm 4, .s (.bin .add .int aS1 aS0), iSm 6, .s (.bin .add .int aS1 aS0), iSm 8, .s (.bin .add .int aS1 aS0), iSm 10, .s (.bin .add .int aS1 aS0), iSm 12, .s (.bin .add .int aS1 aS0), iSm 14, .s (.bin .add .int aS1 aS0), iSm 16, .s (.bin .add .int aS1 aS0), iSm 18, .s (.bin .add .int aS1 aS0), iSm 20, .s (.bin .add .int aS1 aS0), .s (.bin .neq .int aS0 aC0), .s (.mv aS0), iPf 0 (.faddr 1 aT1), iPf 1 (.load aS0), iPf 2 (.len aS0), iPf 3 (.bin .neq .int aS0 aC8), .s (.pick aS4 (.c (.bool true)) aS0), .s (.mv aS0), iPf 0 (.faddr 1 aT1), iPf 1 (.load aS0), iPf 2 (.iaddr 1 aS0 aC7), iPf 3 (.load aS0), .w .push (some (aS4, false)) (.bslice 1 3 [(I 0)] [(0, 1, aC2), (1, 1, aC4), (2, 1, aC6)]), .w .push (some (aS5, false)) (.call (.c (.fn 49 (.of 49) [])) [aS1, aS0]), iPf 6 (.not aS0), .s (.pick aS7 (.c (.bool true)) aS0), .s (.mv aS0), iPf 0 (.mv aT3), .w .push (some (aS1, false)) (.bslice 1 8 [(I 0)] [(0, 1, aC15), (1, 1, aC15), (2, 1, aC15), (3, 1, aC15), (4, 1, aC15), (5, 1, aC15), (6, 1, aC15), (7, 1, aC15)]), .w .push (some (aS2, false)) (.call (.c (.fn 49 (.of 49) [])) [aS1, aS0]), iPf 3 (.not aS0), .s (.pick aS4 (.c (.bool true)) aS0), .s (.mv aS0), iPf 0 (.mv aT5), iPf 1 (.not aS0), .s (.pick aS2 (.c (.bool true)) aS0), .s (.mv aS0), iPf 0 (.mv aT11), iPf 1 (.bin .neq .int aS0 aC15), iQo 27 (.pick aS2 (.c (.bool true)) aS0)] (.cond aT27 (iSr [iQo 0 (.mv (.c (.bool false)))] .ret) .skip)) X1))))))))))))
def F17.b0 : IR := F17.g0 F17.b1
def F17.res : List RV := [.t (.of 0)]
def F17 : Fn := { params := [], res := F17.res, body := F17.b0, init := in29 }
theorem F17.ok : fnA Tryz.prog Tryz.f17 [0, 1, 2, 3, 4, 5, 6, 7, 8, 9, 10, 11, 12, 13, 14, 15, 16, 17, 18, 19, 20, 21, 22, 23, 24, 25, 26, 127, 165] = some F17 := by kernel_rfl
abbrev F18.fr := fr11
def F18.b7 : IR := (iSr [iSm 8, iQm 4 0] (iSr [.s (.loadN 2 aT1), iSm 4, iCa 89 [aS1, aS0], iQm 5 0] (iSr [iSm 5, iQo 10 (.bin .neq .int aS0 aC0)] (.cond aT10 (iSr [iSm 5, iQm 2 0] .ret) .skip))))
def F18.g6 (X7 : IR) : IR := (.block 1 X7)
def F18.b6 : IR := F18.g6 F18.b7
def F18.b8 : IR := (.reg [.s (.bin .add .int aT8 aC1), iQm 8 0])
def F18.g5 (X6 X8 : IR) : IR := (.seq X6 X8)
def F18.b5 : IR := F18.g5 F18.b6 F18.b8
def F18.g4 (X5 : IR) : IR := (iSr [iQo 9 (.bin .lss .int aT8 aT7)] (.seq (.cond aT9 .skip (.exit 0)) X5))
def F18.b4 : IR := F18.g4 F18.b5
def F18.g3 (X4 : IR) : IR := (.loop X4)
def F18.b3 : IR := F18.g3 F18.b4
def F18.g2 (X3 : IR) : IR := (.block 0 X3)
def F18.b2 : IR := F18.g2 F18.b3
def F18.b9 : IR := (iSr [iQo 2 (.mv aC0)] .ret)
def F18.g1 (X2 X9 : IR) : IR := (.seq (iSr [.s (.faddr 1 aT1), .s (.load aS0), iQo 7 (.len aS0), iQo 8 (.mv aC0)] X2) X9)
def F18.b1 : IR := F18.g1 F18.b2 F18.b9
def F18.g0 (X1 : IR) : IR := (iSr [iWl 1 (.box aT0), iQo 2 (.mv aC0)] (.seq (.seq (.dreg [] [(.s (.faddr 0 aT1), 0, []), (.s (.load aS0), 0, []), (.s (.faddr 1 aT1), 2, []), (.s (.load aS0), 2, []), (.s (.len aS0), 2, []), (.s (.bin .gtr .int aS0 aC128), 2, []), (.w .push none (.bslice 1 1 [(I 0)] [(0, 1, aS4)]), 0, []), (iCa 87 [aC1, aC256, aS0], 0, []), (iCa 88 [aS2, aC5], 0, []), (.w .push none (.bslice 1 2 [(I 0)] [(0, 1, aS1), (1, 1, aS0)]), 0, []), (iCa 86 [aS0], 0, []), (iQm 3 0, 0, [])]) (iSr [iSm 3, iQo 6 (.bin .neq .int aS0 aC0)] (.cond aT6 (iSr [iSm 3, iQm 2 0] .ret) .skip))) X1))
def F18.b0 : IR := F18.g0 F18.b1
def F18.res : List RV := [.t (.of 2)]
def F18 : Fn := { params := [(.of 0)], res := F18.res, body := F18.b0, init := in11 }
theorem F18.ok : fnA Tryz.prog Tryz.f18 [0, 1, 2, 3, 4, 5, 18, 22, 23, 24, 30] = some F18 := by kernel_rfl
abbrev F19.fr := fr14
def F19.b16 : IR := (.seq (.dreg [] [(iSm 5, 0, []), (.s (.bin .gtr .int aS0 aC0), 0, []), (.s (.mv aS0), 0, []), (iPt 0 (.mv aT4), 0, []), (iPt 1 (.mv aT5), 0, []), (iPt 2 (.iaddr 1 aS1 aS0), 0, []), (iPt 3 (.load aS0), 0, []), (iPt 4 (.mv aT4), 0, []), (iPt 5 (.mv aT5), 0, []), (iPt 6 (.bin .sub .int aS0 aC1), 0, []), (iPt 7 (.iaddr 1 aS2 aS0), 0, []), (iPt 8 (.load aS0), 0, []), (iPt 9 (.bin .leq .int aS5 aS0), 0, []), (iQo 12 (.pick aS10 aS0 (.c (.bool false))), 0, [])]) (.cond aT12 (iSr [iQo 2 (.mv aC11)] .ret) .skip))
def F19.g15 (X16 : IR) : IR := (.seq (.seq (.dreg [] [(iSm 4, 0, []), (iSm 5, 0, []), (.s (.iaddr 1 aS1 aS0), 0, []), (.s (.load aS0), 0, []), (.s (.bin .lss .int aS0 aC0), 0, []), (.s (.mv aS0), 0, []), (iPf 0 (.mv aT4), 0, []), (iPf 1 (.mv aT5), 0, []), (iPf 2 (.iaddr 1 aS1 aS0), 0, []), (iPf 3 (.load aS0), 0, []), (iPf 4 (.faddr 0 aT1), 0, []), (iPf 5 (.load aS0), 0, []), (iPf 6 (.bin .geq .int aS2 aS0), 0, []), (iQo 11 (.pick aS7 (.c (.bool true)) aS0), 0, [])]) (.cond aT11 (iSr [iQo 2 (.mv aC10)] .ret) .skip)) X16)
def F19.b15 : IR := F19.g15 F19.b16
def F19.g14 (X15 : IR) : IR := (.block 3 X15)
def F19.b14 : IR := F19.g14 F19.b15
def F19.b17 : IR := (.reg [iSm 5, .s (.bin .add .int aS0 aC1), iQm 5 0])
def F19.g13 (X14 X17 : IR) : IR := (.seq X14 X17)
def F19.b13 : IR := F19.g13 F19.b14 F19.b17
def F19.g12 (X13 : IR) : IR := (.seq (iSr [iSm 5, iSm 4, .s (.len aS0), iQo 10 (.bin .lss .int aS2 aS0)] (.cond aT10 .skip (.exit 2))) X13)
def F19.b12 : IR := F19.g12 F19.b13
def F19.g11 (X12 : IR) : IR := (.loop X12)
def F19.b11 : IR := F19.g11 F19.b12
def F19.g10 (X11 : IR) : IR := (.block 2 X11)
def F19.b10 : IR := F19.g10 F19.b11
def F19.b18 : IR := (iSr [.s (.faddr 1 aT1), .s (.load aS0), iSm 3, .s (.slice 1 aS1 none (some aS0) none), iSm 4, iWl 13 (.call (.c (.fn 90 (.of 90) [])) [aS1, aS0])] (.cond aT13 (iSr [iQo 2 (.mv aC9)] .ret) .skip))
def F19.g9 (X10 X18 : IR) : IR := (.seq (iSr [iQo 5 (.mv aC0)] X10) X18)
def F19.b9 : IR := F19.g9 F19.b10 F19.b18
def F19.g8 (X9 : IR) : IR := (iSr [.s (.faddr 1 aT1), .s (.load aS0), iSm 3, .s (.iaddr 1 aS1 aS0), .s (.load aS0), iQm 4 0] (.seq (iSr [iSm 4, .s (.len aS0), iQo 9 (.bin .eql .int aS0 aC0)] (.cond aT9 (iSr [iQo 2 (.mv aC12)] .ret) .skip)) X9))
def F19.b8 : IR := F19.g8 F19.b9
def F19.g7 (X8 : IR) : IR := (.block 1 X8)
def F19.b7 : IR := F19.g7 F19.b8
def F19.b19 : IR := (.reg [iSm 3, .s (.bin .add .int aS0 aC1), iQm 3 0])
def F19.g6 (X7 X19 : IR) : IR := (.seq X7 X19)
def F19.b6 : IR := F19.g6 F19.b7 F19.b19
def F19.g5 (X6 : IR) : IR := (.seq (iSr [iSm 3, .s (.faddr 1 aT1), .s (.load aS0), .s (.len aS0), iQo 8 (.bin .lss .int aS3 aS0)] (.cond aT8 .skip (.exit 0))) X6)
def F19.b5 : IR := F19.g5 F19.b6
def F19.g4 (X5 : IR) : IR := (.loop X5)
def F19.b4 : IR := F19.g4 F19.b5
def F19.g3 (X4 : IR) : IR := (.block 0 X4)
def F19.b3 : IR := F19.g3 F19.b4
def F19.b20 : IR := (iSr [iQo 2 (.mv aC0)] .ret)
def F19.g2 (X3 X20 : IR) : IR := (.seq (iSr [iQo 3 (.mv aC0)] X3) X20)
def F19.b2 : IR := F19.g2 F19.b3 F19.b20
def F19.g1 (X2 : IR) : IR := (.seq (iSr [.s (.faddr 1 aT1), .s (.load aS0), .s (.len aS0), iQo 7 (.bin .gtr .int aS0 aC128)] (.cond aT7 (iSr [iQo 2 (.mv aC5)] .ret) .skip)) X2)
def F19.b1 : IR := F19.g1 F19.b2
def F19.g0 (X1 : IR) : IR := (iSr [iWl 1 (.box aT0), iQo 2 (.mv aC0)] (.seq (iSr [.s (.faddr 0 aT1), .s (.load aS0), .s (.bin .lss .int aS0 aC1), .s (.mv aS0), iPf 0 (.faddr 0 aT1), iPf 1 (.load aS0), iPf 2 (.bin .gtr .int aS0 aC256), iQo 6 (.pick aS3 (.c (.bool true)) aS0)] (.cond aT6 (iSr [iQo 2 (.mv aC3)] .ret) .skip)) X1))
def F19.b0 : IR := F19.g0 F19.b1
def F19.res : List RV := [.t (.of 2)]
def F19 : Fn := { params := [(.of 0)], res := F19.res, body := F19.b0, init := in14 }
theorem F19.ok : fnA Tryz.prog Tryz.f19 [0, 1, 2, 3, 4, 5, 13, 17, 22, 32, 36, 52, 66, 72] = some F19 := by kernel_rfl
abbrev F20.fr := fr14
def F20.b8 : IR := (.seq (.dreg [] [(iSm 6, 0, []), (.s (.not aS0), 0, []), (.s (.aaddr 1 2 aT5 aC0), 1, []), (.s (.load aS0), 1, []), (.s (.aaddr 1 2 aT5 aC1), 1, []), (.s (.load aS0), 1, []), (.s (.bin .geq .int aS2 aS0), 1, []), (.s (.faddr 1 aT1), 2, []), (.s (.load aS0), 2, []), (iSm 4, 2, []), (.s (.slice 2 aS1 none (some aS0) none), 2, []), (.s (.loadN 2 aT5), 2, []), (iCa 88 [aS10, aC10], 0, []), (iCa 88 [aS6, aC11], 0, []), (iCa 91 [aS3, aS2], 0, []), (iCa 88 [aS0, aC9], 0, []), (.w .push none (.bslice 1 3 [(I 0)] [(0, 1, aS3), (1, 1, aS2), (2, 1, aS0)]), 0, []), (iCa 86 [aS0], 0, []), (iQm 7 0, 0, [])]) (iSr [iSm 7, iQo 13 (.bin .neq .int aS0 aC0)] (.cond aT13 (iSr [iSm 7, iQm 2 0] .ret) .skip)))
def F20.g7 (X8 : IR) : IR := (iSr [iSm 11, .s (.iaddr 2 aT9 aT11), .s (.loadN 2 aS0), iWl 5 (.alloc [(I 0), (I 0)]), iQm 4 2, .w .none none (.store 2 aT5 aS0)] (iSr [.s (.aaddr 1 2 aT5 aC0), .s (.load aS0), .s (.bin .geq .int aS0 aC0), .s (.mv aS0), iPt 0 (.aaddr 1 2 aT5 aC0), iPt 1 (.load aS0), iPt 2 (.faddr 0 aT1), iPt 3 (.load aS0), iPt 4 (.bin .lss .int aS2 aS0), .s (.pick aS5 aS0 (.c (.bool false))), .s (.mv aS0), iPt 0 (.aaddr 1 2 aT5 aC1), iPt 1 (.load aS0), iPt 2 (.bin .geq .int aS0 aC0), .s (.pick aS3 aS0 (.c (.bool false))), .s (.mv aS0), iPt 0 (.aaddr 1 2 aT5 aC1), iPt 1 (.load aS0), iPt 2 (.faddr 0 aT1), iPt 3 (.load aS0), iPt 4 (.bin .lss .int aS2 aS0), .s (.pick aS5 aS0 (.c (.bool false))), iQm 6 0] X8))
def F20.b7 : IR := F20.g7 F20.b8
def F20.g6 (X7 : IR) : IR := (.block 1 X7)
def F20.b6 : IR := F20.g6 F20.b7
def F20.b9 : IR := (.reg [.s (.bin .add .int aT11 aC1), iQm 11 0])
def F20.g5 (X6 X9 : IR) : IR := (.seq X6 X9)
def F20.b5 : IR := F20.g5 F20.b6 F20.b9
def F20.g4 (X5 : IR) : IR := (iSr [iQo 12 (.bin .lss .int aT11 aT10)] (.seq (.cond aT12 .skip (.exit 0)) X5))
def F20.b4 : IR := F20.g4 F20.b5
def F20.g3 (X4 : IR) : IR := (.loop X4)
def F20.b3 : IR := F20.g3 F20.b4
def F20.g2 (X3 : IR) : IR := (.block 0 X3)
def F20.b2 : IR := F20.g2 F20.b3
def F20.b10 : IR := (iSr [iQo 2 (.mv aC0)] .ret)
def F20.g1 (X2 X10 : IR) : IR := (.seq (iSr [.s (.faddr 1 aT1), iQo 9 (.load aS0), iQo 10 (.len aT9), iQo 11 (.mv aC0)] X2) X10)
def F20.b1 : IR := F20.g1 F20.b2 F20.b10
def F20.g0 (X1 : IR) : IR := (iSr [iWl 1 (.box aT0), iQo 2 (.mv aC0)] (.seq (.seq (.dreg [] [(.s (.faddr 0 aT1), 0, []), (.s (.load aS0), 0, []), (.s (.faddr 1 aT1), 2, []), (.s (.load aS0), 2, []), (.s (.len aS0), 2, []), (.s (.bin .gtr .int aS0 aC32), 2, []), (.w .push none (.bslice 1 1 [(I 0)] [(0, 1, aS4)]), 0, []), (iCa 87 [aC1, aC16, aS0], 0, []), (iCa 88 [aS2, aC5], 0, []), (.w .push none (.bslice 1 2 [(I 0)] [(0, 1, aS1), (1, 1, aS0)]), 0, []), (iCa 86 [aS0], 0, []), (iQm 3 0, 0, [])]) (iSr [iSm 3, iQo 8 (.bin .neq .int aS0 aC0)] (.cond aT8 (iSr [iSm 3, iQm 2 0] .ret) .skip))) X1))
def F20.b0 : IR := F20.g0 F20.b1
def F20.res : List RV := [.t (.of 2)]
def F20 : Fn := { params := [(.of 0)], res := F20.res, body := F20.b0, init := in14 }
theorem F20.ok : fnA Tryz.prog Tryz.f20 [0, 1, 2, 3, 4, 5, 6, 7, 20, 23, 24, 25, 26, 71] = some F20 := by kernel_rfl
abbrev F21.fr := fr13
def F21.b16 : IR := (.seq (.dreg [] [(.s (.faddr 1 aT1), 0, []), (.s (.load aS0), 0, []), (iSm 5, 0, []), (.s (.iaddr 2 aS1 aS0), 0, []), (.s (.loadN 2 aS0), 0, []), (.s (.loadN 2 aT4), 0, []), (iQo 12 (.bin .eql (.agg 2) aS1 aS0), 0, [])]) (.cond aT12 (iSr [iQo 2 (.mv aC9)] .ret) .skip))
def F21.g15 (X16 : IR) : IR := (.block 3 X16)
def F21.b15 : IR := F21.g15 F21.b16
def F21.b17 : IR := (.reg [iSm 5, .s (.bin .add .int aS0 aC1), iQm 5 0])
def F21.g14 (X15 X17 : IR) : IR := (.seq X15 X17)
def F21.b14 : IR := F21.g14 F21.b15 F21.b17
def F21.g13 (X14 : IR) : IR := (.seq (iSr [iSm 5, iSm 3, iQo 11 (.bin .lss .int aS1 aS0)] (.cond aT11 .skip (.exit 2))) X14)
def F21.b13 : IR := F21.g13 F21.b14
def F21.g12 (X13 : IR) : IR := (.loop X13)
def F21.b12 : IR := F21.g12 F21.b13
def F21.g11 (X12 : IR) : IR := (.block 2 X12)
def F21.b11 : IR := F21.g11 F21.b12
def F21.g10 (X11 : IR) : IR := (iSr [iQo 5 (.mv aC0)] X11)
def F21.b10 : IR := F21.g10 F21.b11
def F21.g9 (X10 : IR) : IR := (.seq (iSr [.s (.aaddr 1 2 aT4 aC0), .s (.load aS0), .s (.aaddr 1 2 aT4 aC1), .s (.load aS0), iQo 10 (.bin .geq .int aS2 aS0)] (.cond aT10 (iSr [iQo 2 (.mv aC11)] .ret) .skip)) X10)
def F21.b9 : IR := F21.g9 F21.b10
def F21.g8 (X9 : IR) : IR := (iSr [.s (.faddr 1 aT1), .s (.load aS0), iSm 3, .s (.iaddr 2 aS1 aS0), .s (.loadN 2 aS0), iWl 4 (.alloc [(I 0), (I 0)]), .w .none none (.store 2 aT4 aS0)] (.seq (iSr [.s (.aaddr 1 2 aT4 aC0), .s (.load aS0), .s (.bin .lss .int aS0 aC0), .s (.mv aS0), iPf 0 (.aaddr 1 2 aT4 aC0), iPf 1 (.load aS0), iPf 2 (.faddr 0 aT1), iPf 3 (.load aS0), iPf 4 (.bin .geq .int aS2 aS0), .s (.pick aS5 (.c (.bool true)) aS0), .s (.mv aS0), iPf 0 (.aaddr 1 2 aT4 aC1), iPf 1 (.load aS0), iPf 2 (.bin .lss .int aS0 aC0), .s (.pick aS3 (.c (.bool true)) aS0), .s (.mv aS0), iPf 0 (.aaddr 1 2 aT4 aC1), iPf 1 (.load aS0), iPf 2 (.faddr 0 aT1), iPf 3 (.load aS0), iPf 4 (.bin .geq .int aS2 aS0), iQo 9 (.pick aS5 (.c (.bool true)) aS0)] (.cond aT9 (iSr [iQo 2 (.mv aC10)] .ret) .skip)) X9))
def F21.b8 : IR := F21.g8 F21.b9
def F21.g7 (X8 : IR) : IR := (.block 1 X8)
def F21.b7 : IR := F21.g7 F21.b8
def F21.b18 : IR := (.reg [iSm 3, .s (.bin .add .int aS0 aC1), iQm 3 0])
def F21.g6 (X7 X18 : IR) : IR := (.seq X7 X18)
def F21.b6 : IR := F21.g6 F21.b7 F21.b18
def F21.g5 (X6 : IR) : IR := (.seq (iSr [iSm 3, .s (.faddr 1 aT1), .s (.load aS0), .s (.len aS0), iQo 8 (.bin .lss .int aS3 aS0)] (.cond aT8 .skip (.exit 0))) X6)
def F21.b5 : IR := F21.g5 F21.b6
def F21.g4 (X5 : IR) : IR := (.loop X5)
def F21.b4 : IR := F21.g4 F21.b5
def F21.g3 (X4 : IR) : IR := (.block 0 X4)
def F21.b3 : IR := F21.g3 F21.b4
def F21.b19 : IR := (iSr [iQo 2 (.mv aC0)] .ret)
def F21.g2 (X3 X19 : IR) : IR := (.seq (iSr [iQo 3 (.mv aC0)] X3) X19)
def F21.b2 : IR := F21.g2 F21.b3 F21.b19
def F21.g1 (X2 : IR) : IR := (.seq (iSr [.s (.faddr 1 aT1), .s (.load aS0), .s (.len aS0), iQo 7 (.bin .gtr .int aS0 aC32)] (.cond aT7 (iSr [iQo 2 (.mv aC5)] .ret) .skip)) X2)
def F21.b1 : IR := F21.g1 F21.b2
def F21.g0 (X1 : IR) : IR := (iSr [iWl 1 (.box aT0), iQo 2 (.mv aC0)] (.seq (iSr [.s (.faddr 0 aT1), .s (.load aS0), .s (.bin .lss .int aS0 aC1), .s (.mv aS0), iPf 0 (.faddr 0 aT1), iPf 1 (.load aS0), iPf 2 (.bin .gtr .int aS0 aC16), iQo 6 (.pick aS3 (.c (.bool true)) aS0)] (.cond aT6 (iSr [iQo 2 (.mv aC3)] .ret) .skip)) X1))
def F21.b0 : IR := F21.g0 F21.b1
def F21.res : List RV := [.t (.of 2)]
def F21 : Fn := { params := [(.of 0)], res := F21.res, body := F21.b0, init := in13 }
theorem F21.ok : fnA Tryz.prog Tryz.f21 [0, 1, 2, 3, 4, 5, 13, 17, 22, 51, 56, 59, 68] = some F21 := by kernel_rfl
abbrev F23.fr := fr6
def F23.b1 : IR := (iSr [.s (.loadN 2 aT1), iCa 93 [aS0], .s (.part 1 none aS0), iCa 92 [aS0], .s (.ext 0 aS0), .s (.ext 1 aS1), iQm 2 1, iQm 3 0] .ret)
def F23.g0 (X1 : IR) : IR := (iSr [iWl 1 (.box aT0), iQo 2 (.mv (.c .nils)), iQo 3 (.mv aC0)] (.seq (iSr [.s (.loadN 2 aT1), iCa 18 [aS0], iQm 4 0] (iSr [iSm 4, iQo 5 (.bin .neq .int aS0 aC0)] (.cond aT5 (iSr [iSm 4, iQo 2 (.mv (.c .nils)), iQm 3 0] .ret) .skip))) X1))
def F23.b0 : IR := F23.g0 F23.b1
def F23.res : List RV := [.t (.of 2), .t (.of 3)]
def F23 : Fn := { params := [(.of 0)], res := F23.res, body := F23.b0, init := in6 }
theorem F23.ok : fnA Tryz.prog Tryz.f23 [0, 1, 2, 3, 4, 8] = some F23 := by kernel_rfl
abbrev F24.fr := fr14
def F24.b8 : IR := (iSr [.s (.iaddr 1 aT10 aT12), .s (.load aS0), iQm 7 0] (.reg [iSm 6, iSm 1, iSm 7, .s (.iaddr 1 aS1 aS0), .s (.load aS0), iCa 96 [aS0], iCa 97 [aS0], .w .push none (.bslice 1 1 [(.str [])] [(0, 1, aS0)]), .w .push none (.app 1 16 aS7 aS0), iQm 6 0]))
def F24.g7 (X8 : IR) : IR := (.block 1 X8)
def F24.b7 : IR := F24.g7 F24.b8
def F24.b9 : IR := (.reg [.s (.bin .add .int aT12 aC1), iQm 12 0])
def F24.g6 (X7 X9 : IR) : IR := (.seq X7 X9)
def F24.b6 : IR := F24.g6 F24.b7 F24.b9
def F24.g5 (X6 : IR) : IR := (iSr [iQo 13 (.bin .lss .int aT12 aT11)] (.seq (.cond aT13 .skip (.exit 0)) X6))
def F24.b5 : IR := F24.g5 F24.b6
def F24.g4 (X5 : IR) : IR := (.loop X5)
def F24.b4 : IR := F24.g4 F24.b5
def F24.g3 (X4 : IR) : IR := (.block 0 X4)
def F24.b3 : IR := F24.g3 F24.b4
def F24.b10 : IR := (iSr [iSm 6, iQm 3 0, iQo 4 (.mv aC0)] .ret)
def F24.g2 (X3 X10 : IR) : IR := (iSr [iQo 6 (.mv (.c .nils))] (.seq (iSr [.s (.loadN 2 aT2), iCa 93 [aS0], iQo 10 (.part 0 none aS0), iQo 11 (.len aT10), iQo 12 (.mv aC0)] X3) X10))
def F24.b2 : IR := F24.g2 F24.b3 F24.b10
def F24.g1 (X2 : IR) : IR := (.seq (iSr [.s (.loadN 2 aT2), iSm 1, iCa 95 [aS1, aS0], iQo 9 (.bin .geq .int aS0 aC0)] (.cond aT9 (iSr [iQo 3 (.mv (.c .nils)), iQo 4 (.mv aC16)] .ret) .skip)) X2)
def F24.b1 : IR := F24.g1 F24.b2
def F24.g0 (X1 : IR) : IR := (iSr [iWl 2 (.box aT0), iQo 3 (.mv (.c .nils)), iQo 4 (.mv aC0)] (.seq (iSr [.s (.loadN 2 aT2), iSm 1, iCa 94 [aS1, aS0], iQm 5 0] (iSr [iSm 5, iQo 8 (.bin .neq .int aS0 aC0)] (.cond aT8 (iSr [iSm 5, iQo 3 (.mv (.c .nils)), iQm 4 0] .ret) .skip))) X1))
def F24.b0 : IR := F24.g0 F24.b1
def F24.res : List RV := [.t (.of 3), .t (.of 4)]
def F24 : Fn := { params := [(.of 0), (.of 1)], res := F24.res, body := F24.b0, init := in14 }
theorem F24.ok : fnA Tryz.prog Tryz.f24 [0, 1, 2, 4, 5, 6, 7, 9, 14, 19, 22, 23, 24, 25] = some F24 := by kernel_rfl
abbrev F27.fr := fr5
def F27.b1 : IR := (iSr [iSm 1, iCa 102 [aS0], iQm 3 0] .ret)
def F27.g0 (X1 : IR) : IR := (iSr [iWl 2 (.box aT0), iQo 3 (.mv aC0)] (.seq (iSr [iSm 1, .s (.len aS0), .s (.faddr 0 aT2), .s (.load aS0), iQo 4 (.bin .neq .int aS2 aS0)] (.cond aT4 (iSr [iQo 3 (.mv aC2)] .ret) .skip)) X1))
def F27.b0 : IR := F27.g0 F27.b1
def F27.res : List RV := [.t (.of 3)]
def F27 : Fn := { params := [(.of 0), (.of 1)], res := F27.res, body := F27.b0, init := in5 }
theorem F27.ok : fnA Tryz.prog Tryz.f27 [0, 1, 2, 4, 9] = some F27 := by kernel_rfl
abbrev F28.fr := fr4
def F28.b0 : IR := (iSr [iWl 2 (.box aT0), iQo 3 (.mv (.c (.bool false)))] (iSr [.s (.loadN 2 aT2), iSm 1, iCa 60 [aS1, aS0], .s (.bin .lss .int aS0 aC0), iQm 3 0] .ret))
def F28.res : List RV := [.t (.of 3)]
def F28 : Fn := { params := [(.of 0), (.of 1)], res := F28.res, body := F28.b0, init := in4 }
theorem F28.ok : fnA Tryz.prog Tryz.f28 [0, 1, 2, 4] = some F28 := by kernel_rfl
abbrev F29.fr := fr7
def F29.b7 : IR := (.seq (.dreg [] [(iSm 0, 0, []), (iSm 3, 0, []), (.s (.iaddr 1 aS1 aS0), 0, []), (.s (.load aS0), 0, []), (iSm 1, 0, []), (iSm 3, 0, []), (.s (.iaddr 1 aS1 aS0), 0, []), (.s (.load aS0), 0, []), (iQo 6 (.bin .neq .str aS4 aS0), 0, [])]) (.cond aT6 (iSr [iQo 2 (.mv (.c (.bool false)))] .ret) .skip))
def F29.g6 (X7 : IR) : IR := (.block 1 X7)
def F29.b6 : IR := F29.g6 F29.b7
def F29.b8 : IR := (.reg [iSm 3, .s (.bin .add .int aS0 aC1), iQm 3 0])
def F29.g5 (X6 X8 : IR) : IR := (.seq X6 X8)
def F29.b5 : IR := F29.g5 F29.b6 F29.b8
def F29.g4 (X5 : IR) : IR := (.seq (iSr [iSm 3, iSm 0, .s (.len aS0), iQo 5 (.bin .lss .int aS2 aS0)] (.cond aT5 .skip (.exit 0))) X5)
def F29.b4 : IR := F29.g4 F29.b5
def F29.g3 (X4 : IR) : IR := (.loop X4)
def F29.b3 : IR := F29.g3 F29.b4
def F29.g2 (X3 : IR) : IR := (.block 0 X3)
def F29.b2 : IR := F29.g2 F29.b3
def F29.b9 : IR := (iSr [iQo 2 (.mv (.c (.bool true)))] .ret)
def F29.g1 (X2 X9 : IR) : IR := (.seq (iSr [iQo 3 (.mv aC0)] X2) X9)
def F29.b1 : IR := F29.g1 F29.b2 F29.b9
def F29.g0 (X1 : IR) : IR := (iSr [iQo 2 (.mv (.c (.bool false)))] (.seq (iSr [iSm 0, .s (.len aS0), iSm 1, .s (.len aS0), iQo 4 (.bin .neq .int aS2 aS0)] (.cond aT4 (iSr [iQo 2 (.mv (.c (.bool false)))] .ret) .skip)) X1))
def F29.b0 : IR := F29.g0 F29.b1
def F29.res : List RV := [.t (.of 2)]
def F29 : Fn := { params := [(.of 0), (.of 1)], res := F29.res, body := F29.b0, init := in7 }
theorem F29.ok : fnA Tryz.prog Tryz.f29 [0, 1, 4, 5, 10, 14, 25] = some F29 := by kernel_rfl
abbrev F31.fr := fr28
def F31.b13 : IR := (iSr [.s (.iaddr 3 aT22 aT24), .s (.loadN 3 aS0), iWl 11 (.alloc [.nils, .nils, (I 0)]), .w .none none (.store 3 aT11 aS0)] (iSr [iSm 9, .s (.faddr 2 aT11), .s (.load aS0), .s (.iaddr 4 aS2 aS0), .s (.loadN 4 aS0), iWl 12 (.alloc [(I 0), .nils, (I 0), .nils]), .w .none none (.store 4 aT12 aS0)] (iSr [iSm 9, .s (.loadN 4 aT12), .s (.faddr 0 aT11), .s (.load aS0), iCa 106 [aS3, aS2, aS0]] (.dreg [] [(iSm 10, 1, []), (.s (.loadN 4 aT12), 0, []), (.s (.faddr 1 aT11), 1, []), (.s (.load aS0), 1, []), (iCa 107 [aS2], 0, []), (iCa 106 [aS4, aS0, aS1], 0, [])]))))
def F31.g12 (X13 : IR) : IR := (.block 3 X13)
def F31.b12 : IR := F31.g12 F31.b13
def F31.b14 : IR := (.reg [.s (.bin .add .int aT24 aC1), iQm 24 0])
def F31.g11 (X12 X14 : IR) : IR := (.seq X12 X14)
def F31.b11 : IR := F31.g11 F31.b12 F31.b14
def F31.g10 (X11 : IR) : IR := (iSr [iQo 25 (.bin .lss .int aT24 aT23)] (.seq (.cond aT25 .skip (.exit 2)) X11))
def F31.b10 : IR := F31.g10 F31.b11
def F31.g9 (X10 : IR) : IR := (.loop X10)
def F31.b9 : IR := F31.g9 F31.b10
def F31.g8 (X9 : IR) : IR := (.block 2 X9)
def F31.b8 : IR := F31.g8 F31.b9
def F31.b16 : IR := (iSr [iSm 6, iSm 7, iSm 14, .s (.iaddr 1 aS0 aC0), .s (.load aS0), .s (.build [(I 0), .nils] [(0, 1, aS3), (1, 1, aS0)]), .w .push none (.bslice 2 1 [(I 0), .nils] [(0, 2, aS0)]), .w .push none (.appq 2 32 aS6 aS0), iQm 6 0] (.exit 1))
def F31.b17 : IR := (iSr [iSm 10, iCa 96 [(.c (I (-1)))], iCa 111 [aS1, aS0]] (iSr [iSm 10, iSm 7, iCa 96 [aC1], .s (.iaddr 4 aS2 aS1), .w .none none (.store 4 aS0 aS1)] (iSr [iSm 9, iSm 13, .s (.iaddr 4 aS1 aS0), .s (.loadN 4 aS0), iCa 112 [aS0], iWl 16 (.alloc [(I 0), .nils, (I 0), .nils]), .w .none none (.store 4 aT16 aS0)] (iSr [iSm 9, .s (.loadN 4 aT16), iCa 111 [aS1, aS0]] (iSr [iSm 10, .s (.loadN 4 aT16), iCa 111 [aS1, aS0]] (.reg [iSm 5, iSm 9, iSm 10, iSm 13, .s (.build [.nils, .nils, (I 0)] [(0, 1, aS2), (1, 1, aS1), (2, 1, aS0)]), .w .push none (.bslice 3 1 [.nils, .nils, (I 0)] [(0, 3, aS0)]), .w .push none (.app 3 56 aS5 aS0), iQm 5 0]))))))
def F31.g15 (X16 X17 : IR) : IR := (iSr [iSm 9, .w .push none (.call (.c (.fn 108 (.of 108) [])) [aS0, (.c (.fn 109 (.of 109) []))]), iQm 13 0] (.seq (iSr [iSm 13, iQo 26 (.bin .lss .int aS0 aC0)] (.cond aT26 (iSr [iSm 10, iSm 7, iSm 7, .s (.slice 4 aS2 none (some aS1) (some aS0)), .w .push none (.bslice 1 1 [.nils] [(0, 1, aS0)]), iCa 92 [aS0], .s (.mv aS0), .s (.ext 0 aS0), .s (.ext 1 aS1), iQm 14 1, iQm 15 0] (.seq (iSr [iSm 15, iQo 27 (.bin .neq .int aS0 aC0)] (.cond aT27 (iSr [iSm 15, iQo 2 (.mv (.c .nils)), iQm 3 0] .ret) .skip)) X16)) .skip)) X17))
def F31.b15 : IR := F31.g15 F31.b16 F31.b17
def F31.g7 (X8 X15 : IR) : IR := (iSr [iSm 20, .s (.iaddr 1 aT18 aT20), .s (.load aS0), iQm 7 2, iQm 8 0] (.seq (.dreg [] [(.s (.faddr 0 aT1), 0, []), (.s (.load aS0), 0, []), (iSm 8, 0, []), (.s (.faddr 1 aT1), 1, []), (.s (.load aS0), 1, []), (.s (.len aS0), 1, []), (iCa 104 [aS4, aS3], 0, []), (iCa 105 [aS1], 0, []), (iQm 9 1, 0, []), (iQm 10 0, 0, [])]) (.seq (iSr [iQo 22 (.mv aT5), iQo 23 (.len aT22), iQo 24 (.mv aC0)] X8) X15)))
def F31.b7 : IR := F31.g7 F31.b8 F31.b15
def F31.g6 (X7 : IR) : IR := (.block 1 X7)
def F31.b6 : IR := F31.g6 F31.b7
def F31.b18 : IR := (.reg [.s (.bin .add .int aT20 aC1), iQm 20 0])
def F31.g5 (X6 X18 : IR) : IR := (.seq X6 X18)
def F31.b5 : IR := F31.g5 F31.b6 F31.b18
def F31.g4 (X5 : IR) : IR := (iSr [iQo 21 (.bin .lss .int aT20 aT19)] (.seq (.cond aT21 .skip (.exit 0)) X5))
def F31.b4 : IR := F31.g4 F31.b5
def F31.g3 (X4 : IR) : IR := (.loop X4)
def F31.b3 : IR := F31.g3 F31.b4
def F31.g2 (X3 : IR) : IR := (.block 0 X3)
def F31.b2 : IR := F31.g2 F31.b3
def F31.b19 : IR := (iSr [iSm 6, iQm 2 0, iQo 3 (.mv aC0)] .ret)
def F31.g1 (X2 X19 : IR) : IR := (iSr [iQo 5 (.mv (.c .nils))] (iSr [iQo 6 (.mv (.c .nils))] (.seq (iSr [.s (.faddr 1 aT1), iQo 18 (.load aS0), iQo 19 (.len aT18), iQo 20 (.mv aC0)] X2) X19)))
def F31.b1 : IR := F31.g1 F31.b2 F31.b19
def F31.g0 (X1 : IR) : IR := (iSr [iWl 1 (.box aT0), iQo 2 (.mv (.c .nils)), iQo 3 (.mv aC0)] (.seq (iSr [.s (.loadN 2 aT1), iCa 18 [aS0], iQm 4 0] (iSr [iSm 4, iQo 17 (.bin .neq .int aS0 aC0)] (.cond aT17 (iSr [iSm 4, iQo 2 (.mv (.c .nils)), iQm 3 0] .ret) .skip))) X1))
def F31.b0 : IR := F31.g0 F31.b1
def F31.res : List RV := [.t (.of 2), .t (.of 3)]
def F31 : Fn := { params := [(.of 0)], res := F31.res, body := F31.b0, init := in28 }
theorem F31.ok : fnA Tryz.prog Tryz.f31 [0, 1, 2, 3, 4, 5, 6, 7, 8, 9, 10, 12, 13, 14, 15, 16, 17, 21, 24, 25, 26, 27, 39, 40, 41, 42, 65, 76] = some F31 := by kernel_rfl
abbrev F33.fr := fr32
def F33.b14 : IR := (iSr [.s (.iaddr 4 aT21 aT23), .s (.loadN 4 aS0), iWl 10 (.alloc [(I 0), .nils, (I 0), .nils]), .w .none none (.store 4 aT10 aS0)] (.reg [.s (.faddr 0 aT9), .s (.loadN 4 aS0), .s (.loadN 4 aT10), iCa 114 [aS1, aS0], .s (.faddr 0 aT9), .w .none none (.store 4 aS0 aS1)]))
def F33.g13 (X14 : IR) : IR := (.block 3 X14)
def F33.b13 : IR := F33.g13 F33.b14
def F33.b15 : IR := (.reg [.s (.bin .add .int aT23 aC1), iQm 23 0])
def F33.g12 (X13 X15 : IR) : IR := (.seq X13 X15)
def F33.b12 : IR := F33.g12 F33.b13 F33.b15
def F33.g11 (X12 : IR) : IR := (iSr [iQo 24 (.bin .lss .int aT23 aT22)] (.seq (.cond aT24 .skip (.exit 2)) X12))
def F33.b11 : IR := F33.g11 F33.b12
def F33.g10 (X11 : IR) : IR := (.loop X11)
def F33.b10 : IR := F33.g10 F33.b11
def F33.g9 (X10 : IR) : IR := (.block 2 X10)
def F33.b9 : IR := F33.g9 F33.b10
def F33.b22 : IR := (iSr [.s (.iaddr 1 aT25 aT27), .s (.load aS0), iQm 11 0] (.dreg [] [(.s (.faddr 4 aT9), 0, []), (.s (.loadN 4 aS0), 0, []), (iSm 8, 0, []), (iSm 11, 0, []), (.s (.iaddr 4 aS1 aS0), 0, []), (.s (.loadN 4 aS0), 0, []), (iCa 114 [aS4, aS0], 0, []), (.s (.faddr 4 aT9), 0, []), (.w .none none (.store 4 aS0 aS1), 0, [])]))
def F33.g21 (X22 : IR) : IR := (.block 5 X22)
def F33.b21 : IR := F33.g21 F33.b22
def F33.b23 : IR := (.reg [.s (.bin .add .int aT27 aC1), iQm 27 0])
def F33.g20 (X21 X23 : IR) : IR := (.seq X21 X23)
def F33.b20 : IR := F33.g20 F33.b21 F33.b23
def F33.g19 (X20 : IR) : IR := (iSr [iQo 28 (.bin .lss .int aT27 aT26)] (.seq (.cond aT28 .skip (.exit 4)) X20))
def F33.b19 : IR := F33.g19 F33.b20
def F33.g18 (X19 : IR) : IR := (.loop X19)
def F33.b18 : IR := F33.g18 F33.b19
def F33.g17 (X18 : IR) : IR := (.block 4 X18)
def F33.b17 : IR := F33.g17 F33.b18
def F33.b25 : IR := (.reg [iSm 7, .s (.loadN 8 aT9), .w .push none (.bslice 8 1 [(I 0), .nils, (I 0), .nils, (I 0), .nils, (I 0), .nils] [(0, 8, aS0)]), .w .push none (.app 8 128 aS2 aS0), iQm 7 0])
def F33.g24 (X25 : IR) : IR := (.seq (iSr [.s (.faddr 4 aT9), .s (.loadN 4 aS0), iCa 110 [aS0], .s (.bin .neq .int aS0 aC0), .s (.mv aS0), iPt 0 (.mv aT6), iPt 1 (.not aS0), iQo 29 (.pick aS2 aS0 (.c (.bool false)))] (.cond aT29 (.reg [.s (.faddr 0 aT9), .s (.loadN 4 aS0), .s (.faddr 4 aT9), .s (.loadN 4 aS0), iCa 115 [aS2, aS0], .w .none none (.store 4 aT5 aS0), iQo 6 (.mv (.c (.bool true)))]) .skip)) X25)
def F33.b24 : IR := F33.g24 F33.b25
def F33.g16 (X17 X24 : IR) : IR := (.seq (iSr [.s (.faddr 1 aT1), .s (.load aS0), .s (.iaddr 1 aS0 aC0), iQo 25 (.load aS0), iQo 26 (.len aT25), iQo 27 (.mv aC0)] X17) X24)
def F33.b16 : IR := F33.g16 F33.b17 F33.b24
def F33.g8 (X9 X16 : IR) : IR := (iSr [.s (.iaddr 1 aT17 aT19), .s (.load aS0), iQm 8 0] (iSr [iCa 96 [aC0], iCa 96 [aC0], .s (.build [(I 0), .nils, (I 0), .nils, (I 0), .nils, (I 0), .nils] [(0, 4, aS1), (4, 4, aS0)]), iWl 9 (.alloc [(I 0), .nils, (I 0), .nils, (I 0), .nils, (I 0), .nils]), .w .none none (.store 8 aT9 aS0)] (.seq (iSr [iQo 21 (.mv aT8), iQo 22 (.len aT21), iQo 23 (.mv aC0)] X9) X16)))
def F33.b8 : IR := F33.g8 F33.b9 F33.b16
def F33.g7 (X8 : IR) : IR := (.block 1 X8)
def F33.b7 : IR := F33.g7 F33.b8
def F33.b26 : IR := (.reg [.s (.bin .add .int aT19 aC1), iQm 19 0])
def F33.g6 (X7 X26 : IR) : IR := (.seq X7 X26)
def F33.b6 : IR := F33.g6 F33.b7 F33.b26
def F33.g5 (X6 : IR) : IR := (iSr [iQo 20 (.bin .lss .int aT19 aT18)] (.seq (.cond aT20 .skip (.exit 0)) X6))
def F33.b5 : IR := F33.g5 F33.b6
def F33.g4 (X5 : IR) : IR := (.loop X5)
def F33.b4 : IR := F33.g4 F33.b5
def F33.g3 (X4 : IR) : IR := (.block 0 X4)
def F33.b3 : IR := F33.g3 F33.b4
def F33.b29 : IR := (iSr [iSm 13, iQm 2 0, iQo 3 (.mv aC0)] .ret)
def F33.g28 (X29 : IR) : IR := (.seq (.dreg [(.alloc [(I 0), .nils, (I 0), .nils])] [(.s (.faddr 0 aT1), 3, []), (.s (.load aS0), 3, []), (.s (.faddr 0 aT1), 3, []), (.s (.load aS0), 3, []), (.s (.bin .add .int aS0 aC1), 3, []), (.s (.bin .mul .int aS3 aS0), 3, []), (.s (.bin .quo .int aS0 aC2), 3, []), (.s (.loadN 4 aT5), 3, []), (iCa 96 [aS1], 0, []), (iCa 115 [aS0, aS1], 0, []), (iWl 12 (.alloc [(I 0), .nils, (I 0), .nils]), 0, []), (.w .none none (.store 4 aT12 aS0), 0, [])]) (iSr [.s (.loadN 4 aT12), iCa 120 [aS0], iCa 121 [aS0], .s (.mv aS0), .s (.ext 0 aS0), .s (.ext 1 aS1), iQm 13 1, iQm 14 0] (.seq (iSr [.s (.loadN 4 aT12), iCa 122 [aS0], .s (.not aS0), .s (.mv aS0), iPf 0 (.mv aT14), iPf 1 (.not aS0), iQo 31 (.pick aS2 (.c (.bool true)) aS0)] (.cond aT31 (iSr [iQo 2 (.mv aC0), iQo 3 (.mv aC21)] .ret) .skip)) X29)))
def F33.b28 : IR := F33.g28 F33.b29
def F33.g27 (X28 : IR) : IR := (.seq (iSr [iSm 6, .s (.not aS0), .s (.mv aS0), iPf 0 (.loadN 4 aT5), .w .push (some (aS1, false)) (.call (.c (.fn 110 (.of 110) [])) [aS0]), iPf 2 (.bin .eql .int aS0 aC0), .s (.pick aS3 (.c (.bool true)) aS0), .s (.mv aS0), iPf 0 (.mv aT7), iPf 1 (.fn 117 (.of 117) [aT5]), .w .push (some (aS2, false)) (.call (.c (.fn 116 (.of 116) [])) [aS1, aS0]), iQo 30 (.pick aS3 (.c (.bool true)) aS0)] (.cond aT30 (iSr [iQo 2 (.mv aC0), iQo 3 (.mv aC7)] .ret) .skip)) X28)
def F33.b27 : IR := F33.g27 F33.b28
def F33.g2 (X3 X27 : IR) : IR := (iSr [iWl 5 (.alloc [(I 0), .nils, (I 0), .nils])] (iSr [iQo 6 (.mv (.c (.bool false)))] (iSr [iQo 7 (.mv (.c .nils))] (.seq (iSr [.s (.loadN 2 aT1), iCa 93 [aS0], iQo 17 (.part 1 none aS0), iQo 18 (.len aT17), iQo 19 (.mv aC0)] X3) X27))))
def F33.b2 : IR := F33.g2 F33.b3 F33.b27
def F33.g1 (X2 : IR) : IR := (.seq (iSr [.s (.faddr 1 aT1), .s (.load aS0), .s (.len aS0), iQo 16 (.bin .eql .int aS0 aC0)] (.cond aT16 (iSr [iQo 2 (.mv aC0), iQo 3 (.mv aC7)] .ret) .skip)) X2)
def F33.b1 : IR := F33.g1 F33.b2
def F33.g0 (X1 : IR) : IR := (iSr [iWl 1 (.box aT0), iQo 2 (.mv aC0), iQo 3 (.mv aC0)] (.seq (iSr [.s (.loadN 2 aT1), iCa 18 [aS0], iQm 4 0] (iSr [iSm 4, iQo 15 (.bin .neq .int aS0 aC0)] (.cond aT15 (iSr [iSm 4, iQo 2 (.mv aC0), iQm 3 0] .ret) .skip))) X1))
def F33.b0 : IR := F33.g0 F33.b1
def F33.res : List RV := [.t (.of 2), .t (.of 3)]
def F33 : Fn := { params := [(.of 0)], res := F33.res, body := F33.b0, init := in32 }
theorem F33.ok : fnA Tryz.prog Tryz.f33 [0, 1, 2, 3, 4, 5, 6, 7, 9, 10, 12, 14, 15, 16, 17, 21, 26, 29, 30, 31, 32, 38, 39, 40, 41, 53, 54, 55, 56, 75, 97, 120] = some F33 := by kernel_rfl
abbrev F43.fr := fr7
def F43.b1 : IR := (iSr [.s (.loadN 2 aT2), iSm 1, iCa 95 [aS1, aS0], .s (.bin .lss .int aS0 aC0), iQm 3 0, iQo 4 (.mv aC0)] .ret)
def F43.g0 (X1 : IR) : IR := (iSr [iWl 2 (.box aT0), iQo 3 (.mv (.c (.bool false))), iQo 4 (.mv aC0)] (.seq (iSr [.s (.loadN 2 aT2), iSm 1, iCa 94 [aS1, aS0], iQm 5 0] (iSr [iSm 5, iQo 6 (.bin .neq .int aS0 aC0)] (.cond aT6 (iSr [iSm 5, iQo 3 (.mv (.c (.bool false))), iQm 4 0] .ret) .skip))) X1))
def F43.b0 : IR := F43.g0 F43.b1
def F43.res : List RV := [.t (.of 3), .t (.of 4)]
def F43 : Fn := { params := [(.of 0), (.of 1)], res := F43.res, body := F43.b0, init := in7 }
theorem F43.ok : fnA Tryz.prog Tryz.f43 [0, 1, 2, 4, 5, 6, 11] = some F43 := by kernel_rfl
abbrev F47.fr := fr6
def F47.b1 : IR := (iSr [.s (.load aT1), .s (.len aS0), .s (.fn 138 (.of 138) [aT1]), iCa 137 [aS1, aS0], iQm 2 0, iQo 3 (.mv aC0)] .ret)
def F47.g0 (X1 : IR) : IR := (iSr [iWl 1 (.box aT0), iQo 2 (.mv (.c .nils)), iQo 3 (.mv aC0)] (.seq (.seq (.dreg [] [(.s (.load aT1), 0, []), (.s (.load aT1), 1, []), (iCa 135 [aS1], 0, []), (iCa 136 [aS1], 0, []), (.s (.not aS0), 0, []), (iCa 88 [aS0, aC14], 0, []), (.w .push none (.bslice 1 2 [(I 0)] [(0, 1, aS3), (1, 1, aS0)]), 0, []), (iCa 86 [aS0], 0, []), (iQm 4 0, 0, [])]) (iSr [iSm 4, iQo 5 (.bin .neq .int aS0 aC0)] (.cond aT5 (iSr [iSm 4, iQo 2 (.mv (.c .nils)), iQm 3 0] .ret) .skip))) X1))
def F47.b0 : IR := F47.g0 F47.b1
def F47.res : List RV := [.t (.of 2), .t (.of 3)]
def F47 : Fn := { params := [(.of 0)], res := F47.res, body := F47.b0, init := in6 }
theorem F47.ok : fnA Tryz.prog Tryz.f47 [0, 1, 2, 3, 4, 14] = some F47 := by kernel_rfl
abbrev F48.fr := fr7
def F48.b1 : IR := (iSr [.s (.loadN 2 aT2), iSm 1, iCa 139 [aS1, aS0], iQm 3 0, iQo 4 (.mv aC0)] .ret)
def F48.g0 (X1 : IR) : IR := (iSr [iWl 2 (.box aT0), iQo 3 (.mv (.c .nils)), iQo 4 (.mv aC0)] (.seq (iSr [.s (.loadN 2 aT2), iSm 1, iCa 94 [aS1, aS0], iQm 5 0] (iSr [iSm 5, iQo 6 (.bin .neq .int aS0 aC0)] (.cond aT6 (iSr [iSm 5, iQo 3 (.mv (.c .nils)), iQm 4 0] .ret) .skip))) X1))
def F48.b0 : IR := F48.g0 F48.b1
def F48.res : List RV := [.t (.of 3), .t (.of 4)]
def F48 : Fn := { params := [(.of 0), (.of 1)], res := F48.res, body := F48.b0, init := in7 }
theorem F48.ok : fnA Tryz.prog Tryz.f48 [0, 1, 2, 4, 5, 6, 11] = some F48 := by kernel_rfl
abbrev F49.fr := fr7
def F49.b7 : IR := (.seq (.dreg [] [(iSm 0, 0, []), (iSm 3, 0, []), (.s (.iaddr 1 aS1 aS0), 0, []), (.s (.load aS0), 0, []), (iSm 1, 0, []), (iSm 3, 0, []), (.s (.iaddr 1 aS1 aS0), 0, []), (.s (.load aS0), 0, []), (iQo 6 (.bin .neq .int aS4 aS0), 0, [])]) (.cond aT6 (iSr [iQo 2 (.mv (.c (.bool false)))] .ret) .skip))
def F49.g6 (X7 : IR) : IR := (.block 1 X7)
def F49.b6 : IR := F49.g6 F49.b7
def F49.b8 : IR := (.reg [iSm 3, .s (.bin .add .int aS0 aC1), iQm 3 0])
def F49.g5 (X6 X8 : IR) : IR := (.seq X6 X8)
def F49.b5 : IR := F49.g5 F49.b6 F49.b8
def F49.g4 (X5 : IR) : IR := (.seq (iSr [iSm 3, iSm 0, .s (.len aS0), iQo 5 (.bin .lss .int aS2 aS0)] (.cond aT5 .skip (.exit 0))) X5)
def F49.b4 : IR := F49.g4 F49.b5
def F49.g3 (X4 : IR) : IR := (.loop X4)
def F49.b3 : IR := F49.g3 F49.b4
def F49.g2 (X3 : IR) : IR := (.block 0 X3)
def F49.b2 : IR := F49.g2 F49.b3
def F49.b9 : IR := (iSr [iQo 2 (.mv (.c (.bool true)))] .ret)
def F49.g1 (X2 X9 : IR) : IR := (.seq (iSr [iQo 3 (.mv aC0)] X2) X9)
def F49.b1 : IR := F49.g1 F49.b2 F49.b9
def F49.g0 (X1 : IR) : IR := (iSr [iQo 2 (.mv (.c (.bool false)))] (.seq (iSr [iSm 0, .s (.len aS0), iSm 1, .s (.len aS0), iQo 4 (.bin .neq .int aS2 aS0)] (.cond aT4 (iSr [iQo 2 (.mv (.c (.bool false)))] .ret) .skip)) X1))
def F49.b0 : IR := F49.g0 F49.b1
def F49.res : List RV := [.t (.of 2)]
def F49 : Fn := { params := [(.of 0), (.of 1)], res := F49.res, body := F49.b0, init := in7 }
theorem F49.ok : fnA Tryz.prog Tryz.f49 [0, 1, 4, 5, 10, 14, 25] = some F49 := by kernel_rfl
abbrev F51.fr := fr13
def F51.b7 : IR := (iSr [.s (.iaddr 2 aT8 aT10), .s (.loadN 2 aS0), iWl 6 (.alloc [(.str []), .nilf]), .w .none none (.store 2 aT6 aS0)] (.seq (.dreg [] [(.s (.faddr 1 aT6), 1, []), (.s (.load aS0), 1, []), (.s (.faddr 0 aT1), 1, []), (.s (.load aS0), 1, []), (.s (.faddr 2 aT1), 0, []), (.s (.load aS0), 0, []), (iCa 142 [aS0], 0, []), (.s (.build [(I 0), .nils] [(0, 1, aS3), (1, 1, aS0)]), 0, []), (iWl 12 (.call aS6 [aS0]), 0, [])]) (.cond aT12 (.reg [iSm 5, .s (.faddr 0 aT6), .s (.load aS0), .w .push none (.bslice 1 1 [(.str [])] [(0, 1, aS0)]), .w .push none (.app 1 16 aS3 aS0), iQm 5 0]) .skip)))
def F51.g6 (X7 : IR) : IR := (.block 1 X7)
def F51.b6 : IR := F51.g6 F51.b7
def F51.b8 : IR := (.reg [.s (.bin .add .int aT10 aC1), iQm 10 0])
def F51.g5 (X6 X8 : IR) : IR := (.seq X6 X8)
def F51.b5 : IR := F51.g5 F51.b6 F51.b8
def F51.g4 (X5 : IR) : IR := (iSr [iQo 11 (.bin .lss .int aT10 aT9)] (.seq (.cond aT11 .skip (.exit 0)) X5))
def F51.b4 : IR := F51.g4 F51.b5
def F51.g3 (X4 : IR) : IR := (.loop X4)
def F51.b3 : IR := F51.g3 F51.b4
def F51.g2 (X3 : IR) : IR := (.block 0 X3)
def F51.b2 : IR := F51.g2 F51.b3
def F51.b9 : IR := (iSr [iSm 5, iQm 2 0, iQo 3 (.mv aC0)] .ret)
def F51.g1 (X2 X9 : IR) : IR := (iSr [iQo 5 (.mv (.c .nils))] (.seq (iSr [iWl 8 (.call (.c (.fn 141 (.of 141) [])) []), iQo 9 (.len aT8), iQo 10 (.mv aC0)] X2) X9))
def F51.b1 : IR := F51.g1 F51.b2 F51.b9
def F51.g0 (X1 : IR) : IR := (iSr [iWl 1 (.box aT0), iQo 2 (.mv (.c .nils)), iQo 3 (.mv aC0)] (.seq (iSr [.s (.loadN 3 aT1), iCa 140 [aS0], iQm 4 0] (iSr [iSm 4, iQo 7 (.bin .neq .int aS0 aC0)] (.cond aT7 (iSr [iSm 4, iQo 2 (.mv (.c .nils)), iQm 3 0] .ret) .skip))) X1))
def F51.b0 : IR := F51.g0 F51.b1
def F51.res : List RV := [.t (.of 2), .t (.of 3)]
def F51 : Fn := { params := [(.of 0)], res := F51.res, body := F51.b0, init := in13 }
theorem F51.ok : fnA Tryz.prog Tryz.f51 [0, 1, 2, 3, 4, 5, 7, 11, 13, 14, 15, 16, 27] = some F51 := by kernel_rfl
abbrev F53.fr := fr9
def F53.b7 : IR := (iSr [iSm 6, iQm 3 0] (.seq (.dreg [] [(iSm 0, 0, []), (iSm 3, 0, []), (.s (.iaddr 1 aS1 aS0), 0, []), (.s (.load aS0), 0, []), (iSm 1, 0, []), (iSm 3, 0, []), (.s (.iaddr 1 aS1 aS0), 0, []), (.s (.load aS0), 0, []), (iQo 8 (.bin .neq .str aS4 aS0), 0, [])]) (.cond aT8 (iSr [iQo 2 (.mv (.c (.bool false)))] .ret) .skip)))
def F53.g6 (X7 : IR) : IR := (.block 1 X7)
def F53.b6 : IR := F53.g6 F53.b7
def F53.b8 : IR := (.reg [.s (.bin .add .int aT6 aC1), iQm 6 0])
def F53.g5 (X6 X8 : IR) : IR := (.seq X6 X8)
def F53.b5 : IR := F53.g5 F53.b6 F53.b8
def F53.g4 (X5 : IR) : IR := (iSr [iQo 7 (.bin .lss .int aT6 aT5)] (.seq (.cond aT7 .skip (.exit 0)) X5))
def F53.b4 : IR := F53.g4 F53.b5
def F53.g3 (X4 : IR) : IR := (.loop X4)
def F53.b3 : IR := F53.g3 F53.b4
def F53.g2 (X3 : IR) : IR := (.block 0 X3)
def F53.b2 : IR := F53.g2 F53.b3
def F53.b9 : IR := (iSr [iQo 2 (.mv (.c (.bool true)))] .ret)
def F53.g1 (X2 X9 : IR) : IR := (.seq (iSr [iSm 0, iQo 5 (.len aS0), iQo 6 (.mv aC0)] X2) X9)
def F53.b1 : IR := F53.g1 F53.b2 F53.b9
def F53.g0 (X1 : IR) : IR := (iSr [iQo 2 (.mv (.c (.bool false)))] (.seq (iSr [iSm 0, .s (.len aS0), iSm 1, .s (.len aS0), iQo 4 (.bin .neq .int aS2 aS0)] (.cond aT4 (iSr [iQo 2 (.mv (.c (.bool false)))] .ret) .skip)) X1))
def F53.b0 : IR := F53.g0 F53.b1
def F53.res : List RV := [.t (.of 2)]
def F53 : Fn := { params := [(.of 0), (.of 1)], res := F53.res, body := F53.b0, init := in9 }
theorem F53.ok : fnA Tryz.prog Tryz.f53 [0, 1, 4, 5, 10, 12, 13, 14, 24] = some F53 := by kernel_rfl
abbrev F58.fr := fr9
def F58.b2 : IR := (iSr [iSm 6, iQm 3 0, iQo 4 (.mv aC0)] .ret)
def F58.g1 (X2 : IR) : IR := (iSr [.s (.loadN 2 aT2), iSm 1, iCa 95 [aS1, aS0], iQm 6 0] (.seq (iSr [iSm 6, iQo 8 (.bin .lss .int aS0 aC0)] (.cond aT8 (iSr [iQo 3 (.mv aC0), iQo 4 (.mv aC7)] .ret) .skip)) X2))
def F58.b1 : IR := F58.g1 F58.b2
def F58.g0 (X1 : IR) : IR := (iSr [iWl 2 (.box aT0), iQo 3 (.mv aC0), iQo 4 (.mv aC0)] (.seq (iSr [.s (.loadN 2 aT2), iSm 1, iCa 94 [aS1, aS0], iQm 5 0] (iSr [iSm 5, iQo 7 (.bin .neq .int aS0 aC0)] (.cond aT7 (iSr [iSm 5, iQo 3 (.mv aC0), iQm 4 0] .ret) .skip))) X1))
def F58.b0 : IR := F58.g0 F58.b1
def F58.res : List RV := [.t (.of 3), .t (.of 4)]
def F58 : Fn := { params := [(.of 0), (.of 1)], res := F58.res, body := F58.b0, init := in9 }
theorem F58.ok : fnA Tryz.prog Tryz.f58 [0, 1, 2, 4, 5, 6, 7, 12, 18] = some F58 := by kernel_rfl
abbrev F59.fr := fr7
def F59.b6 : IR := (.reg [iSm 4, .s (.faddr 1 aT2), .s (.load aS0), iSm 5, .s (.iaddr 1 aS1 aS0), .s (.load aS0), iSm 1, iCa 143 [aS1, aS0], .w .push none (.bslice 1 1 [(I 0)] [(0, 1, aS0)]), .w .push none (.app 1 8 aS8 aS0), iQm 4 0])
def F59.g5 (X6 : IR) : IR := (.block 1 X6)
def F59.b5 : IR := F59.g5 F59.b6
def F59.b7 : IR := (.reg [iSm 5, .s (.bin .add .int aS0 aC1), iQm 5 0])
def F59.g4 (X5 X7 : IR) : IR := (.seq X5 X7)
def F59.b4 : IR := F59.g4 F59.b5 F59.b7
def F59.g3 (X4 : IR) : IR := (.seq (iSr [iSm 5, .s (.faddr 1 aT2), .s (.load aS0), .s (.len aS0), iQo 6 (.bin .lss .int aS3 aS0)] (.cond aT6 .skip (.exit 0))) X4)
def F59.b3 : IR := F59.g3 F59.b4
def F59.g2 (X3 : IR) : IR := (.loop X3)
def F59.b2 : IR := F59.g2 F59.b3
def F59.g1 (X2 : IR) : IR := (.block 0 X2)
def F59.b1 : IR := F59.g1 F59.b2
def F59.b8 : IR := (iSr [iSm 4, iQm 3 0] .ret)
def F59.g0 (X1 X8 : IR) : IR := (iSr [iWl 2 (.box aT0), iQo 3 (.mv (.c .nils))] (iSr [iQo 4 (.mv (.c .nils))] (.seq (iSr [iQo 5 (.mv aC0)] X1) X8)))
def F59.b0 : IR := F59.g0 F59.b1 F59.b8
def F59.res : List RV := [.t (.of 3)]
def F59 : Fn := { params := [(.of 0), (.of 1)], res := F59.res, body := F59.b0, init := in7 }
theorem F59.ok : fnA Tryz.prog Tryz.f59 [0, 1, 2, 4, 5, 6, 11] = some F59 := by kernel_rfl
abbrev F60.fr := fr8
def F60.b6 : IR := (.seq (.dreg [] [(iSm 4, 0, []), (iSm 5, 0, []), (.s (.iaddr 1 aS1 aS0), 0, []), (.s (.load aS0), 0, []), (iSm 4, 0, []), (.s (.iaddr 1 aS0 aC0), 0, []), (.s (.load aS0), 0, []), (iQo 7 (.bin .neq .int aS3 aS0), 0, [])]) (.cond aT7 (iSr [iSm 5, iQm 3 0] .ret) .skip))
def F60.g5 (X6 : IR) : IR := (.block 1 X6)
def F60.b5 : IR := F60.g5 F60.b6
def F60.b7 : IR := (.reg [iSm 5, .s (.bin .add .int aS0 aC1), iQm 5 0])
def F60.g4 (X5 X7 : IR) : IR := (.seq X5 X7)
def F60.b4 : IR := F60.g4 F60.b5 F60.b7
def F60.g3 (X4 : IR) : IR := (.seq (iSr [iSm 5, iSm 4, .s (.len aS0), iQo 6 (.bin .lss .int aS2 aS0)] (.cond aT6 .skip (.exit 0))) X4)
def F60.b3 : IR := F60.g3 F60.b4
def F60.g2 (X3 : IR) : IR := (.loop X3)
def F60.b2 : IR := F60.g2 F60.b3
def F60.g1 (X2 : IR) : IR := (.block 0 X2)
def F60.b1 : IR := F60.g1 F60.b2
def F60.b8 : IR := (iSr [iQo 3 (.mv (.c (I (-1))))] .ret)
def F60.g0 (X1 X8 : IR) : IR := (iSr [iWl 2 (.box aT0), iQo 3 (.mv aC0)] (iSr [.s (.loadN 2 aT2), iSm 1, iCa 59 [aS1, aS0], iQm 4 0] (.seq (iSr [iQo 5 (.mv aC0)] X1) X8)))
def F60.b0 : IR := F60.g0 F60.b1 F60.b8
def F60.res : List RV := [.t (.of 3)]
def F60 : Fn := { params := [(.of 0), (.of 1)], res := F60.res, body := F60.b0, init := in8 }
theorem F60.ok : fnA Tryz.prog Tryz.f60 [0, 1, 2, 4, 5, 6, 13, 23] = some F60 := by kernel_rfl
abbrev F65.fr := fr7
def F65.b1 : IR := (iSr [iSm 0, iSm 1, iCa 152 [aS1, aS0], .w .none none (.store 2 aT2 aS0), iQo 3 (.mv aC0)] .ret)
def F65.g0 (X1 : IR) : IR := (iSr [iWl 2 (.alloc [(I 0), .nils]), iQo 3 (.mv aC0)] (iSr [.w .push none (.bslice 1 3 [(.str [])] [(0, 1, (.c (.str [115, 101, 109, 105, 109, 97, 103, 105, 99]))), (1, 1, (.c (.str [109, 97, 103, 105, 99]))), (2, 1, (.c (.str [112, 97, 110, 100, 105, 97, 103, 111, 110, 97, 108])))]), iSm 0, iCa 151 [aS1, aS0], iQm 4 0] (.seq (iSr [iSm 4, .s (.not aS0), iCa 88 [aS0, aC13], iSm 1, .w .push none (.bslice 1 1 [(I 0)] [(0, 1, aS0)]), iCa 87 [aC1, aC16, aS0], .w .push none (.bslice 1 2 [(I 0)] [(0, 1, aS3), (1, 1, aS0)]), iCa 86 [aS0], iQm 5 0] (iSr [iSm 5, iQo 6 (.bin .neq .int aS0 aC0)] (.cond aT6 (iSr [.s (.build [(I 0), .nils] []), iSm 5, .w .none none (.store 2 aT2 aS1), iQm 3 0] .ret) .skip))) X1)))
def F65.b0 : IR := F65.g0 F65.b1
def F65.res : List RV := [.cell (.of 2) (some 2), .t (.of 3)]
def F65 : Fn := { params := [(.of 0), (.of 1)], res := F65.res, body := F65.b0, init := in7 }
theorem F65.ok : fnA Tryz.prog Tryz.f65 [0, 1, 4, 5, 6, 7, 20] = some F65 := by kernel_rfl
abbrev F69.fr := fr10
def F69.b7 : IR := (iSr [iSm 8, iQm 5 0] (.dreg [] [(iSm 4, 2, []), (iSm 5, 0, []), (iSm 5, 0, []), (.s (.bin .add .int aS0 aC2), 0, []), (iSm 0, 0, []), (.s (.bin .rem .int aS1 aS0), 0, []), (iSm 0, 0, []), (iSm 5, 0, []), (.s (.bin .add .int aS1 aS0), 0, []), (iSm 0, 0, []), (iSm 5, 0, []), (.s (.bin .add .int aS0 aC1), 0, []), (iSm 0, 0, []), (.s (.bin .rem .int aS1 aS0), 0, []), (.s (.bin .add .int aS4 aS0), 0, []), (.w .push none (.bslice 1 4 [(I 0)] [(0, 1, aS13), (1, 1, aS9), (2, 1, aS6), (3, 1, aS0)]), 0, []), (.w .push none (.bslice 1 1 [.nils] [(0, 1, aS0)]), 0, []), (.w .push none (.app 1 24 aS16 aS0), 0, []), (iQm 4 0, 0, [])]))
def F69.g6 (X7 : IR) : IR := (.block 1 X7)
def F69.b6 : IR := F69.g6 F69.b7
def F69.b8 : IR := (.reg [.s (.bin .add .int aT8 aC1), iQm 8 0])
def F69.g5 (X6 X8 : IR) : IR := (.seq X6 X8)
def F69.b5 : IR := F69.g5 F69.b6 F69.b8
def F69.g4 (X5 : IR) : IR := (iSr [iQo 9 (.bin .lss .int aT8 aT7)] (.seq (.cond aT9 .skip (.exit 0)) X5))
def F69.b4 : IR := F69.g4 F69.b5
def F69.g3 (X4 : IR) : IR := (.loop X4)
def F69.b3 : IR := F69.g3 F69.b4
def F69.g2 (X3 : IR) : IR := (.block 0 X3)
def F69.b2 : IR := F69.g2 F69.b3
def F69.b9 : IR := (iSr [iSm 0, .s (.bin .mul .int aC2 aS0), iSm 4, iCa 153 [aS1, aS0], .w .none none (.store 2 aT1 aS0), iQo 2 (.mv aC0)] .ret)
def F69.g1 (X2 X9 : IR) : IR := (iSr [iQo 4 (.mv (.c .nils))] (.seq (iSr [iQo 7 (.mv aT0), iQo 8 (.mv aC0)] X2) X9))
def F69.b1 : IR := F69.g1 F69.b2 F69.b9
def F69.g0 (X1 : IR) : IR := (iSr [iWl 1 (.alloc [(I 0), .nils]), iQo 2 (.mv aC0)] (.seq (iSr [iSm 0, .w .push none (.bslice 1 1 [(I 0)] [(0, 1, aS0)]), iCa 87 [aC5, aC16, aS0], iQm 3 0] (iSr [iSm 3, iQo 6 (.bin .neq .int aS0 aC0)] (.cond aT6 (iSr [.s (.build [(I 0), .nils] []), iSm 3, .w .none none (.store 2 aT1 aS1), iQm 2 0] .ret) .skip))) X1))
def F69.b0 : IR := F69.g0 F69.b1
def F69.res : List RV := [.cell (.of 1) (some 2), .t (.of 2)]
def F69 : Fn := { params := [(.of 0)], res := F69.res, body := F69.b0, init := in10 }
theorem F69.ok : fnA Tryz.prog Tryz.f69 [0, 2, 3, 4, 5, 6, 11, 14, 15, 16] = some F69 := by kernel_rfl
abbrev F78.fr := fr7
def F78.b1 : IR := (iSr [.s (.loadN 2 aT2), iSm 1, iCa 169 [aS1, aS0], iQm 3 0, iQo 4 (.mv aC0)] .ret)
def F78.g0 (X1 : IR) : IR := (iSr [iWl 2 (.box aT0), iQo 3 (.mv (.c .nils)), iQo 4 (.mv aC0)] (.seq (iSr [.s (.loadN 2 aT2), iSm 1, iCa 168 [aS1, aS0], iQm 5 0] (iSr [iSm 5, iQo 6 (.bin .neq .int aS0 aC0)] (.cond aT6 (iSr [iSm 5, iQo 3 (.mv (.c .nils)), iQm 4 0] .ret) .skip))) X1))
def F78.b0 : IR := F78.g0 F78.b1
def F78.res : List RV := [.t (.of 3), .t (.of 4)]
def F78 : Fn := { params := [(.of 0), (.of 1)], res := F78.res, body := F78.b0, init := in7 }
theorem F78.ok : fnA Tryz.prog Tryz.f78 [0, 1, 2, 4, 5, 6, 11] = some F78 := by kernel_rfl
abbrev F85.fr := fr1
def F85.b0 : IR := (iSr [iQo 0 (.mv (.c .nils))] (iSr [.w .push none (.bslice 1 9 [(I 0)] [(0, 1, aC2), (1, 1, aC7), (2, 1, aC6), (3, 1, aC9), (4, 1, aC5), (5, 1, aC1), (6, 1, aC4), (7, 1, aC3), (8, 1, aC8)]), iQm 0 0] .ret))
def F85.res : List RV := [.t (.of 0)]
def F85 : Fn := { params := [], res := F85.res, body := F85.b0, init := in1 }
theorem F85.ok : fnA Tryz.prog Tryz.f85 [0] = some F85 := by kernel_rfl
abbrev F86.fr := fr8
def F86.b6 : IR := (iSr [.s (.iaddr 1 aT3 aT5), .s (.load aS0), iQm 2 0] (iSr [iSm 2, iQo 7 (.bin .neq .int aS0 aC0)] (.cond aT7 (iSr [iSm 2, iQm 1 0] .ret) .skip)))
def F86.g5 (X6 : IR) : IR := (.block 1 X6)
def F86.b5 : IR := F86.g5 F86.b6
def F86.b7 : IR := (.reg [.s (.bin .add .int aT5 aC1), iQm 5 0])
def F86.g4 (X5 X7 : IR) : IR := (.seq X5 X7)
def F86.b4 : IR := F86.g4 F86.b5 F86.b7
def F86.g3 (X4 : IR) : IR := (iSr [iQo 6 (.bin .lss .int aT5 aT4)] (.seq (.cond aT6 .skip (.exit 0)) X4))
def F86.b3 : IR := F86.g3 F86.b4
def F86.g2 (X3 : IR) : IR := (.loop X3)
def F86.b2 : IR := F86.g2 F86.b3
def F86.g1 (X2 : IR) : IR := (.block 0 X2)
def F86.b1 : IR := F86.g1 F86.b2
def F86.b8 : IR := (iSr [iQo 1 (.mv aC0)] .ret)
def F86.g0 (X1 X8 : IR) : IR := (iSr [iQo 1 (.mv aC0)] (.seq (iSr [iQo 3 (.mv aT0), iQo 4 (.len aT3), iQo 5 (.mv aC0)] X1) X8))
def F86.b0 : IR := F86.g0 F86.b1 F86.b8
def F86.res : List RV := [.t (.of 1)]
def F86 : Fn := { params := [(.of 0)], res := F86.res, body := F86.b0, init := in8 }
theorem F86.ok : fnA Tryz.prog Tryz.f86 [0, 2, 4, 5, 6, 7, 8, 12] = some F86 := by kernel_rfl
abbrev F87.fr := fr6
def F87.b0 : IR := (iSr [iWl 3 (.box aT0), iWl 4 (.box aT1), iQo 5 (.mv aC0)] (iSr [iSm 2, .s (.fn 174 (.of 174) [aT3, aT4]), iCa 173 [aS1, aS0], iCa 88 [aS0, aC3], iQm 5 0] .ret))
def F87.res : List RV := [.t (.of 5)]
def F87 : Fn := { params := [(.of 0), (.of 1), (.of 2)], res := F87.res, body := F87.b0, init := in6 }
theorem F87.ok : fnA Tryz.prog Tryz.f87 [0, 1, 2, 3, 4, 6] = some F87 := by kernel_rfl
abbrev F88.fr := fr4
def F88.b1 : IR := (iSr [iQo 2 (.mv aC0)] .ret)
def F88.g0 (X1 : IR) : IR := (iSr [iQo 2 (.mv aC0)] (.seq (iSr [iQo 3 (.mv aT0)] (.cond aT3 (iSr [iSm 1, iQm 2 0] .ret) .skip)) X1))
def F88.b0 : IR := F88.g0 F88.b1
def F88.res : List RV := [.t (.of 2)]
def F88 : Fn := { params := [(.of 0), (.of 1)], res := F88.res, body := F88.b0, init := in4 }
theorem F88.ok : fnA Tryz.prog Tryz.f88 [0, 1, 4, 5] = some F88 := by kernel_rfl
abbrev F89.fr := fr14
def F89.b7 : IR := (iSr [iSm 11, .s (.iaddr 1 aT9 aT11), .s (.load aS0), iQm 5 2, iQm 6 0] (iSr [iSm 6, .s (.bin .lss .int aS0 aC0), .s (.mv aS0), iPf 0 (.mv aT6), iPf 1 (.faddr 0 aT2), iPf 2 (.load aS0), iPf 3 (.bin .geq .int aS2 aS0), .s (.pick aS4 (.c (.bool true)) aS0), iCa 88 [aS0, aC10], iSm 5, .s (.bin .gtr .int aS0 aC0), .s (.mv aS0), iPt 0 (.load aT4), iPt 1 (.mv aT5), iPt 2 (.bin .sub .int aS0 aC1), iPt 3 (.iaddr 1 aS2 aS0), iPt 4 (.load aS0), iPt 5 (.mv aT6), iPt 6 (.bin .geq .int aS1 aS0), .s (.pick aS7 aS0 (.c (.bool false))), iCa 88 [aS0, aC11], .w .push none (.bslice 1 2 [(I 0)] [(0, 1, aS12), (1, 1, aS0)]), iCa 86 [aS0], iQm 7 0] (iSr [iSm 7, iQo 13 (.bin .neq .int aS0 aC0)] (.cond aT13 (iSr [iSm 7, iQm 3 0] .ret) .skip))))
def F89.g6 (X7 : IR) : IR := (.block 1 X7)
def F89.b6 : IR := F89.g6 F89.b7
def F89.b8 : IR := (.reg [.s (.bin .add .int aT11 aC1), iQm 11 0])
def F89.g5 (X6 X8 : IR) : IR := (.seq X6 X8)
def F89.b5 : IR := F89.g5 F89.b6 F89.b8
def F89.g4 (X5 : IR) : IR := (iSr [iQo 12 (.bin .lss .int aT11 aT10)] (.seq (.cond aT12 .skip (.exit 0)) X5))
def F89.b4 : IR := F89.g4 F89.b5
def F89.g3 (X4 : IR) : IR := (.loop X4)
def F89.b3 : IR := F89.g3 F89.b4
def F89.g2 (X3 : IR) : IR := (.block 0 X3)
def F89.b2 : IR := F89.g2 F89.b3
def F89.b9 : IR := (iSr [.s (.faddr 1 aT2), .s (.load aS0), iSm 1, .s (.slice 1 aS1 none (some aS0) none), .s (.fn 176 (.of 176) [aT4]), iCa 175 [aS1, aS0], iCa 88 [aS0, aC9], iQm 3 0] .ret)
def F89.g1 (X2 X9 : IR) : IR := (.seq (iSr [iQo 9 (.load aT4), iQo 10 (.len aT9), iQo 11 (.mv aC0)] X2) X9)
def F89.b1 : IR := F89.g1 F89.b2 F89.b9
def F89.g0 (X1 : IR) : IR := (iSr [iWl 2 (.box aT0), iQo 3 (.mv aC0)] (iSr [.s (.faddr 1 aT2), .s (.load aS0), iSm 1, .s (.iaddr 1 aS1 aS0), .s (.load aS0), iWl 4 (.alloc [.nils]), .w .none none (.store 1 aT4 aS0)] (.seq (iSr [.s (.load aT4), .s (.len aS0), iQo 8 (.bin .eql .int aS0 aC0)] (.cond aT8 (iSr [iQo 3 (.mv aC12)] .ret) .skip)) X1)))
def F89.b0 : IR := F89.g0 F89.b1
def F89.res : List RV := [.t (.of 3)]
def F89 : Fn := { params := [(.of 0), (.of 1)], res := F89.res, body := F89.b0, init := in14 }
theorem F89.ok : fnA Tryz.prog Tryz.f89 [0, 1, 2, 4, 5, 6, 7, 8, 16, 17, 18, 19, 20, 48] = some F89 := by kernel_rfl
abbrev F90.fr := fr6
def F90.b6 : IR := (iSr [iSm 0, iSm 3, .s (.iaddr 1 aS1 aS0), .s (.load aS0), iSm 1, iWl 5 (.call (.c (.fn 49 (.of 49) [])) [aS1, aS0])] (.cond aT5 (iSr [iQo 2 (.mv (.c (.bool true)))] .ret) .skip))
def F90.g5 (X6 : IR) : IR := (.block 1 X6)
def F90.b5 : IR := F90.g5 F90.b6
def F90.b7 : IR := (.reg [iSm 3, .s (.bin .add .int aS0 aC1), iQm 3 0])
def F90.g4 (X5 X7 : IR) : IR := (.seq X5 X7)
def F90.b4 : IR := F90.g4 F90.b5 F90.b7
def F90.g3 (X4 : IR) : IR := (.seq (iSr [iSm 3, iSm 0, .s (.len aS0), iQo 4 (.bin .lss .int aS2 aS0)] (.cond aT4 .skip (.exit 0))) X4)
def F90.b3 : IR := F90.g3 F90.b4
def F90.g2 (X3 : IR) : IR := (.loop X3)
def F90.b2 : IR := F90.g2 F90.b3
def F90.g1 (X2 : IR) : IR := (.block 0 X2)
def F90.b1 : IR := F90.g1 F90.b2
def F90.b8 : IR := (iSr [iQo 2 (.mv (.c (.bool false)))] .ret)
def F90.g0 (X1 X8 : IR) : IR := (iSr [iQo 2 (.mv (.c (.bool false)))] (.seq (iSr [iQo 3 (.mv aC0)] X1) X8))
def F90.b0 : IR := F90.g0 F90.b1 F90.b8
def F90.res : List RV := [.t (.of 2)]
def F90 : Fn := { params := [(.of 0), (.of 1)], res := F90.res, body := F90.b0, init := in6 }
theorem F90.ok : fnA Tryz.prog Tryz.f90 [0, 1, 4, 5, 9, 17] = some F90 := by kernel_rfl
abbrev F91.fr := fr4
def F91.b0 : IR := (iSr [iWl 2 (.box aT1), iQo 3 (.mv (.c (.bool false)))] (iSr [iSm 0, .s (.loadN 2 aT2), iCa 178 [aS1, aS0], .s (.bin .geq .int aS0 aC0), iQm 3 0] .ret))
def F91.res : List RV := [.t (.of 3)]
def F91 : Fn := { params := [(.of 0), (.of 1)], res := F91.res, body := F91.b0, init := in4 }
theorem F91.ok : fnA Tryz.prog Tryz.f91 [0, 1, 3, 4] = some F91 := by kernel_rfl
abbrev F92.fr := fr10
def F92.b7 : IR := (.reg [iSm 3, iSm 4, iCa 181 [aS0], .w .push none (.bslice 1 1 [.nils] [(0, 1, aS0)]), .w .push none (.app 1 24 aS3 aS0), iQm 3 0])
def F92.g6 (X7 : IR) : IR := (iSr [.s (.iaddr 1 aT5 aT7), .s (.load aS0), iQm 4 0] (.seq (iSr [iSm 4, iWl 9 (.call (.c (.fn 179 (.of 179) [])) [aS0, (.c (.fn 180 (.of 180) []))])] (.cond aT9 (iSr [iQo 1 (.mv (.c .nils)), iQo 2 (.mv aC4)] .ret) .skip)) X7))
def F92.b6 : IR := F92.g6 F92.b7
def F92.g5 (X6 : IR) : IR := (.block 1 X6)
def F92.b5 : IR := F92.g5 F92.b6
def F92.b8 : IR := (.reg [.s (.bin .add .int aT7 aC1), iQm 7 0])
def F92.g4 (X5 X8 : IR) : IR := (.seq X5 X8)
def F92.b4 : IR := F92.g4 F92.b5 F92.b8
def F92.g3 (X4 : IR) : IR := (iSr [iQo 8 (.bin .lss .int aT7 aT6)] (.seq (.cond aT8 .skip (.exit 0)) X4))
def F92.b3 : IR := F92.g3 F92.b4
def F92.g2 (X3 : IR) : IR := (.loop X3)
def F92.b2 : IR := F92.g2 F92.b3
def F92.g1 (X2 : IR) : IR := (.block 0 X2)
def F92.b1 : IR := F92.g1 F92.b2
def F92.b9 : IR := (iSr [iSm 3, iQm 1 0, iQo 2 (.mv aC0)] .ret)
def F92.g0 (X1 X9 : IR) : IR := (iSr [iQo 1 (.mv (.c .nils)), iQo 2 (.mv aC0)] (iSr [iQo 3 (.mv (.c .nils))] (.seq (iSr [iQo 5 (.mv aT0), iQo 6 (.len aT5), iQo 7 (.mv aC0)] X1) X9)))
def F92.b0 : IR := F92.g0 F92.b1 F92.b9
def F92.res : List RV := [.t (.of 1), .t (.of 2)]
def F92 : Fn := { params := [(.of 0)], res := F92.res, body := F92.b0, init := in10 }
theorem F92.ok : fnA Tryz.prog Tryz.f92 [0, 2, 3, 4, 6, 7, 8, 9, 10, 14] = some F92 := by kernel_rfl
end
end Go.Ev
