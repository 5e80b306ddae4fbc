import Derived.Test.YtlfhlkknakiafaaGreatDoorEvC
import Derived.Test.YtlfhlkknakiafaaGreatDoorProg
import Derived.KernelRfl
set_option linter.unusedSimpArgs false
set_option linter.unusedVariables false
namespace Go.Ev
open Go Go.Proofs
set_option maxRecDepth 100000
noncomputable section
abbrev zU : List AV := [(.int .u8 0), (.int .u8 0), (.int .u8 0), (.int .u8 0), (.int .u8 0), (.int .u8 0), (.int .u8 0), (.int .u8 0), (.int .u8 0), (.int .u8 0), (.int .u8 0), (.int .u8 0), (.int .u8 0), (.int .u8 0), (.int .u8 0), (.int .u8 0), (.int .u8 0), (.int .u8 0), (.int .u8 0), (.int .u8 0), (.int .u8 0), (.int .u8 0), (.int .u8 0), (.int .u8 0), (.int .u8 0), (.int .u8 0), (.int .u8 0), (.int .u8 0), (.int .u8 0), (.int .u8 0), (.int .u8 0), (.int .u8 0), (.int .u8 0), (.int .u8 0), (.int .u8 0), (.int .u8 0), (.int .u8 0), (.int .u8 0), (.int .u8 0), (.int .u8 0), (.int .u8 0), (.int .u8 0), (.int .u8 0), (.int .u8 0), (.int .u8 0), (.int .u8 0), (.int .u8 0), (.int .u8 0), (.int .u8 0), (.int .u8 0), (.int .u8 0), (.int .u8 0), (.int .u8 0), (.int .u8 0), (.int .u8 0), (.int .u8 0), (.int .u8 0), (.int .u8 0), (.int .u8 0), (.int .u8 0), (.int .u8 0), (.int .u8 0), (.int .u8 0), (.int .u8 0), (.int .u8 0), (.int .u8 0), (.int .u8 0), (.int .u8 0), (.int .u8 0), (.int .u8 0), (.int .u8 0), (.int .u8 0), (.int .u8 0), (.int .u8 0), (.int .u8 0), (.int .u8 0), (.int .u8 0), (.int .u8 0), (.int .u8 0), (.int .u8 0), (.int .u8 0), (.int .u8 0), (.int .u8 0), (.int .u8 0), (.int .u8 0), (.int .u8 0), (.int .u8 0), (.int .u8 0), (.int .u8 0), (.int .u8 0), (.int .u8 0), (.int .u8 0), (.int .u8 0), (.int .u8 0), (.int .u8 0), (.int .u8 0), (.int .u8 0), (.int .u8 0), (.int .u8 0), (.int .u8 0), (.int .u8 0), (.int .u8 0), (.int .u8 0), (.int .u8 0), (.int .u8 0), (.int .u8 0), (.int .u8 0), (.int .u8 0), (.int .u8 0), (.int .u8 0), (.int .u8 0), (.int .u8 0), (.int .u8 0), (.int .u8 0), (.int .u8 0), (.int .u8 0), (.int .u8 0), (.int .u8 0), (.int .u8 0), (.int .u8 0), (.int .u8 0), (.int .u8 0), (.int .u8 0), (.int .u8 0), (.int .u8 0), (.int .u8 0), (.int .u8 0), (.int .u8 0)]
abbrev iSm (n : Nat) : RO := .s (.mv (.t (.of n)))
abbrev iQm (n m : Nat) : RO := .q (.of n) (.mv (.s m))
abbrev iQo (n : Nat) (o : PO) : RO := .q (.of n) o
abbrev iPf (n : Nat) (o : PO) : RO := .p .push (some (.s n, false)) o
abbrev iPt (n : Nat) (o : PO) : RO := .p .push (some (.s n, true)) o
abbrev iCa (n : Nat) (l : List Arg) : RO := .w .push none (.call (.c (.fn n (.of n) [])) l)
abbrev iWl (n : Nat) (o : WO) : RO := .w (.loc (.of n)) none o
abbrev iSr (l : List RO) (c : IR) : IR := .seq (.reg l) c
def fr1 (x0 : AV) : T AV := (.n .e x0 .e)
def fr2 (x0 x1 : AV) : T AV := (.n (.n .e x1 .e) x0 .e)
def fr3 (x0 x1 x2 : AV) : T AV := (.n (.n .e x1 .e) x0 (.n .e x2 .e))
def fr4 (x0 x1 x2 x3 : AV) : T AV := (.n (.n (.n .e x3 .e) x1 .e) x0 (.n .e x2 .e))
def fr5 (x0 x1 x2 x3 x4 : AV) : T AV := (.n (.n (.n .e x3 .e) x1 .e) x0 (.n (.n .e x4 .e) x2 .e))
def fr6 (x0 x1 x2 x3 x4 x5 : AV) : T AV := (.n (.n (.n .e x3 .e) x1 (.n .e x5 .e)) x0 (.n (.n .e x4 .e) x2 .e))
def fr7 (x0 x1 x2 x3 x4 x5 x6 : AV) : T AV := (.n (.n (.n .e x3 .e) x1 (.n .e x5 .e)) x0 (.n (.n .e x4 .e) x2 (.n .e x6 .e)))
def fr8 (x0 x1 x2 x3 x4 x5 x6 x7 : AV) : T AV := (.n (.n (.n (.n .e x7 .e) x3 .e) x1 (.n .e x5 .e)) x0 (.n (.n .e x4 .e) x2 (.n .e x6 .e)))
def fr9 (x0 x1 x2 x3 x4 x5 x6 x7 x8 : AV) : T AV := (.n (.n (.n (.n .e x7 .e) x3 .e) x1 (.n .e x5 .e)) x0 (.n (.n (.n .e x8 .e) x4 .e) x2 (.n .e x6 .e)))
def fr10 (x0 x1 x2 x3 x4 x5 x6 x7 x8 x9 : AV) : T AV := (.n (.n (.n (.n .e x7 .e) x3 .e) x1 (.n (.n .e x9 .e) x5 .e)) x0 (.n (.n (.n .e x8 .e) x4 .e) x2 (.n .e x6 .e)))
def fr11 (x0 x1 x2 x3 x4 x5 x6 x7 x8 x9 x10 : AV) : T AV := (.n (.n (.n (.n .e x7 .e) x3 .e) x1 (.n (.n .e x9 .e) x5 .e)) x0 (.n (.n (.n .e x8 .e) x4 .e) x2 (.n (.n .e x10 .e) x6 .e)))
def fr12 (x0 x1 x2 x3 x4 x5 x6 x7 x8 x9 x10 x11 : AV) : T AV := (.n (.n (.n (.n .e x7 .e) x3 (.n .e x11 .e)) x1 (.n (.n .e x9 .e) x5 .e)) x0 (.n (.n (.n .e x8 .e) x4 .e) x2 (.n (.n .e x10 .e) x6 .e)))
def fr13 (x0 x1 x2 x3 x4 x5 x6 x7 x8 x9 x10 x11 x12 : AV) : T AV := (.n (.n (.n (.n .e x7 .e) x3 (.n .e x11 .e)) x1 (.n (.n .e x9 .e) x5 .e)) x0 (.n (.n (.n .e x8 .e) x4 (.n .e x12 .e)) x2 (.n (.n .e x10 .e) x6 .e)))
def fr14 (x0 x1 x2 x3 x4 x5 x6 x7 x8 x9 x10 x11 x12 x13 : AV) : T AV := (.n (.n (.n (.n .e x7 .e) x3 (.n .e x11 .e)) x1 (.n (.n .e x9 .e) x5 (.n .e x13 .e))) x0 (.n (.n (.n .e x8 .e) x4 (.n .e x12 .e)) x2 (.n (.n .e x10 .e) x6 .e)))
def fr15 (x0 x1 x2 x3 x4 x5 x6 x7 x8 x9 x10 x11 x12 x13 x14 : AV) : T AV := (.n (.n (.n (.n .e x7 .e) x3 (.n .e x11 .e)) x1 (.n (.n .e x9 .e) x5 (.n .e x13 .e))) x0 (.n (.n (.n .e x8 .e) x4 (.n .e x12 .e)) x2 (.n (.n .e x10 .e) x6 (.n .e x14 .e))))
def fr16 (x0 x1 x2 x3 x4 x5 x6 x7 x8 x9 x10 x11 x12 x13 x14 x15 : AV) : T AV := (.n (.n (.n (.n (.n .e x15 .e) x7 .e) x3 (.n .e x11 .e)) x1 (.n (.n .e x9 .e) x5 (.n .e x13 .e))) x0 (.n (.n (.n .e x8 .e) x4 (.n .e x12 .e)) x2 (.n (.n .e x10 .e) x6 (.n .e x14 .e))))
def fr18 (x0 x1 x2 x3 x4 x5 x6 x7 x8 x9 x10 x11 x12 x13 x14 x15 x16 x17 : AV) : T AV := (.n (.n (.n (.n (.n .e x15 .e) x7 .e) x3 (.n .e x11 .e)) x1 (.n (.n (.n .e x17 .e) x9 .e) x5 (.n .e x13 .e))) x0 (.n (.n (.n (.n .e x16 .e) x8 .e) x4 (.n .e x12 .e)) x2 (.n (.n .e x10 .e) x6 (.n .e x14 .e))))
def fr19 (x0 x1 x2 x3 x4 x5 x6 x7 x8 x9 x10 x11 x12 x13 x14 x15 x16 x17 x18 : AV) : T AV := (.n (.n (.n (.n (.n .e x15 .e) x7 .e) x3 (.n .e x11 .e)) x1 (.n (.n (.n .e x17 .e) x9 .e) x5 (.n .e x13 .e))) x0 (.n (.n (.n (.n .e x16 .e) x8 .e) x4 (.n .e x12 .e)) x2 (.n (.n (.n .e x18 .e) x10 .e) x6 (.n .e x14 .e))))
def fr20 (x0 x1 x2 x3 x4 x5 x6 x7 x8 x9 x10 x11 x12 x13 x14 x15 x16 x17 x18 x19 : AV) : T AV := (.n (.n (.n (.n (.n .e x15 .e) x7 .e) x3 (.n (.n .e x19 .e) x11 .e)) x1 (.n (.n (.n .e x17 .e) x9 .e) x5 (.n .e x13 .e))) x0 (.n (.n (.n (.n .e x16 .e) x8 .e) x4 (.n .e x12 .e)) x2 (.n (.n (.n .e x18 .e) x10 .e) x6 (.n .e x14 .e))))
def fr21 (x0 x1 x2 x3 x4 x5 x6 x7 x8 x9 x10 x11 x12 x13 x14 x15 x16 x17 x18 x19 x20 : AV) : T AV := (.n (.n (.n (.n (.n .e x15 .e) x7 .e) x3 (.n (.n .e x19 .e) x11 .e)) x1 (.n (.n (.n .e x17 .e) x9 .e) x5 (.n .e x13 .e))) x0 (.n (.n (.n (.n .e x16 .e) x8 .e) x4 (.n (.n .e x20 .e) x12 .e)) x2 (.n (.n (.n .e x18 .e) x10 .e) x6 (.n .e x14 .e))))
def fr23 (x0 x1 x2 x3 x4 x5 x6 x7 x8 x9 x10 x11 x12 x13 x14 x15 x16 x17 x18 x19 x20 x21 x22 : AV) : T AV := (.n (.n (.n (.n (.n .e x15 .e) x7 .e) x3 (.n (.n .e x19 .e) x11 .e)) x1 (.n (.n (.n .e x17 .e) x9 .e) x5 (.n (.n .e x21 .e) x13 .e))) x0 (.n (.n (.n (.n .e x16 .e) x8 .e) x4 (.n (.n .e x20 .e) x12 .e)) x2 (.n (.n (.n .e x18 .e) x10 .e) x6 (.n (.n .e x22 .e) x14 .e))))
def fr30 (x0 x1 x2 x3 x4 x5 x6 x7 x8 x9 x10 x11 x12 x13 x14 x15 x16 x17 x18 x19 x20 x21 x22 x23 x24 x25 x26 x27 x28 x29 : AV) : T AV := (.n (.n (.n (.n (.n .e x15 .e) x7 (.n .e x23 .e)) x3 (.n (.n .e x19 .e) x11 (.n .e x27 .e))) x1 (.n (.n (.n .e x17 .e) x9 (.n .e x25 .e)) x5 (.n (.n .e x21 .e) x13 (.n .e x29 .e)))) x0 (.n (.n (.n (.n .e x16 .e) x8 (.n .e x24 .e)) x4 (.n (.n .e x20 .e) x12 (.n .e x28 .e))) x2 (.n (.n (.n .e x18 .e) x10 (.n .e x26 .e)) x6 (.n (.n .e x22 .e) x14 .e))))
def fr32 (x0 x1 x2 x3 x4 x5 x6 x7 x8 x9 x10 x11 x12 x13 x14 x15 x16 x17 x18 x19 x20 x21 x22 x23 x24 x25 x26 x27 x28 x29 x30 x31 : AV) : T AV := (.n (.n (.n (.n (.n (.n .e x31 .e) x15 .e) x7 (.n .e x23 .e)) x3 (.n (.n .e x19 .e) x11 (.n .e x27 .e))) x1 (.n (.n (.n .e x17 .e) x9 (.n .e x25 .e)) x5 (.n (.n .e x21 .e) x13 (.n .e x29 .e)))) x0 (.n (.n (.n (.n .e x16 .e) x8 (.n .e x24 .e)) x4 (.n (.n .e x20 .e) x12 (.n .e x28 .e))) x2 (.n (.n (.n .e x18 .e) x10 (.n .e x26 .e)) x6 (.n (.n .e x22 .e) x14 (.n .e x30 .e)))))
abbrev in1 : T AV := fr1 .undef
abbrev in2 : T AV := fr2 .undef .undef
abbrev in3 : T AV := fr3 .undef .undef .undef
abbrev in4 : T AV := fr4 .undef .undef .undef .undef
abbrev in5 : T AV := fr5 .undef .undef .undef .undef .undef
abbrev in6 : T AV := fr6 .undef .undef .undef .undef .undef .undef
abbrev in7 : T AV := fr7 .undef .undef .undef .undef .undef .undef .undef
abbrev in8 : T AV := fr8 .undef .undef .undef .undef .undef .undef .undef .undef
abbrev in9 : T AV := fr9 .undef .undef .undef .undef .undef .undef .undef .undef .undef
abbrev in10 : T AV := fr10 .undef .undef .undef .undef .undef .undef .undef .undef .undef .undef
abbrev in11 : T AV := fr11 .undef .undef .undef .undef .undef .undef .undef .undef .undef .undef .undef
abbrev in12 : T AV := fr12 .undef .undef .undef .undef .undef .undef .undef .undef .undef .undef .undef .undef
abbrev in13 : T AV := fr13 .undef .undef .undef .undef .undef .undef .undef .undef .undef .undef .undef .undef .undef
abbrev in14 : T AV := fr14 .undef .undef .undef .undef .undef .undef .undef .undef .undef .undef .undef .undef .undef .undef
abbrev in15 : T AV := fr15 .undef .undef .undef .undef .undef .undef .undef .undef .undef .undef .undef .undef .undef .undef .undef
abbrev in16 : T AV := fr16 .undef .undef .undef .undef .undef .undef .undef .undef .undef .undef .undef .undef .undef .undef .undef .undef
abbrev in18 : T AV := fr18 .undef .undef .undef .undef .undef .undef .undef .undef .undef .undef .undef .undef .undef .undef .undef .undef .undef .undef
abbrev in19 : T AV := fr19 .undef .undef .undef .undef .undef .undef .undef .undef .undef .undef .undef .undef .undef .undef .undef .undef .undef .undef .undef
abbrev in20 : T AV := fr20 .undef .undef .undef .undef .undef .undef .undef .undef .undef .undef .undef .undef .undef .undef .undef .undef .undef .undef .undef .undef
abbrev in21 : T AV := fr21 .undef .undef .undef .undef .undef .undef .undef .undef .undef .undef .undef .undef .undef .undef .undef .undef .undef .undef .undef .undef .undef
abbrev in23 : T AV := fr23 .undef .undef .undef .undef .undef .undef .undef .undef .undef .undef .undef .undef .undef .undef .undef .undef .undef .undef .undef .undef .undef .undef .undef
abbrev in30 : T AV := fr30 .undef .undef .undef .undef .undef .undef .undef .undef .undef .undef .undef .undef .undef .undef .undef .undef .undef .undef .undef .undef .undef .undef .undef .undef .undef .undef .undef .undef .undef .undef
abbrev in32 : T AV := fr32 .undef .undef .undef .undef .undef .undef .undef .undef .undef .undef .undef .undef .undef .undef .undef .undef .undef .undef .undef .undef .undef .undef .undef .undef .undef .undef .undef .undef .undef .undef .undef .undef
abbrev aT0 : Arg := .t (.of 0)
abbrev aT1 : Arg := .t (.of 1)
abbrev aT2 : Arg := .t (.of 2)
abbrev aT3 : Arg := .t (.of 3)
abbrev aT4 : Arg := .t (.of 4)
abbrev aT5 : Arg := .t (.of 5)
abbrev aT6 : Arg := .t (.of 6)
abbrev aT7 : Arg := .t (.of 7)
abbrev aT8 : Arg := .t (.of 8)
abbrev aT9 : Arg := .t (.of 9)
abbrev aT10 : Arg := .t (.of 10)
abbrev aT11 : Arg := .t (.of 11)
abbrev aT12 : Arg := .t (.of 12)
abbrev aT13 : Arg := .t (.of 13)
abbrev aT14 : Arg := .t (.of 14)
abbrev aT15 : Arg := .t (.of 15)
abbrev aT16 : Arg := .t (.of 16)
abbrev aT17 : Arg := .t (.of 17)
abbrev aT18 : Arg := .t (.of 18)
abbrev aT19 : Arg := .t (.of 19)
abbrev aT20 : Arg := .t (.of 20)
abbrev aT21 : Arg := .t (.of 21)
abbrev aT22 : Arg := .t (.of 22)
abbrev aT23 : Arg := .t (.of 23)
abbrev aT24 : Arg := .t (.of 24)
abbrev aT25 : Arg := .t (.of 25)
abbrev aT26 : Arg := .t (.of 26)
abbrev aT27 : Arg := .t (.of 27)
abbrev aT28 : Arg := .t (.of 28)
abbrev aT29 : Arg := .t (.of 29)
abbrev aT30 : Arg := .t (.of 30)
abbrev aT31 : Arg := .t (.of 31)
abbrev aS0 : Arg := .s 0
abbrev aS1 : Arg := .s 1
abbrev aS2 : Arg := .s 2
abbrev aS3 : Arg := .s 3
abbrev aS4 : Arg := .s 4
abbrev aS5 : Arg := .s 5
abbrev aS6 : Arg := .s 6
abbrev aS7 : Arg := .s 7
abbrev aS8 : Arg := .s 8
abbrev aS9 : Arg := .s 9
abbrev aS10 : Arg := .s 10
abbrev aS11 : Arg := .s 11
abbrev aS12 : Arg := .s 12
abbrev aS13 : Arg := .s 13
abbrev aS14 : Arg := .s 14
abbrev aS15 : Arg := .s 15
abbrev aS16 : Arg := .s 16
abbrev aS17 : Arg := .s 17
abbrev aS19 : Arg := .s 19
abbrev aS21 : Arg := .s 21
abbrev aS22 : Arg := .s 22
abbrev aS24 : Arg := .s 24
abbrev aS26 : Arg := .s 26
abbrev aC0 : Arg := .c (I 0)
abbrev aC1 : Arg := .c (I 1)
abbrev aC2 : Arg := .c (I 2)
abbrev aC3 : Arg := .c (I 3)
abbrev aC4 : Arg := .c (I 4)
abbrev aC5 : Arg := .c (I 5)
abbrev aC6 : Arg := .c (I 6)
abbrev aC7 : Arg := .c (I 7)
abbrev aC8 : Arg := .c (I 8)
abbrev aC9 : Arg := .c (I 9)
abbrev aC10 : Arg := .c (I 10)
abbrev aC11 : Arg := .c (I 11)
abbrev aC12 : Arg := .c (I 12)
abbrev aC13 : Arg := .c (I 13)
abbrev aC15 : Arg := .c (I 15)
abbrev aC16 : Arg := .c (I 16)
abbrev aC17 : Arg := .c (I 17)
abbrev aC20 : Arg := .c (I 20)
abbrev aC32 : Arg := .c (I 32)
abbrev aC36 : Arg := .c (I 36)
abbrev aC50 : Arg := .c (I 50)
abbrev aC64 : Arg := .c (I 64)
abbrev aC65 : Arg := .c (I 65)
abbrev aC100 : Arg := .c (I 100)
abbrev aC128 : Arg := .c (I 128)
abbrev aC256 : Arg := .c (I 256)
abbrev aC78913 : Arg := .c (I 78913)
abbrev aC1048576 : Arg := .c (I 1048576)
abbrev wG : Arg := .c (I 999999999)
abbrev F3.fr := fr32
def F3.b6 : IR := (.seq (.dreg [(.alloc [(I 0), (I 0), .nils])] [(.s (.loadN 3 aT7), 2, []), (iSm 18, 2, []), (.s (.iaddr 3 aS0 aC0), 2, []), (.s (.loadN 3 aS0), 2, []), (iCa 15 [aS3, aS0], 0, []), (.s (.mv aS0), 1, []), (.s (.ext 0 aS0), 1, []), (.s (.ext 1 aS1), 2, []), (iWl 20 (.alloc [(I 0), (I 0), .nils]), 0, []), (.w .none none (.store 3 aT20 aS1), 0, []), (iQm 21 0, 0, [])]) (.seq (.dreg [(.alloc [(I 0), (I 0), .nils])] [(.s (.loadN 3 aT8), 2, []), (iSm 18, 2, []), (.s (.iaddr 3 aS0 aC1), 2, []), (.s (.loadN 3 aS0), 2, []), (iCa 15 [aS3, aS0], 0, []), (.s (.mv aS0), 1, []), (.s (.ext 0 aS0), 1, []), (.s (.ext 1 aS1), 2, []), (iWl 22 (.alloc [(I 0), (I 0), .nils]), 0, []), (.w .none none (.store 3 aT22 aS1), 0, []), (iQm 23 0, 0, [])]) (iSr [.s (.loadN 3 aT20), .s (.loadN 3 aT22), iCa 9 [aS1, aS0], .s (.mv aS0), .s (.ext 0 aS0), .s (.ext 1 aS1), iWl 24 (.alloc [(I 0), (I 0), .nils]), .w .none none (.store 3 aT24 aS1), iQm 25 0] (iSr [iSm 21, iSm 23, .s (.bin .add .int aS1 aS0), iSm 25, .s (.bin .add .int aS1 aS0), .s (.bin .eql .int aS0 aC0), .s (.mv aS0), iPt 0 (.loadN 3 aT24), .w .push (some (aS1, true)) (.bslice 1 2 [(.str [])] [(0, 1, (.c (.str [110, 111, 114, 109, 97, 108]))), (1, 1, (.c (.str [115, 101, 109, 105, 109, 97, 103, 105, 99])))]), .w .push (some (aS2, true)) (.call (.c (.fn 16 (.of 16) [])) [aS1, aS0]), .s (.pick aS3 aS0 (.c (.bool false))), .s (.mv aS0), .w .push (some (aS0, true)) (.call (.c (.fn 10 (.of 10) [])) []), .s (.pick aS1 aS0 (.c (.bool false))), iQm 3 0] .ret))))
def F3.g5 (X6 : IR) : IR := (iSr [iCa 8 [aC3], .s (.mv aS0), .s (.ext 0 aS0), .s (.ext 1 aS1), iQm 18 1, iQm 19 0] (.seq (iSr [iSm 19, .s (.bin .neq .int aS0 aC0), .s (.mv aS0), iPf 0 (.mv aT18), iPf 1 (.len aS0), iPf 2 (.bin .neq .int aS0 aC2), iQo 31 (.pick aS3 (.c (.bool true)) aS0)] (.cond aT31 (iSr [iQo 3 (.mv (.c (.bool false)))] .ret) .skip)) X6))
def F3.b5 : IR := F3.g5 F3.b6
def F3.g4 (X5 : IR) : IR := (.seq (iSr [iSm 4, iQo 30 (.bin .gtr .int aS0 aC4)] (.cond aT30 (iSr [iCa 10 [], iQm 3 0] .ret) .skip)) X5)
def F3.b4 : IR := F3.g4 F3.b5
def F3.g3 (X4 : IR) : IR := (iSr [.s (.loadN 2 aT14), .s (.faddr 2 aT9), .s (.load aS0), iCa 14 [aS2, aS0], .s (.mv aS0), .s (.ext 0 aS0), .s (.ext 1 aS1), iQm 16 1, iQm 17 0] (.seq (iSr [iSm 17, .s (.bin .neq .int aS0 aC0), .s (.mv aS0), iPf 0 (.mv aT16), iPf 1 (.not aS0), iQo 29 (.pick aS2 (.c (.bool true)) aS0)] (.cond aT29 (iSr [iQo 3 (.mv (.c (.bool false)))] .ret) .skip)) X4))
def F3.b3 : IR := F3.g3 F3.b4
def F3.g2 (X3 : IR) : IR := (iSr [.s (.loadN 3 aT9), iCa 11 [aS0], .s (.mv aS0), .s (.ext 0 aS0), .s (.ext 1 aS1), .s (.ext 2 aS2), iWl 11 (.alloc [(I 0), (I 0), .nils]), iWl 12 (.alloc [(I 0), (I 0), .nils]), .w .none none (.store 3 aT11 aS2), .w .none none (.store 3 aT12 aS1), iQm 13 0] (iSr [iSm 4, .w .push none (.call (.c (.fn 12 (.of 12) [])) [(.c (.str [115, 101, 109, 105, 109, 97, 103, 105, 99])), aS0]), .s (.mv aS0), .s (.ext 0 aS0), .s (.ext 1 aS1), iWl 14 (.alloc [(I 0), .nils]), .w .none none (.store 2 aT14 aS1), iQm 15 0] (.seq (iSr [iSm 10, .s (.bin .neq .int aS0 aC0), .s (.mv aS0), iPf 0 (.mv aT13), iPf 1 (.bin .neq .int aS0 aC0), .s (.pick aS2 (.c (.bool true)) aS0), .s (.mv aS0), iPf 0 (.mv aT15), iPf 1 (.bin .neq .int aS0 aC0), .s (.pick aS2 (.c (.bool true)) aS0), .s (.mv aS0), iPf 0 (.loadN 3 aT11), iPf 1 (.loadN 3 aT7), .w .push (some (aS2, false)) (.call (.c (.fn 13 (.of 13) [])) [aS1, aS0]), iPf 3 (.not aS0), .s (.pick aS4 (.c (.bool true)) aS0), .s (.mv aS0), iPf 0 (.loadN 3 aT12), iPf 1 (.loadN 3 aT8), .w .push (some (aS2, false)) (.call (.c (.fn 13 (.of 13) [])) [aS1, aS0]), iPf 3 (.not aS0), .s (.pick aS4 (.c (.bool true)) aS0), .s (.mv aS0), iPf 0 (.faddr 0 aT14), iPf 1 (.load aS0), iPf 2 (.faddr 2 aT9), iPf 3 (.load aS0), iPf 4 (.len aS0), iPf 5 (.bin .neq .int aS3 aS0), iQo 28 (.pick aS6 (.c (.bool true)) aS0)] (.cond aT28 (iSr [iQo 3 (.mv (.c (.bool false)))] .ret) .skip)) X3)))
def F3.b2 : IR := F3.g2 F3.b3
def F3.g1 (X2 : IR) : IR := (.seq (.dreg [(.alloc [(I 0), (I 0), .nils]), (.alloc [(I 0), (I 0), .nils])] [(iSm 5, 2, []), (iSm 1, 2, []), (.s (.conv .i64 aS0), 2, []), (iSm 4, 2, []), (.s (.bin .sub .int aS0 aC1), 2, []), (.s (.bin .rem .int aS2 aS0), 2, []), (.s (.iaddr 3 aS5 aS0), 2, []), (.s (.loadN 3 aS0), 2, []), (iSm 5, 3, []), (iSm 2, 3, []), (.s (.conv .i64 aS0), 3, []), (iSm 4, 3, []), (.s (.bin .sub .int aS0 aC1), 3, []), (.s (.bin .rem .int aS2 aS0), 3, []), (.s (.iaddr 3 aS5 aS0), 3, []), (.s (.loadN 3 aS0), 3, []), (iWl 7 (.alloc [(I 0), (I 0), .nils]), 0, []), (iWl 8 (.alloc [(I 0), (I 0), .nils]), 0, []), (.w .none none (.store 3 aT7 aS8), 0, []), (.w .none none (.store 3 aT8 aS0), 0, [])]) (iSr [.s (.loadN 3 aT7), .s (.loadN 3 aT8), iCa 9 [aS1, aS0], .s (.mv aS0), .s (.ext 0 aS0), .s (.ext 1 aS1), iWl 9 (.alloc [(I 0), (I 0), .nils]), .w .none none (.store 3 aT9 aS1), iQm 10 0] (.seq (.seq (.dreg [] [(iSm 1, 0, []), (.s (.conv .i64 aS0), 0, []), (iSm 4, 0, []), (.s (.bin .sub .int aS0 aC1), 0, []), (.s (.bin .rem .int aS2 aS0), 0, []), (iSm 2, 0, []), (.s (.conv .i64 aS0), 0, []), (iSm 4, 0, []), (.s (.bin .sub .int aS0 aC1), 0, []), (.s (.bin .rem .int aS2 aS0), 0, []), (iQo 27 (.bin .eql .int aS5 aS0), 0, [])]) (.cond aT27 (iSr [iSm 10, .s (.bin .eql .int aS0 aC9), .s (.mv aS0), .w .push (some (aS0, true)) (.call (.c (.fn 10 (.of 10) [])) []), .s (.pick aS1 aS0 (.c (.bool false))), iQm 3 0] .ret) .skip)) X2)))
def F3.b1 : IR := F3.g1 F3.b2
def F3.g0 (X1 : IR) : IR := (iSr [iQo 3 (.mv (.c (.bool false)))] (iSr [.w .push none (.bslice 1 3 [(I 0)] [(0, 1, aC3), (1, 1, aC4), (2, 1, aC5)]), iSm 0, .s (.conv .i64 aS0), .s (.bin .rem .int aS0 aC3), .s (.iaddr 1 aS3 aS0), .s (.load aS0), iQm 4 0] (iSr [iSm 4, iCa 8 [aS0], .s (.mv aS0), .s (.ext 0 aS0), .s (.ext 1 aS1), iQm 5 1, iQm 6 0] (.seq (iSr [iSm 6, .s (.bin .neq .int aS0 aC0), .s (.mv aS0), iPf 0 (.mv aT5), iPf 1 (.len aS0), iPf 2 (.mv aT4), iPf 3 (.bin .sub .int aS0 aC1), iPf 4 (.bin .neq .int aS2 aS0), iQo 26 (.pick aS5 (.c (.bool true)) aS0)] (.cond aT26 (iSr [iQo 3 (.mv (.c (.bool false)))] .ret) .skip)) X1))))
def F3.b0 : IR := F3.g0 F3.b1
def F3.res : List RV := [.t (.of 3)]
def F3 : Fn := { params := [(.of 0), (.of 1), (.of 2)], res := F3.res, body := F3.b0, init := in32 }
theorem F3.ok : fnA Tryz.prog Tryz.f3 [0, 1, 2, 6, 7, 8, 9, 10, 11, 12, 13, 14, 15, 16, 17, 18, 19, 20, 21, 22, 23, 24, 25, 26, 27, 28, 48, 81, 127, 140, 142, 154] = some F3 := by kernel_rfl
abbrev F8.fr := fr10
def F8.b7 : IR := (.reg [iSm 5, iSm 0, .s (.fn 49 (.of 49) [aT3, aT6]), iCa 48 [aS1, aS0], .w .push none (.bslice 3 1 [(I 0), (I 0), .nils] [(0, 3, aS0)]), .w .push none (.app 3 40 aS4 aS0), iQm 5 0])
def F8.g6 (X7 : IR) : IR := (.block 1 X7)
def F8.b6 : IR := F8.g6 F8.b7
def F8.b8 : IR := (.seq (iSr [iQo 9 (.load aT6)] (.reg [iWl 6 (.alloc [(I 0)]), .w .none none (.store 1 aT6 aT9)])) (.reg [.s (.load aT6), .s (.bin .add .int aS0 aC1), .w .none none (.store 1 aT6 aS0)]))
def F8.g5 (X6 X8 : IR) : IR := (.seq X6 X8)
def F8.b5 : IR := F8.g5 F8.b6 F8.b8
def F8.g4 (X5 : IR) : IR := (.seq (iSr [.s (.load aT6), iSm 0, iQo 8 (.bin .lss .int aS1 aS0)] (.cond aT8 .skip (.exit 0))) X5)
def F8.b4 : IR := F8.g4 F8.b5
def F8.g3 (X4 : IR) : IR := (.loop X4)
def F8.b3 : IR := F8.g3 F8.b4
def F8.g2 (X3 : IR) : IR := (.block 0 X3)
def F8.b2 : IR := F8.g2 F8.b3
def F8.b9 : IR := (iSr [iSm 5, iQm 1 0, iQo 2 (.mv aC0)] .ret)
def F8.g1 (X2 X9 : IR) : IR := (iSr [iQo 5 (.mv (.c .nils))] (.seq (iSr [iWl 6 (.alloc [(I 0)]), .w .none none (.store 1 aT6 aC1)] X2) X9))
def F8.b1 : IR := F8.g1 F8.b2 F8.b9
def F8.g0 (X1 : IR) : IR := (iSr [iQo 1 (.mv (.c .nils)), iQo 2 (.mv aC0)] (iSr [iSm 0, iCa 47 [aS0], .s (.mv aS0), .s (.ext 0 aS0), .s (.ext 1 aS1), iWl 3 (.alloc [(I 0), (I 0), .nils]), .w .none none (.store 3 aT3 aS1), iQm 4 0] (.seq (iSr [iSm 4, iQo 7 (.bin .neq .int aS0 aC0)] (.cond aT7 (iSr [iSm 4, iQo 1 (.mv (.c .nils)), iQm 2 0] .ret) .skip)) X1)))
def F8.b0 : IR := F8.g0 F8.b1
def F8.res : List RV := [.t (.of 1), .t (.of 2)]
def F8 : Fn := { params := [(.of 0)], res := F8.res, body := F8.b0, init := in10 }
theorem F8.ok : fnA Tryz.prog Tryz.f8 [0, 2, 3, 4, 5, 6, 7, 14, 18, 27] = some F8 := by kernel_rfl
abbrev F9.fr := fr11
def F9.b2 : IR := (iSr [.s (.loadN 3 aT8), .w .none none (.store 3 aT4 aS0), iQo 5 (.mv aC0)] .ret)
def F9.g1 (X2 : IR) : IR := (iSr [.s (.faddr 0 aT2), .s (.load aS0), iWl 7 (.alloc [(I 0)]), .w .none none (.store 1 aT7 aS0)] (iSr [.s (.load aT7), .s (.fn 56 (.of 56) [aT2, aT7, aT3]), iCa 55 [aS1, aS0], iWl 8 (.alloc [(I 0), (I 0), .nils]), .w .none none (.store 3 aT8 aS0)] (.seq (iSr [.s (.loadN 3 aT8), iCa 57 [aS0], iQo 10 (.bin .neq .int aS0 aC0)] (.cond aT10 (iSr [.s (.build [(I 0), (I 0), .nils] []), .w .none none (.store 3 aT4 aS0), iQo 5 (.mv aC9)] .ret) .skip)) X2)))
def F9.b1 : IR := F9.g1 F9.b2
def F9.g0 (X1 : IR) : IR := (iSr [iWl 2 (.box aT0), iWl 3 (.box aT1), iWl 4 (.alloc [(I 0), (I 0), .nils]), iQo 5 (.mv aC0)] (.seq (.seq (.dreg [] [(.s (.loadN 3 aT2), 0, []), (.s (.loadN 3 aT3), 1, []), (.s (.faddr 0 aT2), 2, []), (.s (.load aS0), 2, []), (.s (.faddr 0 aT3), 2, []), (.s (.load aS0), 2, []), (.s (.bin .neq .int aS2 aS0), 2, []), (iCa 53 [aS6], 0, []), (iCa 53 [aS6], 0, []), (iCa 54 [aS2, aC2], 0, []), (.w .push none (.bslice 1 3 [(I 0)] [(0, 1, aS2), (1, 1, aS1), (2, 1, aS0)]), 0, []), (iCa 52 [aS0], 0, []), (iQm 6 0, 0, [])]) (iSr [iSm 6, iQo 9 (.bin .neq .int aS0 aC0)] (.cond aT9 (iSr [.s (.build [(I 0), (I 0), .nils] []), iSm 6, .w .none none (.store 3 aT4 aS1), iQm 5 0] .ret) .skip))) X1))
def F9.b0 : IR := F9.g0 F9.b1
def F9.res : List RV := [.cell (.of 4) (some 3), .t (.of 5)]
def F9 : Fn := { params := [(.of 0), (.of 1)], res := F9.res, body := F9.b0, init := in11 }
theorem F9.ok : fnA Tryz.prog Tryz.f9 [0, 1, 2, 3, 4, 5, 6, 7, 8, 22, 32] = some F9 := by kernel_rfl
abbrev F10.fr := fr10
def F10.b0 : IR := (iSr [iQo 0 (.mv (.c (.bool false)))] (iSr [iCa 58 [aC3], .s (.mv aS0), .s (.ext 0 aS0), .s (.ext 1 aS1), iWl 1 (.alloc [(I 0), (I 0), .nils]), .w .none none (.store 3 aT1 aS1), iQm 2 0] (iSr [.s (.loadN 3 aT1), iCa 11 [aS0], .s (.mv aS0), .s (.ext 0 aS0), .s (.ext 1 aS1), .s (.ext 2 aS2), iWl 3 (.alloc [(I 0), (I 0), .nils]), iWl 4 (.alloc [(I 0), (I 0), .nils]), .w .none none (.store 3 aT3 aS2), .w .none none (.store 3 aT4 aS1), iQm 5 0] (iSr [.s (.loadN 3 aT3), .s (.loadN 3 aT4), iCa 59 [aS1, aS0], .s (.mv aS0), .s (.ext 0 aS0), .s (.ext 1 aS1), iQm 6 1, iQm 7 0] (iSr [.s (.loadN 3 aT3), .s (.loadN 3 aT4), iCa 9 [aS1, aS0], .s (.mv aS0), .s (.ext 0 aS0), .s (.ext 1 aS1), iWl 8 (.alloc [(I 0), (I 0), .nils]), .w .none none (.store 3 aT8 aS1), iQm 9 0] (iSr [iSm 2, iSm 5, .s (.bin .add .int aS1 aS0), iSm 7, .s (.bin .add .int aS1 aS0), iSm 9, .s (.bin .add .int aS1 aS0), .s (.bin .eql .int aS0 aC0), .s (.mv aS0), iPt 0 (.mv aT6), .s (.pick aS1 aS0 (.c (.bool false))), .s (.mv aS0), iPt 0 (.loadN 3 aT8), iPt 1 (.loadN 3 aT1), .w .push (some (aS2, true)) (.call (.c (.fn 13 (.of 13) [])) [aS1, aS0]), .s (.pick aS3 aS0 (.c (.bool false))), .s (.mv aS0), iPt 0 (.faddr 2 aT1), iPt 1 (.load aS0), iPt 2 (.len aS0), iPt 3 (.bin .eql .int aS0 aC9), .s (.pick aS4 aS0 (.c (.bool false))), .s (.mv aS0), iPt 0 (.faddr 2 aT1), iPt 1 (.load aS0), iPt 2 (.iaddr 1 aS0 aC0), iPt 3 (.load aS0), iPt 4 (.bin .eql .int aS0 aC8), .s (.pick aS5 aS0 (.c (.bool false))), iQm 0 0] .ret))))))
def F10.res : List RV := [.t (.of 0)]
def F10 : Fn := { params := [], res := F10.res, body := F10.b0, init := in10 }
theorem F10.ok : fnA Tryz.prog Tryz.f10 [0, 1, 2, 3, 4, 5, 6, 7, 8, 9] = some F10 := by kernel_rfl
abbrev F11.fr := fr10
def F11.b1 : IR := (iSr [.s (.faddr 0 aT1), .s (.load aS0), iWl 6 (.alloc [(I 0)]), .w .none none (.store 1 aT6 aS0)] (iSr [.s (.load aT6), .s (.fn 60 (.of 60) [aT1, aT6]), iCa 55 [aS1, aS0], iWl 7 (.alloc [(I 0), (I 0), .nils]), .w .none none (.store 3 aT7 aS0)] (iSr [.s (.load aT6), .s (.fn 61 (.of 61) [aT1, aT6]), iCa 55 [aS1, aS0], iWl 8 (.alloc [(I 0), (I 0), .nils]), .w .none none (.store 3 aT8 aS0)] (.seq (.dreg [] [(.s (.loadN 3 aT7), 0, []), (.s (.loadN 3 aT8), 1, []), (.w .none none (.store 3 aT2 aS1), 0, []), (.w .none none (.store 3 aT3 aS0), 0, []), (iQo 4 (.mv aC0), 0, [])]) .ret))))
def F11.g0 (X1 : IR) : IR := (iSr [iWl 1 (.box aT0), iWl 2 (.alloc [(I 0), (I 0), .nils]), iWl 3 (.alloc [(I 0), (I 0), .nils]), iQo 4 (.mv aC0)] (.seq (iSr [.s (.loadN 3 aT1), iCa 57 [aS0], iQm 5 0] (iSr [iSm 5, iQo 9 (.bin .neq .int aS0 aC0)] (.cond aT9 (iSr [.s (.build [(I 0), (I 0), .nils] []), .s (.build [(I 0), (I 0), .nils] []), iSm 5, .w .none none (.store 3 aT2 aS2), .w .none none (.store 3 aT3 aS1), iQm 4 0] .ret) .skip))) X1))
def F11.b0 : IR := F11.g0 F11.b1
def F11.res : List RV := [.cell (.of 2) (some 3), .cell (.of 3) (some 3), .t (.of 4)]
def F11 : Fn := { params := [(.of 0)], res := F11.res, body := F11.b0, init := in10 }
theorem F11.ok : fnA Tryz.prog Tryz.f11 [0, 1, 2, 3, 4, 5, 6, 7, 8, 12] = some F11 := by kernel_rfl
abbrev F12.fr := fr7
def F12.b1 : IR := (iSr [iSm 0, iSm 1, iCa 66 [aS1, aS0], .w .none none (.store 2 aT2 aS0), iQo 3 (.mv aC0)] .ret)
def F12.g0 (X1 : IR) : IR := (iSr [iWl 2 (.alloc [(I 0), .nils]), iQo 3 (.mv aC0)] (iSr [.w .push none (.bslice 1 3 [(.str [])] [(0, 1, (.c (.str [115, 101, 109, 105, 109, 97, 103, 105, 99]))), (1, 1, (.c (.str [109, 97, 103, 105, 99]))), (2, 1, (.c (.str [112, 97, 110, 100, 105, 97, 103, 111, 110, 97, 108])))]), iSm 0, iCa 62 [aS1, aS0], iQm 4 0] (.seq (iSr [iSm 4, .s (.not aS0), iCa 64 [aS0, aC13], iSm 1, .w .push none (.bslice 1 1 [(I 0)] [(0, 1, aS0)]), iCa 65 [aC1, aC16, aS0], .w .push none (.bslice 1 2 [(I 0)] [(0, 1, aS3), (1, 1, aS0)]), iCa 63 [aS0], iQm 5 0] (iSr [iSm 5, iQo 6 (.bin .neq .int aS0 aC0)] (.cond aT6 (iSr [.s (.build [(I 0), .nils] []), iSm 5, .w .none none (.store 2 aT2 aS1), iQm 3 0] .ret) .skip))) X1)))
def F12.b0 : IR := F12.g0 F12.b1
def F12.res : List RV := [.cell (.of 2) (some 2), .t (.of 3)]
def F12 : Fn := { params := [(.of 0), (.of 1)], res := F12.res, body := F12.b0, init := in7 }
theorem F12.ok : fnA Tryz.prog Tryz.f12 [0, 1, 4, 5, 6, 7, 20] = some F12 := by kernel_rfl
abbrev F13.fr := fr5
def F13.b0 : IR := (iSr [iWl 2 (.box aT0), iWl 3 (.box aT1), iQo 4 (.mv (.c (.bool false)))] (iSr [.s (.faddr 0 aT2), .s (.load aS0), .s (.faddr 0 aT3), .s (.load aS0), .s (.bin .eql .int aS2 aS0), .s (.mv aS0), iPt 0 (.faddr 1 aT2), iPt 1 (.load aS0), iPt 2 (.faddr 1 aT3), iPt 3 (.load aS0), iPt 4 (.bin .eql .int aS2 aS0), .s (.pick aS5 aS0 (.c (.bool false))), .s (.mv aS0), iPt 0 (.faddr 2 aT2), iPt 1 (.load aS0), iPt 2 (.faddr 2 aT3), iPt 3 (.load aS0), .w .push (some (aS4, true)) (.call (.c (.fn 32 (.of 32) [])) [aS2, aS0]), .s (.pick aS5 aS0 (.c (.bool false))), iQm 4 0] .ret))
def F13.res : List RV := [.t (.of 4)]
def F13 : Fn := { params := [(.of 0), (.of 1)], res := F13.res, body := F13.b0, init := in5 }
theorem F13.ok : fnA Tryz.prog Tryz.f13 [0, 1, 2, 3, 4] = some F13 := by kernel_rfl
abbrev F14.fr := fr7
def F14.b1 : IR := (iSr [.s (.loadN 2 aT2), iSm 1, iCa 68 [aS1, aS0], .s (.bin .lss .int aS0 aC0), iQm 3 0, iQo 4 (.mv aC0)] .ret)
def F14.g0 (X1 : IR) : IR := (iSr [iWl 2 (.box aT0), iQo 3 (.mv (.c (.bool false))), iQo 4 (.mv aC0)] (.seq (iSr [.s (.loadN 2 aT2), iSm 1, iCa 67 [aS1, aS0], iQm 5 0] (iSr [iSm 5, iQo 6 (.bin .neq .int aS0 aC0)] (.cond aT6 (iSr [iSm 5, iQo 3 (.mv (.c (.bool false))), iQm 4 0] .ret) .skip))) X1))
def F14.b0 : IR := F14.g0 F14.b1
def F14.res : List RV := [.t (.of 3), .t (.of 4)]
def F14 : Fn := { params := [(.of 0), (.of 1)], res := F14.res, body := F14.b0, init := in7 }
theorem F14.ok : fnA Tryz.prog Tryz.f14 [0, 1, 2, 4, 5, 6, 11] = some F14 := by kernel_rfl
abbrev F15.fr := fr10
def F15.b2 : IR := (iSr [.s (.faddr 0 aT2), .s (.load aS0), .s (.load aT7), .s (.bin .mul .int aS1 aS0), .s (.fn 71 (.of 71) [aT7, aT2, aT3]), iCa 48 [aS1, aS0], .w .none none (.store 3 aT4 aS0), iQo 5 (.mv aC0)] .ret)
def F15.g1 (X2 : IR) : IR := (iSr [.s (.faddr 0 aT3), .s (.load aS0), iWl 7 (.alloc [(I 0)]), .w .none none (.store 1 aT7 aS0)] (.seq (iSr [.s (.faddr 0 aT2), .s (.load aS0), .s (.load aT7), .s (.bin .mul .int aS1 aS0), iQo 9 (.bin .gtr .int aS0 aC16)] (.cond aT9 (iSr [.s (.build [(I 0), (I 0), .nils] []), .w .none none (.store 3 aT4 aS0), iQo 5 (.mv aC20)] .ret) .skip)) X2))
def F15.b1 : IR := F15.g1 F15.b2
def F15.g0 (X1 : IR) : IR := (iSr [iWl 2 (.box aT0), iWl 3 (.box aT1), iWl 4 (.alloc [(I 0), (I 0), .nils]), iQo 5 (.mv aC0)] (.seq (.seq (.dreg [] [(.s (.loadN 3 aT2), 0, []), (.s (.loadN 3 aT3), 1, []), (iCa 70 [aS1], 0, []), (iCa 70 [aS1], 0, []), (.w .push none (.bslice 1 2 [(I 0)] [(0, 1, aS1), (1, 1, aS0)]), 0, []), (iCa 69 [aS0], 0, []), (iQm 6 0, 0, [])]) (iSr [iSm 6, iQo 8 (.bin .neq .int aS0 aC0)] (.cond aT8 (iSr [.s (.build [(I 0), (I 0), .nils] []), iSm 6, .w .none none (.store 3 aT4 aS1), iQm 5 0] .ret) .skip))) X1))
def F15.b0 : IR := F15.g0 F15.b1
def F15.res : List RV := [.cell (.of 4) (some 3), .t (.of 5)]
def F15 : Fn := { params := [(.of 0), (.of 1)], res := F15.res, body := F15.b0, init := in10 }
theorem F15.ok : fnA Tryz.prog Tryz.f15 [0, 1, 2, 3, 4, 5, 6, 7, 15, 24] = some F15 := by kernel_rfl
abbrev F16.fr := fr19
def F16.b13 : IR := (iSr [.s (.iaddr 1 aT14 aT16), .s (.load aS0), iQm 8 0] (.reg [iSm 7, .s (.mv aS0), iPf 0 (.mv aT8), iPf 1 (.mv aT6), iPf 2 (.bin .eql .str aS1 aS0), .s (.pick aS3 (.c (.bool true)) aS0), iQm 7 0]))
def F16.g12 (X13 : IR) : IR := (.block 3 X13)
def F16.b12 : IR := F16.g12 F16.b13
def F16.b14 : IR := (.reg [.s (.bin .add .int aT16 aC1), iQm 16 0])
def F16.g11 (X12 X14 : IR) : IR := (.seq X12 X14)
def F16.b11 : IR := F16.g11 F16.b12 F16.b14
def F16.g10 (X11 : IR) : IR := (iSr [iQo 17 (.bin .lss .int aT16 aT15)] (.seq (.cond aT17 .skip (.exit 2)) X11))
def F16.b10 : IR := F16.g10 F16.b11
def F16.g9 (X10 : IR) : IR := (.loop X10)
def F16.b9 : IR := F16.g9 F16.b10
def F16.g8 (X9 : IR) : IR := (.block 2 X9)
def F16.b8 : IR := F16.g8 F16.b9
def F16.b15 : IR := (iSr [iSm 7, iQo 18 (.not aS0)] (.cond aT18 (iSr [iQo 3 (.mv (.c (.bool false)))] .ret) .skip))
def F16.g7 (X8 X15 : IR) : IR := (iSr [.s (.iaddr 1 aT10 aT12), .s (.load aS0), iQm 6 0] (iSr [iQo 7 (.mv (.c (.bool false)))] (.seq (iSr [iQo 14 (.mv aT4), iQo 15 (.len aT14), iQo 16 (.mv aC0)] X8) X15)))
def F16.b7 : IR := F16.g7 F16.b8 F16.b15
def F16.g6 (X7 : IR) : IR := (.block 1 X7)
def F16.b6 : IR := F16.g6 F16.b7
def F16.b16 : IR := (.reg [.s (.bin .add .int aT12 aC1), iQm 12 0])
def F16.g5 (X6 X16 : IR) : IR := (.seq X6 X16)
def F16.b5 : IR := F16.g5 F16.b6 F16.b16
def F16.g4 (X5 : IR) : IR := (iSr [iQo 13 (.bin .lss .int aT12 aT11)] (.seq (.cond aT13 .skip (.exit 0)) X5))
def F16.b4 : IR := F16.g4 F16.b5
def F16.g3 (X4 : IR) : IR := (.loop X4)
def F16.b3 : IR := F16.g3 F16.b4
def F16.g2 (X3 : IR) : IR := (.block 0 X3)
def F16.b2 : IR := F16.g2 F16.b3
def F16.b17 : IR := (iSr [iQo 3 (.mv (.c (.bool true)))] .ret)
def F16.g1 (X2 X17 : IR) : IR := (.seq (iSr [iQo 10 (.mv aT1), iQo 11 (.len aT10), iQo 12 (.mv aC0)] X2) X17)
def F16.b1 : IR := F16.g1 F16.b2 F16.b17
def F16.g0 (X1 : IR) : IR := (iSr [iWl 2 (.box aT0), iQo 3 (.mv (.c (.bool false)))] (iSr [.s (.loadN 3 aT2), iCa 73 [aS0], .s (.mv aS0), .s (.ext 0 aS0), .s (.ext 1 aS1), iQm 4 1, iQm 5 0] (.seq (iSr [iSm 5, iQo 9 (.bin .neq .int aS0 aC0)] (.cond aT9 (iSr [iQo 3 (.mv (.c (.bool false)))] .ret) .skip)) X1)))
def F16.b0 : IR := F16.g0 F16.b1
def F16.res : List RV := [.t (.of 3)]
def F16 : Fn := { params := [(.of 0), (.of 1)], res := F16.res, body := F16.b0, init := in19 }
theorem F16.ok : fnA Tryz.prog Tryz.f16 [0, 1, 2, 4, 5, 6, 8, 9, 11, 18, 19, 20, 21, 22, 25, 26, 27, 28, 39] = some F16 := by kernel_rfl
abbrev F32.fr := fr7
def F32.b7 : IR := (.seq (.dreg [] [(iSm 0, 0, []), (iSm 3, 0, []), (.s (.iaddr 1 aS1 aS0), 0, []), (.s (.load aS0), 0, []), (iSm 1, 0, []), (iSm 3, 0, []), (.s (.iaddr 1 aS1 aS0), 0, []), (.s (.load aS0), 0, []), (iQo 6 (.bin .neq .int aS4 aS0), 0, [])]) (.cond aT6 (iSr [iQo 2 (.mv (.c (.bool false)))] .ret) .skip))
def F32.g6 (X7 : IR) : IR := (.block 1 X7)
def F32.b6 : IR := F32.g6 F32.b7
def F32.b8 : IR := (.reg [iSm 3, .s (.bin .add .int aS0 aC1), iQm 3 0])
def F32.g5 (X6 X8 : IR) : IR := (.seq X6 X8)
def F32.b5 : IR := F32.g5 F32.b6 F32.b8
def F32.g4 (X5 : IR) : IR := (.seq (iSr [iSm 3, iSm 0, .s (.len aS0), iQo 5 (.bin .lss .int aS2 aS0)] (.cond aT5 .skip (.exit 0))) X5)
def F32.b4 : IR := F32.g4 F32.b5
def F32.g3 (X4 : IR) : IR := (.loop X4)
def F32.b3 : IR := F32.g3 F32.b4
def F32.g2 (X3 : IR) : IR := (.block 0 X3)
def F32.b2 : IR := F32.g2 F32.b3
def F32.b9 : IR := (iSr [iQo 2 (.mv (.c (.bool true)))] .ret)
def F32.g1 (X2 X9 : IR) : IR := (.seq (iSr [iQo 3 (.mv aC0)] X2) X9)
def F32.b1 : IR := F32.g1 F32.b2 F32.b9
def F32.g0 (X1 : IR) : IR := (iSr [iQo 2 (.mv (.c (.bool false)))] (.seq (iSr [iSm 0, .s (.len aS0), iSm 1, .s (.len aS0), iQo 4 (.bin .neq .int aS2 aS0)] (.cond aT4 (iSr [iQo 2 (.mv (.c (.bool false)))] .ret) .skip)) X1))
def F32.b0 : IR := F32.g0 F32.b1
def F32.res : List RV := [.t (.of 2)]
def F32 : Fn := { params := [(.of 0), (.of 1)], res := F32.res, body := F32.b0, init := in7 }
theorem F32.ok : fnA Tryz.prog Tryz.f32 [0, 1, 4, 5, 10, 14, 25] = some F32 := by kernel_rfl
abbrev F47.fr := fr7
def F47.b1 : IR := (iSr [iSm 0, iCa 150 [aS0], .s (.mv aS0), .s (.ext 0 aS0), .s (.ext 1 aS1), iWl 4 (.alloc [(I 0), (I 0), .nils]), .w .none none (.store 3 aT4 aS1), iQm 5 0] (.seq (.dreg [] [(.s (.loadN 3 aT4), 1, []), (iSm 5, 0, []), (.s (.not aS0), 0, []), (iCa 151 [aS0, aC15], 0, []), (.w .none none (.store 3 aT1 aS3), 0, []), (iQm 2 0, 0, [])]) .ret))
def F47.g0 (X1 : IR) : IR := (iSr [iWl 1 (.alloc [(I 0), (I 0), .nils]), iQo 2 (.mv aC0)] (.seq (iSr [iSm 0, iCa 149 [aS0], iQm 3 0] (iSr [iSm 3, iQo 6 (.bin .neq .int aS0 aC0)] (.cond aT6 (iSr [.s (.build [(I 0), (I 0), .nils] []), iSm 3, .w .none none (.store 3 aT1 aS1), iQm 2 0] .ret) .skip))) X1))
def F47.b0 : IR := F47.g0 F47.b1
def F47.res : List RV := [.cell (.of 1) (some 3), .t (.of 2)]
def F47 : Fn := { params := [(.of 0)], res := F47.res, body := F47.b0, init := in7 }
theorem F47.ok : fnA Tryz.prog Tryz.f47 [0, 2, 3, 4, 5, 6, 10] = some F47 := by kernel_rfl
abbrev F48.fr := fr12
def F48.b12 : IR := (iSr [iSm 10, iQm 5 0] (.dreg [] [(.s (.faddr 2 aT3), 2, []), (.s (.load aS0), 2, []), (iSm 1, 0, []), (iSm 4, 0, []), (iSm 5, 0, []), (.w .push none (.call aS2 [aS1, aS0]), 0, []), (.w .push none (.bslice 1 1 [(I 0)] [(0, 1, aS0)]), 0, []), (.w .push none (.app 1 8 aS5 aS0), 0, []), (.s (.faddr 2 aT3), 0, []), (.w .none none (.store 1 aS0 aS1), 0, [])]))
def F48.g11 (X12 : IR) : IR := (.block 3 X12)
def F48.b11 : IR := F48.g11 F48.b12
def F48.b13 : IR := (.reg [.s (.bin .add .int aT10 aC1), iQm 10 0])
def F48.g10 (X11 X13 : IR) : IR := (.seq X11 X13)
def F48.b10 : IR := F48.g10 F48.b11 F48.b13
def F48.g9 (X10 : IR) : IR := (iSr [iQo 11 (.bin .lss .int aT10 aT9)] (.seq (.cond aT11 .skip (.exit 2)) X10))
def F48.b9 : IR := F48.g9 F48.b10
def F48.g8 (X9 : IR) : IR := (.loop X9)
def F48.b8 : IR := F48.g8 F48.b9
def F48.g7 (X8 : IR) : IR := (.block 2 X8)
def F48.b7 : IR := F48.g7 F48.b8
def F48.g6 (X7 : IR) : IR := (iSr [iSm 7, iQm 4 0] (iSr [iQo 9 (.mv aT0), iQo 10 (.mv aC0)] X7))
def F48.b6 : IR := F48.g6 F48.b7
def F48.g5 (X6 : IR) : IR := (.block 1 X6)
def F48.b5 : IR := F48.g5 F48.b6
def F48.b14 : IR := (.reg [.s (.bin .add .int aT7 aC1), iQm 7 0])
def F48.g4 (X5 X14 : IR) : IR := (.seq X5 X14)
def F48.b4 : IR := F48.g4 F48.b5 F48.b14
def F48.g3 (X4 : IR) : IR := (iSr [iQo 8 (.bin .lss .int aT7 aT6)] (.seq (.cond aT8 .skip (.exit 0)) X4))
def F48.b3 : IR := F48.g3 F48.b4
def F48.g2 (X3 : IR) : IR := (.loop X3)
def F48.b2 : IR := F48.g2 F48.b3
def F48.g1 (X2 : IR) : IR := (.block 0 X2)
def F48.b1 : IR := F48.g1 F48.b2
def F48.b15 : IR := (iSr [.s (.loadN 3 aT3), .w .none none (.store 3 aT2 aS0)] .ret)
def F48.g0 (X1 X15 : IR) : IR := (iSr [iWl 2 (.alloc [(I 0), (I 0), .nils])] (iSr [iSm 0, iSm 0, .s (.build [(I 0), (I 0), .nils] [(0, 1, aS1), (1, 1, aS0)]), iWl 3 (.alloc [(I 0), (I 0), .nils]), .w .none none (.store 3 aT3 aS0)] (.seq (iSr [iQo 6 (.mv aT0), iQo 7 (.mv aC0)] X1) X15)))
def F48.b0 : IR := F48.g0 F48.b1 F48.b15
def F48.res : List RV := [.cell (.of 2) (some 3)]
def F48 : Fn := { params := [(.of 0), (.of 1)], res := F48.res, body := F48.b0, init := in12 }
theorem F48.ok : fnA Tryz.prog Tryz.f48 [0, 1, 4, 5, 6, 7, 11, 12, 13, 15, 16, 17] = some F48 := by kernel_rfl
abbrev F49.fr := fr5
def F49.b0 : IR := (iSr [iQo 4 (.mv aC0)] (.seq (.dreg [] [(.s (.loadN 3 aT2), 1, []), (.s (.loadN 3 aT2), 0, []), (.s (.load aT3), 0, []), (iSm 0, 0, []), (iSm 1, 1, []), (iCa 51 [aS3, aS2, aS1], 0, []), (iCa 50 [aS5, aS0, aS1], 0, []), (iQm 4 0, 0, [])]) .ret))
def F49.res : List RV := [.t (.of 4)]
def F49 : Fn := { params := [(.of 0), (.of 1), (.of 2), (.of 3)], res := F49.res, body := F49.b0, init := in5 }
theorem F49.ok : fnA Tryz.prog Tryz.f49 [0, 1, 2, 3, 6] = some F49 := by kernel_rfl
abbrev F50.fr := fr11
def F50.b6 : IR := (iSr [iSm 9, iQm 7 0] (.dreg [] [(iSm 5, 0, []), (iSm 7, 0, []), (.s (.iaddr 1 aS1 aS0), 0, []), (.s (.load aS0), 0, []), (iSm 6, 0, []), (iSm 7, 0, []), (.s (.iaddr 1 aS1 aS0), 0, []), (.s (.load aS0), 0, []), (.s (.bin .add .int aS4 aS0), 0, []), (.s (.iaddr 1 aS8 aS7), 0, []), (.w .none none (.store 1 aS0 aS1), 0, [])]))
def F50.g5 (X6 : IR) : IR := (.block 1 X6)
def F50.b5 : IR := F50.g5 F50.b6
def F50.b7 : IR := (.reg [.s (.bin .add .int aT9 aC1), iQm 9 0])
def F50.g4 (X5 X7 : IR) : IR := (.seq X5 X7)
def F50.b4 : IR := F50.g4 F50.b5 F50.b7
def F50.g3 (X4 : IR) : IR := (iSr [iQo 10 (.bin .lss .int aT9 aT8)] (.seq (.cond aT10 .skip (.exit 0)) X4))
def F50.b3 : IR := F50.g3 F50.b4
def F50.g2 (X3 : IR) : IR := (.loop X3)
def F50.b2 : IR := F50.g2 F50.b3
def F50.g1 (X2 : IR) : IR := (.block 0 X2)
def F50.b1 : IR := F50.g1 F50.b2
def F50.b8 : IR := (iSr [.s (.loadN 3 aT3), iSm 5, iCa 153 [aS1, aS0], iQm 4 0] .ret)
def F50.g0 (X1 X8 : IR) : IR := (iSr [iWl 3 (.box aT0), iQo 4 (.mv aC0)] (.seq (.dreg [] [(.s (.loadN 3 aT3), 0, []), (iSm 1, 0, []), (.s (.loadN 3 aT3), 1, []), (iSm 2, 1, []), (iCa 152 [aS3, aS2], 0, []), (iCa 152 [aS2, aS1], 0, []), (iQm 5 1, 0, []), (iQm 6 0, 0, [])]) (.seq (iSr [iSm 5, iQo 8 (.len aS0), iQo 9 (.mv aC0)] X1) X8)))
def F50.b0 : IR := F50.g0 F50.b1 F50.b8
def F50.res : List RV := [.t (.of 4)]
def F50 : Fn := { params := [(.of 0), (.of 1), (.of 2)], res := F50.res, body := F50.b0, init := in11 }
theorem F50.ok : fnA Tryz.prog Tryz.f50 [0, 1, 2, 3, 6, 7, 8, 9, 17, 18, 19] = some F50 := by kernel_rfl
abbrev F51.fr := fr30
def F51.b13 : IR := (iSr [iSm 23, .s (.iaddr 1 aT21 aT23), .s (.load aS0), iQm 11 2, iQm 12 0] (.reg [iSm 8, iSm 9, iSm 11, .s (.bin .add .int aS1 aS0), .s (.iaddr 1 aS3 aS0), .s (.load aS0), iSm 10, iSm 12, .s (.bin .mul .int aS1 aS0), .s (.bin .add .int aS3 aS0), .s (.iaddr 1 aS9 aS6), .w .none none (.store 1 aS0 aS1)]))
def F51.g12 (X13 : IR) : IR := (.block 3 X13)
def F51.b12 : IR := F51.g12 F51.b13
def F51.b14 : IR := (.reg [.s (.bin .add .int aT23 aC1), iQm 23 0])
def F51.g11 (X12 X14 : IR) : IR := (.seq X12 X14)
def F51.b11 : IR := F51.g11 F51.b12 F51.b14
def F51.g10 (X11 : IR) : IR := (iSr [iQo 24 (.bin .lss .int aT23 aT22)] (.seq (.cond aT24 .skip (.exit 2)) X11))
def F51.b10 : IR := F51.g10 F51.b11
def F51.g9 (X10 : IR) : IR := (.loop X10)
def F51.b9 : IR := F51.g9 F51.b10
def F51.g8 (X9 : IR) : IR := (.block 2 X9)
def F51.b8 : IR := F51.g8 F51.b9
def F51.g7 (X8 : IR) : IR := (iSr [iSm 19, .s (.iaddr 1 aT17 aT19), .s (.load aS0), iQm 9 2, iQm 10 0] (iSr [iQo 21 (.mv aT6), iQo 22 (.len aT21), iQo 23 (.mv aC0)] X8))
def F51.b7 : IR := F51.g7 F51.b8
def F51.g6 (X7 : IR) : IR := (.block 1 X7)
def F51.b6 : IR := F51.g6 F51.b7
def F51.b15 : IR := (.reg [.s (.bin .add .int aT19 aC1), iQm 19 0])
def F51.g5 (X6 X15 : IR) : IR := (.seq X6 X15)
def F51.b5 : IR := F51.g5 F51.b6 F51.b15
def F51.g4 (X5 : IR) : IR := (iSr [iQo 20 (.bin .lss .int aT19 aT18)] (.seq (.cond aT20 .skip (.exit 0)) X5))
def F51.b4 : IR := F51.g4 F51.b5
def F51.g3 (X4 : IR) : IR := (.loop X4)
def F51.b3 : IR := F51.g3 F51.b4
def F51.g2 (X3 : IR) : IR := (.block 0 X3)
def F51.b2 : IR := F51.g2 F51.b3
def F51.b28 : IR := (iSr [iSm 28, .s (.iaddr 1 aT26 aT28), .s (.load aS0), iQm 14 2, iQm 15 0] (.dreg [] [(iSm 8, 0, []), (iSm 13, 0, []), (iSm 7, 0, []), (.s (.bin .sub .int aS1 aS0), 0, []), (iSm 14, 0, []), (.s (.bin .add .int aS1 aS0), 0, []), (.s (.iaddr 1 aS5 aS0), 0, []), (.s (.load aS0), 0, []), (iSm 8, 0, []), (iSm 13, 0, []), (.s (.iaddr 1 aS1 aS0), 0, []), (.s (.load aS0), 0, []), (iSm 15, 0, []), (.s (.bin .mul .int aS1 aS0), 0, []), (.s (.bin .sub .int aS6 aS0), 0, []), (.s (.iaddr 1 aS14 aS9), 0, []), (.w .none none (.store 1 aS0 aS1), 0, [])]))
def F51.g27 (X28 : IR) : IR := (.block 7 X28)
def F51.b27 : IR := F51.g27 F51.b28
def F51.b29 : IR := (.reg [.s (.bin .add .int aT28 aC1), iQm 28 0])
def F51.g26 (X27 X29 : IR) : IR := (.seq X27 X29)
def F51.b26 : IR := F51.g26 F51.b27 F51.b29
def F51.g25 (X26 : IR) : IR := (iSr [iQo 29 (.bin .lss .int aT28 aT27)] (.seq (.cond aT29 .skip (.exit 6)) X26))
def F51.b25 : IR := F51.g25 F51.b26
def F51.g24 (X25 : IR) : IR := (.loop X25)
def F51.b24 : IR := F51.g24 F51.b25
def F51.g23 (X24 : IR) : IR := (.block 6 X24)
def F51.b23 : IR := F51.g23 F51.b24
def F51.g22 (X23 : IR) : IR := (iSr [.s (.faddr 2 aT3), iQo 26 (.load aS0), iQo 27 (.len aT26), iQo 28 (.mv aC0)] X23)
def F51.b22 : IR := F51.g22 F51.b23
def F51.g21 (X22 : IR) : IR := (.block 5 X22)
def F51.b21 : IR := F51.g21 F51.b22
def F51.b30 : IR := (.reg [iSm 13, .s (.bin .sub .int aS0 aC1), iQm 13 0])
def F51.g20 (X21 X30 : IR) : IR := (.seq X21 X30)
def F51.b20 : IR := F51.g20 F51.b21 F51.b30
def F51.g19 (X20 : IR) : IR := (.seq (iSr [iSm 13, iSm 7, iQo 25 (.bin .geq .int aS1 aS0)] (.cond aT25 .skip (.exit 4))) X20)
def F51.b19 : IR := F51.g19 F51.b20
def F51.g18 (X19 : IR) : IR := (.loop X19)
def F51.b18 : IR := F51.g18 F51.b19
def F51.g17 (X18 : IR) : IR := (.block 4 X18)
def F51.b17 : IR := F51.g17 F51.b18
def F51.b31 : IR := (.seq (.dreg [] [(.s (.loadN 3 aT3), 0, []), (iSm 8, 0, []), (iSm 7, 0, []), (.s (.slice 1 aS1 none (some aS0) none), 0, []), (iCa 153 [aS3, aS0], 0, []), (iQm 4 0, 0, [])]) .ret)
def F51.g16 (X17 X31 : IR) : IR := (.seq (iSr [iSm 7, .s (.bin .mul .int aC2 aS0), .s (.bin .sub .int aS0 aC1), iQm 13 0] X17) X31)
def F51.b16 : IR := F51.g16 F51.b17 F51.b31
def F51.g1 (X2 X16 : IR) : IR := (.seq (.dreg [] [(.s (.loadN 3 aT3), 0, []), (iSm 1, 0, []), (.s (.loadN 3 aT3), 1, []), (iSm 2, 1, []), (iCa 152 [aS3, aS2], 0, []), (iCa 152 [aS2, aS1], 0, []), (iQm 5 1, 0, []), (iQm 6 0, 0, [])]) (iSr [.s (.faddr 2 aT3), .s (.load aS0), .s (.len aS0), iQm 7 0] (iSr [iSm 7, .s (.bin .mul .int aC2 aS0), .w .push none (.mkslice 1 8 [(I 0)] aS0 aS0), iQm 8 0] (.seq (iSr [iQo 17 (.mv aT5), iQo 18 (.len aT17), iQo 19 (.mv aC0)] X2) X16))))
def F51.b1 : IR := F51.g1 F51.b2 F51.b16
def F51.g0 (X1 : IR) : IR := (iSr [iWl 3 (.box aT0), iQo 4 (.mv aC0)] (.seq (iSr [.s (.faddr 0 aT3), .s (.load aS0), .s (.faddr 1 aT3), .s (.load aS0), iQo 16 (.bin .eql .int aS2 aS0)] (.cond aT16 (iSr [iSm 1, iSm 2, .s (.bin .mul .int aS1 aS0), .s (.faddr 1 aT3), .s (.load aS0), .s (.bin .rem .int aS2 aS0), iQm 4 0] .ret) .skip)) X1))
def F51.b0 : IR := F51.g0 F51.b1
def F51.res : List RV := [.t (.of 4)]
def F51 : Fn := { params := [(.of 0), (.of 1), (.of 2)], res := F51.res, body := F51.b0, init := in30 }
theorem F51.ok : fnA Tryz.prog Tryz.f51 [0, 1, 2, 3, 6, 7, 8, 9, 10, 11, 12, 13, 14, 15, 16, 17, 22, 41, 42, 43, 44, 48, 49, 50, 51, 73, 77, 78, 79, 80] = some F51 := by kernel_rfl
abbrev F52.fr := fr8
def F52.b6 : IR := (iSr [.s (.iaddr 1 aT3 aT5), .s (.load aS0), iQm 2 0] (iSr [iSm 2, iQo 7 (.bin .neq .int aS0 aC0)] (.cond aT7 (iSr [iSm 2, iQm 1 0] .ret) .skip)))
def F52.g5 (X6 : IR) : IR := (.block 1 X6)
def F52.b5 : IR := F52.g5 F52.b6
def F52.b7 : IR := (.reg [.s (.bin .add .int aT5 aC1), iQm 5 0])
def F52.g4 (X5 X7 : IR) : IR := (.seq X5 X7)
def F52.b4 : IR := F52.g4 F52.b5 F52.b7
def F52.g3 (X4 : IR) : IR := (iSr [iQo 6 (.bin .lss .int aT5 aT4)] (.seq (.cond aT6 .skip (.exit 0)) X4))
def F52.b3 : IR := F52.g3 F52.b4
def F52.g2 (X3 : IR) : IR := (.loop X3)
def F52.b2 : IR := F52.g2 F52.b3
def F52.g1 (X2 : IR) : IR := (.block 0 X2)
def F52.b1 : IR := F52.g1 F52.b2
def F52.b8 : IR := (iSr [iQo 1 (.mv aC0)] .ret)
def F52.g0 (X1 X8 : IR) : IR := (iSr [iQo 1 (.mv aC0)] (.seq (iSr [iQo 3 (.mv aT0), iQo 4 (.len aT3), iQo 5 (.mv aC0)] X1) X8))
def F52.b0 : IR := F52.g0 F52.b1 F52.b8
def F52.res : List RV := [.t (.of 1)]
def F52 : Fn := { params := [(.of 0)], res := F52.res, body := F52.b0, init := in8 }
theorem F52.ok : fnA Tryz.prog Tryz.f52 [0, 2, 4, 5, 6, 7, 8, 12] = some F52 := by kernel_rfl
abbrev F53.fr := fr6
def F53.b1 : IR := (iSr [.s (.faddr 2 aT1), .s (.load aS0), .s (.fn 155 (.of 155) [aT1]), iCa 127 [aS1, aS0], iQm 4 0] (iSr [iSm 4, iCa 54 [aS0, aC3], iQm 2 0] .ret))
def F53.g0 (X1 : IR) : IR := (iSr [iWl 1 (.box aT0), iQo 2 (.mv aC0)] (.seq (iSr [.s (.loadN 3 aT1), iCa 154 [aS0], iQm 3 0] (iSr [iSm 3, iQo 5 (.bin .neq .int aS0 aC0)] (.cond aT5 (iSr [iSm 3, iQm 2 0] .ret) .skip))) X1))
def F53.b0 : IR := F53.g0 F53.b1
def F53.res : List RV := [.t (.of 2)]
def F53 : Fn := { params := [(.of 0)], res := F53.res, body := F53.b0, init := in6 }
theorem F53.ok : fnA Tryz.prog Tryz.f53 [0, 1, 2, 3, 4, 8] = some F53 := by kernel_rfl
abbrev F54.fr := fr4
def F54.b1 : IR := (iSr [iQo 2 (.mv aC0)] .ret)
def F54.g0 (X1 : IR) : IR := (iSr [iQo 2 (.mv aC0)] (.seq (iSr [iQo 3 (.mv aT0)] (.cond aT3 (iSr [iSm 1, iQm 2 0] .ret) .skip)) X1))
def F54.b0 : IR := F54.g0 F54.b1
def F54.res : List RV := [.t (.of 2)]
def F54 : Fn := { params := [(.of 0), (.of 1)], res := F54.res, body := F54.b0, init := in4 }
theorem F54.ok : fnA Tryz.prog Tryz.f54 [0, 1, 4, 5] = some F54 := by kernel_rfl
abbrev F55.fr := fr12
def F55.b12 : IR := (iSr [iSm 10, iQm 5 0] (.dreg [] [(.s (.faddr 2 aT3), 1, []), (.s (.load aS0), 1, []), (iSm 0, 1, []), (iSm 4, 1, []), (.s (.bin .mul .int aS1 aS0), 1, []), (iSm 5, 1, []), (.s (.bin .add .int aS1 aS0), 1, []), (iSm 1, 0, []), (iSm 4, 0, []), (iSm 5, 0, []), (.w .push none (.call aS2 [aS1, aS0]), 0, []), (.s (.iaddr 1 aS9 aS4), 0, []), (.w .none none (.store 1 aS0 aS1), 0, [])]))
def F55.g11 (X12 : IR) : IR := (.block 3 X12)
def F55.b11 : IR := F55.g11 F55.b12
def F55.b13 : IR := (.reg [.s (.bin .add .int aT10 aC1), iQm 10 0])
def F55.g10 (X11 X13 : IR) : IR := (.seq X11 X13)
def F55.b10 : IR := F55.g10 F55.b11 F55.b13
def F55.g9 (X10 : IR) : IR := (iSr [iQo 11 (.bin .lss .int aT10 aT9)] (.seq (.cond aT11 .skip (.exit 2)) X10))
def F55.b9 : IR := F55.g9 F55.b10
def F55.g8 (X9 : IR) : IR := (.loop X9)
def F55.b8 : IR := F55.g8 F55.b9
def F55.g7 (X8 : IR) : IR := (.block 2 X8)
def F55.b7 : IR := F55.g7 F55.b8
def F55.g6 (X7 : IR) : IR := (iSr [iSm 7, iQm 4 0] (iSr [iQo 9 (.mv aT0), iQo 10 (.mv aC0)] X7))
def F55.b6 : IR := F55.g6 F55.b7
def F55.g5 (X6 : IR) : IR := (.block 1 X6)
def F55.b5 : IR := F55.g5 F55.b6
def F55.b14 : IR := (.reg [.s (.bin .add .int aT7 aC1), iQm 7 0])
def F55.g4 (X5 X14 : IR) : IR := (.seq X5 X14)
def F55.b4 : IR := F55.g4 F55.b5 F55.b14
def F55.g3 (X4 : IR) : IR := (iSr [iQo 8 (.bin .lss .int aT7 aT6)] (.seq (.cond aT8 .skip (.exit 0)) X4))
def F55.b3 : IR := F55.g3 F55.b4
def F55.g2 (X3 : IR) : IR := (.loop X3)
def F55.b2 : IR := F55.g2 F55.b3
def F55.g1 (X2 : IR) : IR := (.block 0 X2)
def F55.b1 : IR := F55.g1 F55.b2
def F55.b15 : IR := (iSr [.s (.loadN 3 aT3), .w .none none (.store 3 aT2 aS0)] .ret)
def F55.g0 (X1 X15 : IR) : IR := (iSr [iWl 2 (.alloc [(I 0), (I 0), .nils])] (iSr [iSm 0, iCa 156 [aS0], iWl 3 (.alloc [(I 0), (I 0), .nils]), .w .none none (.store 3 aT3 aS0)] (.seq (iSr [iQo 6 (.mv aT0), iQo 7 (.mv aC0)] X1) X15)))
def F55.b0 : IR := F55.g0 F55.b1 F55.b15
def F55.res : List RV := [.cell (.of 2) (some 3)]
def F55 : Fn := { params := [(.of 0), (.of 1)], res := F55.res, body := F55.b0, init := in12 }
theorem F55.ok : fnA Tryz.prog Tryz.f55 [0, 1, 4, 5, 6, 7, 10, 11, 12, 14, 15, 16] = some F55 := by kernel_rfl
abbrev F56.fr := fr6
def F56.b0 : IR := (iSr [iQo 5 (.mv aC0)] (.seq (.dreg [] [(.s (.faddr 2 aT2), 0, []), (.s (.load aS0), 0, []), (.s (.load aT3), 0, []), (iSm 0, 0, []), (.s (.bin .mul .int aS1 aS0), 0, []), (iSm 1, 0, []), (.s (.bin .add .int aS1 aS0), 0, []), (.s (.iaddr 1 aS5 aS0), 0, []), (.s (.load aS0), 0, []), (.s (.load aT3), 0, []), (.s (.faddr 2 aT4), 0, []), (.s (.load aS0), 0, []), (.s (.load aT3), 0, []), (iSm 0, 0, []), (.s (.bin .mul .int aS1 aS0), 0, []), (iSm 1, 0, []), (.s (.bin .add .int aS1 aS0), 0, []), (.s (.iaddr 1 aS5 aS0), 0, []), (.s (.load aS0), 0, []), (.s (.bin .mul .int aS9 aS0), 0, []), (.s (.bin .add .int aS11 aS0), 0, []), (.s (.bin .add .int aS0 aC1), 0, []), (iQm 5 0, 0, [])]) .ret))
def F56.res : List RV := [.t (.of 5)]
def F56 : Fn := { params := [(.of 0), (.of 1), (.of 2), (.of 3), (.of 4)], res := F56.res, body := F56.b0, init := in6 }
theorem F56.ok : fnA Tryz.prog Tryz.f56 [0, 1, 2, 3, 4, 7] = some F56 := by kernel_rfl
abbrev F57.fr := fr12
def F57.b8 : IR := (.reg [iSm 4, iSm 5, .s (.iaddr 1 aS1 aS0), .w .none none (.store 1 aS0 (.c (.bool true)))])
def F57.g7 (X8 : IR) : IR := (iSr [.s (.iaddr 1 aT7 aT9), .s (.load aS0), iQm 5 0] (.seq (iSr [iSm 5, .s (.bin .lss .int aS0 aC1), .s (.mv aS0), iPf 0 (.mv aT5), iPf 1 (.faddr 2 aT1), iPf 2 (.load aS0), iPf 3 (.len aS0), iPf 4 (.bin .gtr .int aS3 aS0), .s (.pick aS5 (.c (.bool true)) aS0), .s (.mv aS0), iPf 0 (.mv aT4), iPf 1 (.mv aT5), iPf 2 (.iaddr 1 aS1 aS0), iPf 3 (.load aS0), iQo 11 (.pick aS4 (.c (.bool true)) aS0)] (.cond aT11 (iSr [iQo 2 (.mv aC1)] .ret) .skip)) X8))
def F57.b7 : IR := F57.g7 F57.b8
def F57.g6 (X7 : IR) : IR := (.block 1 X7)
def F57.b6 : IR := F57.g6 F57.b7
def F57.b9 : IR := (.reg [.s (.bin .add .int aT9 aC1), iQm 9 0])
def F57.g5 (X6 X9 : IR) : IR := (.seq X6 X9)
def F57.b5 : IR := F57.g5 F57.b6 F57.b9
def F57.g4 (X5 : IR) : IR := (iSr [iQo 10 (.bin .lss .int aT9 aT8)] (.seq (.cond aT10 .skip (.exit 0)) X5))
def F57.b4 : IR := F57.g4 F57.b5
def F57.g3 (X4 : IR) : IR := (.loop X4)
def F57.b3 : IR := F57.g3 F57.b4
def F57.g2 (X3 : IR) : IR := (.block 0 X3)
def F57.b2 : IR := F57.g2 F57.b3
def F57.b10 : IR := (iSr [iQo 2 (.mv aC0)] .ret)
def F57.g1 (X2 X10 : IR) : IR := (iSr [.s (.faddr 2 aT1), .s (.load aS0), .s (.len aS0), .s (.bin .add .int aS0 aC1), .w .push none (.mkslice 1 1 [(.bool false)] aS0 aS0), iQm 4 0] (.seq (iSr [.s (.faddr 2 aT1), iQo 7 (.load aS0), iQo 8 (.len aT7), iQo 9 (.mv aC0)] X2) X10))
def F57.b1 : IR := F57.g1 F57.b2 F57.b10
def F57.g0 (X1 : IR) : IR := (iSr [iWl 1 (.box aT0), iQo 2 (.mv aC0)] (.seq (iSr [.s (.loadN 3 aT1), iCa 154 [aS0], iQm 3 0] (iSr [iSm 3, iQo 6 (.bin .neq .int aS0 aC0)] (.cond aT6 (iSr [iSm 3, iQm 2 0] .ret) .skip))) X1))
def F57.b0 : IR := F57.g0 F57.b1
def F57.res : List RV := [.t (.of 2)]
def F57 : Fn := { params := [(.of 0)], res := F57.res, body := F57.b0, init := in12 }
theorem F57.ok : fnA Tryz.prog Tryz.f57 [0, 1, 2, 3, 4, 6, 10, 18, 19, 20, 21, 38] = some F57 := by kernel_rfl
abbrev F58.fr := fr3
def F58.b0 : IR := (iSr [iWl 1 (.alloc [(I 0), (I 0), .nils]), iQo 2 (.mv aC0)] (iSr [iSm 0, iSm 0, .s (.bin .rem .int aS0 aC2), .s (.bin .neq .int aS0 aC0), iSm 0, .s (.bm 75 (.of 75) [aS0]), iCa 77 [aS5, aS2, aS0], .s (.ext 0 aS0), .s (.ext 1 aS1), .w .none none (.store 3 aT1 aS1), iQm 2 0] .ret))
def F58.res : List RV := [.cell (.of 1) (some 3), .t (.of 2)]
def F58 : Fn := { params := [(.of 0)], res := F58.res, body := F58.b0, init := in3 }
theorem F58.ok : fnA Tryz.prog Tryz.f58 [0, 2, 3] = some F58 := by kernel_rfl
abbrev F59.fr := fr9
def F59.b1 : IR := (iSr [.s (.loadN 3 aT2), .s (.loadN 3 aT3), iCa 158 [aS1, aS0], .s (.mv aS0), .s (.ext 0 aS0), .s (.ext 1 aS1), .s (.ext 2 aS2), .s (.mv aS2), .s (.mv aS2), iQm 7 2] (iSr [iSm 7, .s (.not aS0), iQm 4 0, iQo 5 (.mv aC0)] .ret))
def F59.g0 (X1 : IR) : IR := (iSr [iWl 2 (.box aT0), iWl 3 (.box aT1), iQo 4 (.mv (.c (.bool false))), iQo 5 (.mv aC0)] (.seq (iSr [.s (.loadN 3 aT2), .s (.loadN 3 aT3), iCa 157 [aS1, aS0], iQm 6 0] (iSr [iSm 6, iQo 8 (.bin .neq .int aS0 aC0)] (.cond aT8 (iSr [iSm 6, iQo 4 (.mv (.c (.bool false))), iQm 5 0] .ret) .skip))) X1))
def F59.b0 : IR := F59.g0 F59.b1
def F59.res : List RV := [.t (.of 4), .t (.of 5)]
def F59 : Fn := { params := [(.of 0), (.of 1)], res := F59.res, body := F59.b0, init := in9 }
theorem F59.ok : fnA Tryz.prog Tryz.f59 [0, 1, 2, 3, 4, 5, 6, 9, 14] = some F59 := by kernel_rfl
abbrev F60.fr := fr5
def F60.b0 : IR := (iSr [iQo 4 (.mv aC0)] (.seq (.dreg [] [(.s (.faddr 2 aT2), 0, []), (.s (.load aS0), 0, []), (.s (.load aT3), 0, []), (iSm 0, 0, []), (.s (.bin .mul .int aS1 aS0), 0, []), (iSm 1, 0, []), (.s (.bin .add .int aS1 aS0), 0, []), (.s (.iaddr 1 aS5 aS0), 0, []), (.s (.load aS0), 0, []), (.s (.bin .sub .int aS0 aC1), 0, []), (.s (.load aT3), 0, []), (.s (.bin .rem .int aS1 aS0), 0, []), (iQm 4 0, 0, [])]) .ret))
def F60.res : List RV := [.t (.of 4)]
def F60 : Fn := { params := [(.of 0), (.of 1), (.of 2), (.of 3)], res := F60.res, body := F60.b0, init := in5 }
theorem F60.ok : fnA Tryz.prog Tryz.f60 [0, 1, 2, 3, 6] = some F60 := by kernel_rfl
abbrev F61.fr := fr5
def F61.b0 : IR := (iSr [iQo 4 (.mv aC0)] (.seq (.dreg [] [(.s (.faddr 2 aT2), 0, []), (.s (.load aS0), 0, []), (.s (.load aT3), 0, []), (iSm 0, 0, []), (.s (.bin .mul .int aS1 aS0), 0, []), (iSm 1, 0, []), (.s (.bin .add .int aS1 aS0), 0, []), (.s (.iaddr 1 aS5 aS0), 0, []), (.s (.load aS0), 0, []), (.s (.bin .sub .int aS0 aC1), 0, []), (.s (.load aT3), 0, []), (.s (.bin .quo .int aS1 aS0), 0, []), (iQm 4 0, 0, [])]) .ret))
def F61.res : List RV := [.t (.of 4)]
def F61 : Fn := { params := [(.of 0), (.of 1), (.of 2), (.of 3)], res := F61.res, body := F61.b0, init := in5 }
theorem F61.ok : fnA Tryz.prog Tryz.f61 [0, 1, 2, 3, 6] = some F61 := by kernel_rfl
abbrev F62.fr := fr3
def F62.b0 : IR := (iSr [iQo 2 (.mv (.c (.bool false)))] (iSr [iSm 0, iSm 1, iCa 159 [aS1, aS0], .s (.bin .geq .int aS0 aC0), iQm 2 0] .ret))
def F62.res : List RV := [.t (.of 2)]
def F62 : Fn := { params := [(.of 0), (.of 1)], res := F62.res, body := F62.b0, init := in3 }
theorem F62.ok : fnA Tryz.prog Tryz.f62 [0, 1, 4] = some F62 := by kernel_rfl
abbrev F63.fr := fr8
def F63.b6 : IR := (iSr [.s (.iaddr 1 aT3 aT5), .s (.load aS0), iQm 2 0] (iSr [iSm 2, iQo 7 (.bin .neq .int aS0 aC0)] (.cond aT7 (iSr [iSm 2, iQm 1 0] .ret) .skip)))
def F63.g5 (X6 : IR) : IR := (.block 1 X6)
def F63.b5 : IR := F63.g5 F63.b6
def F63.b7 : IR := (.reg [.s (.bin .add .int aT5 aC1), iQm 5 0])
def F63.g4 (X5 X7 : IR) : IR := (.seq X5 X7)
def F63.b4 : IR := F63.g4 F63.b5 F63.b7
def F63.g3 (X4 : IR) : IR := (iSr [iQo 6 (.bin .lss .int aT5 aT4)] (.seq (.cond aT6 .skip (.exit 0)) X4))
def F63.b3 : IR := F63.g3 F63.b4
def F63.g2 (X3 : IR) : IR := (.loop X3)
def F63.b2 : IR := F63.g2 F63.b3
def F63.g1 (X2 : IR) : IR := (.block 0 X2)
def F63.b1 : IR := F63.g1 F63.b2
def F63.b8 : IR := (iSr [iQo 1 (.mv aC0)] .ret)
def F63.g0 (X1 X8 : IR) : IR := (iSr [iQo 1 (.mv aC0)] (.seq (iSr [iQo 3 (.mv aT0), iQo 4 (.len aT3), iQo 5 (.mv aC0)] X1) X8))
def F63.b0 : IR := F63.g0 F63.b1 F63.b8
def F63.res : List RV := [.t (.of 1)]
def F63 : Fn := { params := [(.of 0)], res := F63.res, body := F63.b0, init := in8 }
theorem F63.ok : fnA Tryz.prog Tryz.f63 [0, 2, 4, 5, 6, 7, 8, 12] = some F63 := by kernel_rfl
abbrev F64.fr := fr4
def F64.b1 : IR := (iSr [iQo 2 (.mv aC0)] .ret)
def F64.g0 (X1 : IR) : IR := (iSr [iQo 2 (.mv aC0)] (.seq (iSr [iQo 3 (.mv aT0)] (.cond aT3 (iSr [iSm 1, iQm 2 0] .ret) .skip)) X1))
def F64.b0 : IR := F64.g0 F64.b1
def F64.res : List RV := [.t (.of 2)]
def F64 : Fn := { params := [(.of 0), (.of 1)], res := F64.res, body := F64.b0, init := in4 }
theorem F64.ok : fnA Tryz.prog Tryz.f64 [0, 1, 4, 5] = some F64 := by kernel_rfl
abbrev F65.fr := fr6
def F65.b0 : IR := (iSr [iWl 3 (.box aT0), iWl 4 (.box aT1), iQo 5 (.mv aC0)] (iSr [iSm 2, .s (.fn 160 (.of 160) [aT3, aT4]), iCa 127 [aS1, aS0], iCa 64 [aS0, aC3], iQm 5 0] .ret))
def F65.res : List RV := [.t (.of 5)]
def F65 : Fn := { params := [(.of 0), (.of 1), (.of 2)], res := F65.res, body := F65.b0, init := in6 }
theorem F65.ok : fnA Tryz.prog Tryz.f65 [0, 1, 2, 3, 4, 6] = some F65 := by kernel_rfl
abbrev F66.fr := fr19
def F66.b9 : IR := (iSr [iQo 7 (.mv aT15)] (.reg [iQo 8 (.mv aT16)]))
def F66.b11 : IR := (iSr [iSm 7, .s (.faddr 1 aT6), .s (.load aS0), iQo 17 (.bin .eql .int aS2 aS0)] (.cond aT17 (.reg [.s (.load aT4), iSm 8, .w .push none (.bslice 1 1 [.nils] [(0, 1, aS0)]), .w .push none (.app 1 24 aS2 aS0), .w .none none (.store 1 aT4 aS0)]) (.reg [.s (.load aT5), iSm 8, .w .push none (.bslice 1 1 [.nils] [(0, 1, aS0)]), .w .push none (.app 1 24 aS2 aS0), .w .none none (.store 1 aT5 aS0)])))
def F66.g10 (X11 : IR) : IR := (.block 3 X11)
def F66.b10 : IR := F66.g10 F66.b11
def F66.g8 (X9 X10 : IR) : IR := (.rf aT14 [(.of 15), (.of 16)] X9 X10)
def F66.b8 : IR := F66.g8 F66.b9 F66.b10
def F66.g7 (X8 : IR) : IR := (.block 2 X8)
def F66.b7 : IR := F66.g7 F66.b8
def F66.g6 (X7 : IR) : IR := (iSr [.s (.iaddr 2 aT10 aT12), .s (.loadN 2 aS0), iWl 6 (.alloc [(I 0), (I 0)]), .w .none none (.store 2 aT6 aS0)] (iSr [iSm 1, .s (.faddr 0 aT6), .s (.load aS0), iWl 14 (.call (.c (.fn 164 (.of 164) [])) [aS2, aS0])] X7))
def F66.b6 : IR := F66.g6 F66.b7
def F66.g5 (X6 : IR) : IR := (.block 1 X6)
def F66.b5 : IR := F66.g5 F66.b6
def F66.b12 : IR := (.reg [.s (.bin .add .int aT12 aC1), iQm 12 0])
def F66.g4 (X5 X12 : IR) : IR := (.seq X5 X12)
def F66.b4 : IR := F66.g4 F66.b5 F66.b12
def F66.g3 (X4 : IR) : IR := (iSr [iQo 13 (.bin .lss .int aT12 aT11)] (.seq (.cond aT13 .skip (.exit 0)) X4))
def F66.b3 : IR := F66.g3 F66.b4
def F66.g2 (X3 : IR) : IR := (.loop X3)
def F66.b2 : IR := F66.g2 F66.b3
def F66.g1 (X2 : IR) : IR := (.block 0 X2)
def F66.b1 : IR := F66.g1 F66.b2
def F66.b13 : IR := (iSr [iSm 3, .s (.load aT4), .w .push none (.app 1 24 aS1 aS0), iQm 3 0] (iSr [iSm 0, iQo 18 (.bin .eql .str aS0 (.c (.str [112, 97, 110, 100, 105, 97, 103, 111, 110, 97, 108])))] (.cond aT18 (.reg [iSm 3, .s (.load aT5), .w .push none (.app 1 24 aS1 aS0), iQm 3 0]) .skip)))
def F66.b14 : IR := (iSr [iSm 1, iSm 1, .s (.bin .mul .int aS1 aS0), iSm 3, iCa 165 [aS1, aS0], .w .none none (.store 2 aT2 aS0)] .ret)
def F66.g0 (X1 X13 X14 : IR) : IR := (iSr [iWl 2 (.alloc [(I 0), .nils])] (iSr [iSm 1, iSm 1, iCa 162 [aS1, aS0], iSm 1, iSm 1, iCa 163 [aS1, aS0], .w .push none (.bslice 1 2 [.nils] [(0, 1, aS3), (1, 1, aS0)]), iCa 161 [aS0], iQm 3 0] (.seq (iSr [iSm 0, iQo 9 (.bin .neq .str aS0 (.c (.str [115, 101, 109, 105, 109, 97, 103, 105, 99])))] (.cond aT9 (iSr [iWl 4 (.alloc [.nils]), iWl 5 (.alloc [.nils])] (.seq (iSr [.s (.build [(I 0), (I 0)] [(0, 1, aC1), (1, 1, aC0)]), iSm 1, .s (.bin .sub .int aS0 aC1), .s (.build [(I 0), (I 0)] [(0, 1, (.c (I (-1)))), (1, 1, aS0)]), iWl 10 (.bslice 2 2 [(I 0), (I 0)] [(0, 2, aS3), (2, 2, aS0)]), iQo 11 (.len aT10), iQo 12 (.mv aC0)] X1) X13)) .skip)) X14)))
def F66.b0 : IR := F66.g0 F66.b1 F66.b13 F66.b14
def F66.res : List RV := [.cell (.of 2) (some 2)]
def F66 : Fn := { params := [(.of 0), (.of 1)], res := F66.res, body := F66.b0, init := in19 }
theorem F66.ok : fnA Tryz.prog Tryz.f66 [0, 1, 4, 5, 6, 7, 9, 10, 11, 21, 26, 27, 28, 29, 35, 36, 37, 41, 55] = some F66 := by kernel_rfl
abbrev F67.fr := fr4
def F67.b0 : IR := (iSr [iWl 2 (.box aT0), iQo 3 (.mv aC0)] (.seq (.dreg [] [(.s (.loadN 2 aT2), 0, []), (iSm 1, 1, []), (.s (.len aS0), 1, []), (.s (.faddr 0 aT2), 1, []), (.s (.load aS0), 1, []), (.s (.bin .neq .int aS2 aS0), 1, []), (iSm 1, 2, []), (iCa 87 [aS6], 0, []), (iCa 64 [aS2, aC2], 0, []), (iCa 166 [aS2], 0, []), (.w .push none (.bslice 1 3 [(I 0)] [(0, 1, aS2), (1, 1, aS1), (2, 1, aS0)]), 0, []), (iCa 63 [aS0], 0, []), (iQm 3 0, 0, [])]) .ret))
def F67.res : List RV := [.t (.of 3)]
def F67 : Fn := { params := [(.of 0), (.of 1)], res := F67.res, body := F67.b0, init := in4 }
theorem F67.ok : fnA Tryz.prog Tryz.f67 [0, 1, 2, 4] = some F67 := by kernel_rfl
abbrev F68.fr := fr5
def F68.b0 : IR := (iSr [iWl 2 (.box aT0), iQo 3 (.mv aC0)] (iSr [.s (.loadN 2 aT2), iSm 1, iCa 100 [aS1, aS0], iWl 4 (.alloc [.nils]), .w .none none (.store 1 aT4 aS0)] (iSr [.s (.load aT4), .s (.fn 168 (.of 168) [aT4]), iCa 167 [aS1, aS0], iQm 3 0] .ret)))
def F68.res : List RV := [.t (.of 3)]
def F68 : Fn := { params := [(.of 0), (.of 1)], res := F68.res, body := F68.b0, init := in5 }
theorem F68.ok : fnA Tryz.prog Tryz.f68 [0, 1, 2, 4, 5] = some F68 := by kernel_rfl
abbrev F69.fr := fr8
def F69.b6 : IR := (iSr [.s (.iaddr 1 aT3 aT5), .s (.load aS0), iQm 2 0] (iSr [iSm 2, iQo 7 (.bin .neq .int aS0 aC0)] (.cond aT7 (iSr [iSm 2, iQm 1 0] .ret) .skip)))
def F69.g5 (X6 : IR) : IR := (.block 1 X6)
def F69.b5 : IR := F69.g5 F69.b6
def F69.b7 : IR := (.reg [.s (.bin .add .int aT5 aC1), iQm 5 0])
def F69.g4 (X5 X7 : IR) : IR := (.seq X5 X7)
def F69.b4 : IR := F69.g4 F69.b5 F69.b7
def F69.g3 (X4 : IR) : IR := (iSr [iQo 6 (.bin .lss .int aT5 aT4)] (.seq (.cond aT6 .skip (.exit 0)) X4))
def F69.b3 : IR := F69.g3 F69.b4
def F69.g2 (X3 : IR) : IR := (.loop X3)
def F69.b2 : IR := F69.g2 F69.b3
def F69.g1 (X2 : IR) : IR := (.block 0 X2)
def F69.b1 : IR := F69.g1 F69.b2
def F69.b8 : IR := (iSr [iQo 1 (.mv aC0)] .ret)
def F69.g0 (X1 X8 : IR) : IR := (iSr [iQo 1 (.mv aC0)] (.seq (iSr [iQo 3 (.mv aT0), iQo 4 (.len aT3), iQo 5 (.mv aC0)] X1) X8))
def F69.b0 : IR := F69.g0 F69.b1 F69.b8
def F69.res : List RV := [.t (.of 1)]
def F69 : Fn := { params := [(.of 0)], res := F69.res, body := F69.b0, init := in8 }
theorem F69.ok : fnA Tryz.prog Tryz.f69 [0, 2, 4, 5, 6, 7, 8, 12] = some F69 := by kernel_rfl
abbrev F70.fr := fr3
def F70.b0 : IR := (iSr [iWl 1 (.box aT0), iQo 2 (.mv aC0)] (iSr [.s (.loadN 3 aT1), iCa 169 [aS0, aC0], iQm 2 0] .ret))
def F70.res : List RV := [.t (.of 2)]
def F70 : Fn := { params := [(.of 0)], res := F70.res, body := F70.b0, init := in3 }
theorem F70.ok : fnA Tryz.prog Tryz.f70 [0, 1, 2] = some F70 := by kernel_rfl
abbrev F71.fr := fr6
def F71.b0 : IR := (iSr [iQo 5 (.mv aC0)] (.seq (.dreg [] [(.s (.load aT2), 2, []), (.s (.loadN 3 aT3), 0, []), (iSm 0, 0, []), (.s (.load aT2), 0, []), (.s (.bin .quo .int aS1 aS0), 0, []), (iSm 1, 0, []), (.s (.load aT2), 0, []), (.s (.bin .quo .int aS1 aS0), 0, []), (.s (.loadN 3 aT4), 1, []), (iSm 0, 1, []), (.s (.load aT2), 1, []), (.s (.bin .rem .int aS1 aS0), 1, []), (iSm 1, 1, []), (.s (.load aT2), 1, []), (.s (.bin .rem .int aS1 aS0), 1, []), (iCa 72 [aS13, aS10, aS7], 0, []), (.s (.bin .mul .int aS15 aS0), 1, []), (iCa 72 [aS8, aS5, aS2], 0, []), (.s (.bin .add .int aS1 aS0), 0, []), (iQm 5 0, 0, [])]) .ret))
def F71.res : List RV := [.t (.of 5)]
def F71 : Fn := { params := [(.of 0), (.of 1), (.of 2), (.of 3), (.of 4)], res := F71.res, body := F71.b0, init := in6 }
theorem F71.ok : fnA Tryz.prog Tryz.f71 [0, 1, 2, 3, 4, 7] = some F71 := by kernel_rfl
abbrev F72.fr := fr5
def F72.b0 : IR := (iSr [iWl 3 (.box aT0), iQo 4 (.mv aC0)] (iSr [.s (.faddr 2 aT3), .s (.load aS0), iSm 1, .s (.faddr 1 aT3), .s (.load aS0), .s (.bin .mul .int aS2 aS0), iSm 2, .s (.bin .add .int aS1 aS0), .s (.iaddr 1 aS6 aS0), .s (.load aS0), iQm 4 0] .ret))
def F72.res : List RV := [.t (.of 4)]
def F72 : Fn := { params := [(.of 0), (.of 1), (.of 2)], res := F72.res, body := F72.b0, init := in5 }
theorem F72.ok : fnA Tryz.prog Tryz.f72 [0, 1, 2, 3, 6] = some F72 := by kernel_rfl
abbrev F73.fr := fr13
def F73.b7 : IR := (iSr [.s (.iaddr 2 aT8 aT10), .s (.loadN 2 aS0), iWl 6 (.alloc [(.str []), .nilf]), .w .none none (.store 2 aT6 aS0)] (.seq (.dreg [] [(.s (.faddr 1 aT6), 1, []), (.s (.load aS0), 1, []), (.s (.faddr 0 aT1), 1, []), (.s (.load aS0), 1, []), (.s (.faddr 2 aT1), 0, []), (.s (.load aS0), 0, []), (iCa 115 [aS0], 0, []), (.s (.build [(I 0), .nils] [(0, 1, aS3), (1, 1, aS0)]), 0, []), (iWl 12 (.call aS6 [aS0]), 0, [])]) (.cond aT12 (.reg [iSm 5, .s (.faddr 0 aT6), .s (.load aS0), .w .push none (.bslice 1 1 [(.str [])] [(0, 1, aS0)]), .w .push none (.app 1 16 aS3 aS0), iQm 5 0]) .skip)))
def F73.g6 (X7 : IR) : IR := (.block 1 X7)
def F73.b6 : IR := F73.g6 F73.b7
def F73.b8 : IR := (.reg [.s (.bin .add .int aT10 aC1), iQm 10 0])
def F73.g5 (X6 X8 : IR) : IR := (.seq X6 X8)
def F73.b5 : IR := F73.g5 F73.b6 F73.b8
def F73.g4 (X5 : IR) : IR := (iSr [iQo 11 (.bin .lss .int aT10 aT9)] (.seq (.cond aT11 .skip (.exit 0)) X5))
def F73.b4 : IR := F73.g4 F73.b5
def F73.g3 (X4 : IR) : IR := (.loop X4)
def F73.b3 : IR := F73.g3 F73.b4
def F73.g2 (X3 : IR) : IR := (.block 0 X3)
def F73.b2 : IR := F73.g2 F73.b3
def F73.b9 : IR := (iSr [iSm 5, iQm 2 0, iQo 3 (.mv aC0)] .ret)
def F73.g1 (X2 X9 : IR) : IR := (iSr [iQo 5 (.mv (.c .nils))] (.seq (iSr [iWl 8 (.call (.c (.fn 171 (.of 171) [])) []), iQo 9 (.len aT8), iQo 10 (.mv aC0)] X2) X9))
def F73.b1 : IR := F73.g1 F73.b2 F73.b9
def F73.g0 (X1 : IR) : IR := (iSr [iWl 1 (.box aT0), iQo 2 (.mv (.c .nils)), iQo 3 (.mv aC0)] (.seq (iSr [.s (.loadN 3 aT1), iCa 170 [aS0], iQm 4 0] (iSr [iSm 4, iQo 7 (.bin .neq .int aS0 aC0)] (.cond aT7 (iSr [iSm 4, iQo 2 (.mv (.c .nils)), iQm 3 0] .ret) .skip))) X1))
def F73.b0 : IR := F73.g0 F73.b1
def F73.res : List RV := [.t (.of 2), .t (.of 3)]
def F73 : Fn := { params := [(.of 0)], res := F73.res, body := F73.b0, init := in13 }
theorem F73.ok : fnA Tryz.prog Tryz.f73 [0, 1, 2, 3, 4, 5, 7, 11, 13, 14, 15, 16, 27] = some F73 := by kernel_rfl
abbrev F75.fr := fr4
def F75.b0 : IR := (iSr [iWl 1 (.alloc [(I 0), (I 0), .nils])] (iSr [iSm 0, iQm 2 0] (iSr [iSm 2, iSm 2, .s (.bin .sub .int aS0 aC1), .s (.bin .quo .int aS0 aC2), .s (.build [(I 0), (I 0)] [(0, 1, aC0), (1, 1, aS0)]), .s (.build [(I 0), (I 0)] [(0, 1, (.c (I (-1)))), (1, 1, aC1)]), .s (.build [(I 0), (I 0)] [(0, 1, aC2), (1, 1, (.c (I (-1))))]), .s (.build [(I 0), (I 0), (I 0), (I 0), (I 0), (I 0), (I 0)] [(0, 1, aS6), (1, 2, aS2), (3, 2, aS1), (5, 2, aS0)]), iCa 80 [aS0], iCa 81 [aS0], .s (.mv aS0), .s (.ext 0 aS0), .s (.ext 1 aS1), .s (.ext 2 aS2), iWl 3 (.alloc [(I 0), (I 0), .nils]), .w .push none (.alloc [(I 0), (I 0)]), .w .none none (.store 3 aT3 aS3), .w .none none (.store 2 aS0 aS2), .s (.mv aS1)] (iSr [.s (.loadN 3 aT3), .w .none none (.store 3 aT1 aS0)] .ret))))
def F75.res : List RV := [.cell (.of 1) (some 3)]
def F75 : Fn := { params := [(.of 0)], res := F75.res, body := F75.b0, init := in4 }
theorem F75.ok : fnA Tryz.prog Tryz.f75 [0, 2, 3, 4] = some F75 := by kernel_rfl
abbrev F77.fr := fr7
def F77.b1 : IR := (iSr [iSm 2, .w .push none (.call aS0 []), .w .none none (.store 3 aT3 aS0), iQo 4 (.mv aC0)] .ret)
def F77.g0 (X1 : IR) : IR := (iSr [iWl 3 (.alloc [(I 0), (I 0), .nils]), iQo 4 (.mv aC0)] (.seq (iSr [iSm 0, iCa 174 [aS0], iSm 1, .s (.not aS0), iCa 54 [aS0, aC7], .w .push none (.bslice 1 2 [(I 0)] [(0, 1, aS3), (1, 1, aS0)]), iCa 52 [aS0], iQm 5 0] (iSr [iSm 5, iQo 6 (.bin .neq .int aS0 aC0)] (.cond aT6 (iSr [.s (.build [(I 0), (I 0), .nils] []), iSm 5, .w .none none (.store 3 aT3 aS1), iQm 4 0] .ret) .skip))) X1))
def F77.b0 : IR := F77.g0 F77.b1
def F77.res : List RV := [.cell (.of 3) (some 3), .t (.of 4)]
def F77 : Fn := { params := [(.of 0), (.of 1), (.of 2)], res := F77.res, body := F77.b0, init := in7 }
theorem F77.ok : fnA Tryz.prog Tryz.f77 [0, 1, 2, 6, 7, 8, 17] = some F77 := by kernel_rfl
abbrev F78.fr := fr3
def F78.b0 : IR := (iSr [iQo 2 (.mv aC0)] (iSr [iSm 0, iSm 1, .s (.bin .rem .int aS1 aS0), iSm 1, .s (.bin .add .int aS1 aS0), iSm 1, .s (.bin .rem .int aS1 aS0), iQm 2 0] .ret))
def F78.res : List RV := [.t (.of 2)]
def F78 : Fn := { params := [(.of 0), (.of 1)], res := F78.res, body := F78.b0, init := in3 }
theorem F78.ok : fnA Tryz.prog Tryz.f78 [0, 1, 4] = some F78 := by kernel_rfl
abbrev F80.fr := fr7
def F80.b6 : IR := (iSr [iSm 5, iQm 4 0] (.dreg [] [(iSm 4, 3, []), (iSm 4, 4, []), (iSm 4, 5, []), (iSm 4, 0, []), (.s (.faddr 1 aT1), 0, []), (.s (.aaddr 1 2 aS0 aS1), 0, []), (.s (.load aS0), 0, []), (.s (.faddr 0 aT1), 0, []), (.s (.load aS0), 0, []), (iSm 4, 1, []), (.s (.faddr 3 aT1), 1, []), (.s (.aaddr 1 2 aS0 aS1), 1, []), (.s (.load aS0), 1, []), (.s (.faddr 0 aT1), 1, []), (.s (.load aS0), 1, []), (iSm 4, 2, []), (.s (.faddr 5 aT1), 2, []), (.s (.aaddr 1 2 aS0 aS1), 2, []), (.s (.load aS0), 2, []), (.s (.faddr 0 aT1), 2, []), (.s (.load aS0), 2, []), (.s (.faddr 1 aT3), 3, []), (.s (.faddr 3 aT3), 4, []), (.s (.faddr 5 aT3), 5, []), (iCa 78 [aS17, aS15], 0, []), (.s (.aaddr 1 2 aS3 aS24), 2, []), (iCa 78 [aS13, aS11], 0, []), (iCa 78 [aS8, aS6], 0, []), (.w .none none (.store 1 aS2 aS3), 0, []), (.s (.aaddr 1 2 aS5 aS26), 0, []), (.w .none none (.store 1 aS0 aS2), 0, []), (.s (.aaddr 1 2 aS5 aS26), 0, []), (.w .none none (.store 1 aS0 aS2), 0, [])]))
def F80.g5 (X6 : IR) : IR := (.block 1 X6)
def F80.b5 : IR := F80.g5 F80.b6
def F80.b7 : IR := (.reg [.s (.bin .add .int aT5 aC1), iQm 5 0])
def F80.g4 (X5 X7 : IR) : IR := (.seq X5 X7)
def F80.b4 : IR := F80.g4 F80.b5 F80.b7
def F80.g3 (X4 : IR) : IR := (iSr [iQo 6 (.bin .lss .int aT5 aC2)] (.seq (.cond aT6 .skip (.exit 0)) X4))
def F80.b3 : IR := F80.g3 F80.b4
def F80.g2 (X3 : IR) : IR := (.loop X3)
def F80.b2 : IR := F80.g2 F80.b3
def F80.g1 (X2 : IR) : IR := (.block 0 X2)
def F80.b1 : IR := F80.g1 F80.b2
def F80.b8 : IR := (iSr [.s (.loadN 7 aT3), .w .none none (.store 7 aT2 aS0)] .ret)
def F80.g0 (X1 X8 : IR) : IR := (iSr [iWl 1 (.box aT0), iWl 2 (.alloc [(I 0), (I 0), (I 0), (I 0), (I 0), (I 0), (I 0)])] (iSr [.s (.faddr 0 aT1), .s (.load aS0), .s (.build [(I 0), (I 0), (I 0), (I 0), (I 0), (I 0), (I 0)] [(0, 1, aS0)]), iWl 3 (.alloc [(I 0), (I 0), (I 0), (I 0), (I 0), (I 0), (I 0)]), .w .none none (.store 7 aT3 aS0)] (.seq (iSr [iQo 5 (.mv aC0)] X1) X8)))
def F80.b0 : IR := F80.g0 F80.b1 F80.b8
def F80.res : List RV := [.cell (.of 2) (some 7)]
def F80 : Fn := { params := [(.of 0)], res := F80.res, body := F80.b0, init := in7 }
theorem F80.ok : fnA Tryz.prog Tryz.f80 [0, 1, 2, 3, 4, 8, 9] = some F80 := by kernel_rfl
abbrev F81.fr := fr10
def F81.b7 : IR := (.reg [.s (.faddr 2 aT5), .s (.load aS0), iSm 7, iSm 6, .s (.iaddr 1 aS2 aS1), .w .none none (.store 1 aS0 aS1)])
def F81.g6 (X7 : IR) : IR := (iSr [.s (.loadN 7 aT1), iSm 6, iCa 175 [aS1, aS0], iQm 7 0] (.seq (iSr [.s (.faddr 2 aT5), .s (.load aS0), iSm 7, .s (.iaddr 1 aS1 aS0), .s (.load aS0), iQo 9 (.bin .neq .int aS0 aC0)] (.cond aT9 (.seq (.dreg [] [(.s (.build [(I 0), (I 0), .nils] []), 0, []), (.s (.faddr 2 aT5), 1, []), (.s (.load aS0), 1, []), (iSm 7, 1, []), (.s (.iaddr 1 aS1 aS0), 1, []), (.s (.load aS0), 1, []), (iSm 6, 1, []), (.s (.build [(I 0), (I 0)] [(0, 1, aS1), (1, 1, aS0)]), 1, []), (.w .none none (.store 3 aT2 aS7), 0, []), (.w .none none (.store 2 aT3 aS0), 0, []), (iQo 4 (.mv (.c (.bool false))), 0, [])]) .ret) .skip)) X7))
def F81.b6 : IR := F81.g6 F81.b7
def F81.g5 (X6 : IR) : IR := (.block 1 X6)
def F81.b5 : IR := F81.g5 F81.b6
def F81.b8 : IR := (.reg [iSm 6, .s (.bin .add .int aS0 aC1), iQm 6 0])
def F81.g4 (X5 X8 : IR) : IR := (.seq X5 X8)
def F81.b4 : IR := F81.g4 F81.b5 F81.b8
def F81.g3 (X4 : IR) : IR := (.seq (iSr [iSm 6, .s (.faddr 0 aT1), .s (.load aS0), .s (.faddr 0 aT1), .s (.load aS0), .s (.bin .mul .int aS2 aS0), iQo 8 (.bin .leq .int aS5 aS0)] (.cond aT8 .skip (.exit 0))) X4)
def F81.b3 : IR := F81.g3 F81.b4
def F81.g2 (X3 : IR) : IR := (.loop X3)
def F81.b2 : IR := F81.g2 F81.b3
def F81.g1 (X2 : IR) : IR := (.block 0 X2)
def F81.b1 : IR := F81.g1 F81.b2
def F81.b9 : IR := (iSr [.s (.loadN 3 aT5), .s (.build [(I 0), (I 0)] []), .w .none none (.store 3 aT2 aS1), .w .none none (.store 2 aT3 aS0), iQo 4 (.mv (.c (.bool true)))] .ret)
def F81.g0 (X1 X9 : IR) : IR := (iSr [iWl 1 (.box aT0), iWl 2 (.alloc [(I 0), (I 0), .nils]), iWl 3 (.alloc [(I 0), (I 0)]), iQo 4 (.mv (.c (.bool false)))] (iSr [.s (.faddr 0 aT1), .s (.load aS0), iCa 156 [aS0], iWl 5 (.alloc [(I 0), (I 0), .nils]), .w .none none (.store 3 aT5 aS0)] (.seq (iSr [iQo 6 (.mv aC1)] X1) X9)))
def F81.b0 : IR := F81.g0 F81.b1 F81.b9
def F81.res : List RV := [.cell (.of 2) (some 3), .cell (.of 3) (some 2), .t (.of 4)]
def F81 : Fn := { params := [(.of 0)], res := F81.res, body := F81.b0, init := in10 }
theorem F81.ok : fnA Tryz.prog Tryz.f81 [0, 1, 2, 3, 4, 5, 6, 7, 17, 28] = some F81 := by kernel_rfl
abbrev F87.fr := fr11
def F87.b7 : IR := (iSr [iSm 8, iQm 4 0] (iSr [.s (.loadN 2 aT1), iSm 4, iCa 181 [aS1, aS0], iQm 5 0] (iSr [iSm 5, iQo 10 (.bin .neq .int aS0 aC0)] (.cond aT10 (iSr [iSm 5, iQm 2 0] .ret) .skip))))
def F87.g6 (X7 : IR) : IR := (.block 1 X7)
def F87.b6 : IR := F87.g6 F87.b7
def F87.b8 : IR := (.reg [.s (.bin .add .int aT8 aC1), iQm 8 0])
def F87.g5 (X6 X8 : IR) : IR := (.seq X6 X8)
def F87.b5 : IR := F87.g5 F87.b6 F87.b8
def F87.g4 (X5 : IR) : IR := (iSr [iQo 9 (.bin .lss .int aT8 aT7)] (.seq (.cond aT9 .skip (.exit 0)) X5))
def F87.b4 : IR := F87.g4 F87.b5
def F87.g3 (X4 : IR) : IR := (.loop X4)
def F87.b3 : IR := F87.g3 F87.b4
def F87.g2 (X3 : IR) : IR := (.block 0 X3)
def F87.b2 : IR := F87.g2 F87.b3
def F87.b9 : IR := (iSr [iQo 2 (.mv aC0)] .ret)
def F87.g1 (X2 X9 : IR) : IR := (.seq (iSr [.s (.faddr 1 aT1), .s (.load aS0), iQo 7 (.len aS0), iQo 8 (.mv aC0)] X2) X9)
def F87.b1 : IR := F87.g1 F87.b2 F87.b9
def F87.g0 (X1 : IR) : IR := (iSr [iWl 1 (.box aT0), iQo 2 (.mv aC0)] (.seq (.seq (.dreg [] [(.s (.faddr 0 aT1), 0, []), (.s (.load aS0), 0, []), (.s (.faddr 1 aT1), 2, []), (.s (.load aS0), 2, []), (.s (.len aS0), 2, []), (.s (.bin .gtr .int aS0 aC128), 2, []), (.w .push none (.bslice 1 1 [(I 0)] [(0, 1, aS4)]), 0, []), (iCa 65 [aC1, aC256, aS0], 0, []), (iCa 64 [aS2, aC5], 0, []), (.w .push none (.bslice 1 2 [(I 0)] [(0, 1, aS1), (1, 1, aS0)]), 0, []), (iCa 63 [aS0], 0, []), (iQm 3 0, 0, [])]) (iSr [iSm 3, iQo 6 (.bin .neq .int aS0 aC0)] (.cond aT6 (iSr [iSm 3, iQm 2 0] .ret) .skip))) X1))
def F87.b0 : IR := F87.g0 F87.b1
def F87.res : List RV := [.t (.of 2)]
def F87 : Fn := { params := [(.of 0)], res := F87.res, body := F87.b0, init := in11 }
theorem F87.ok : fnA Tryz.prog Tryz.f87 [0, 1, 2, 3, 4, 5, 18, 22, 23, 24, 30] = some F87 := by kernel_rfl
abbrev F89.fr := fr2
def F89.b0 : IR := (iSr [iWl 1 (.alloc [(I 0), .nils, (I 0), .nils])] (iSr [iSm 0, iCa 190 [aS0], iCa 189 [aS0], .w .none none (.store 4 aT1 aS0)] .ret))
def F89.res : List RV := [.cell (.of 1) (some 4)]
def F89 : Fn := { params := [(.of 0)], res := F89.res, body := F89.b0, init := in2 }
theorem F89.ok : fnA Tryz.prog Tryz.f89 [0, 2] = some F89 := by kernel_rfl
abbrev F100.fr := fr10
def F100.b6 : IR := (iSr [.s (.iaddr 1 aT6 aT8), .s (.load aS0), iQm 5 0] (.reg [iSm 4, iSm 5, iSm 1, iCa 198 [aS1, aS0], .w .push none (.bslice 1 1 [(I 0)] [(0, 1, aS0)]), .w .push none (.app 1 8 aS4 aS0), iQm 4 0]))
def F100.g5 (X6 : IR) : IR := (.block 1 X6)
def F100.b5 : IR := F100.g5 F100.b6
def F100.b7 : IR := (.reg [.s (.bin .add .int aT8 aC1), iQm 8 0])
def F100.g4 (X5 X7 : IR) : IR := (.seq X5 X7)
def F100.b4 : IR := F100.g4 F100.b5 F100.b7
def F100.g3 (X4 : IR) : IR := (iSr [iQo 9 (.bin .lss .int aT8 aT7)] (.seq (.cond aT9 .skip (.exit 0)) X4))
def F100.b3 : IR := F100.g3 F100.b4
def F100.g2 (X3 : IR) : IR := (.loop X3)
def F100.b2 : IR := F100.g2 F100.b3
def F100.g1 (X2 : IR) : IR := (.block 0 X2)
def F100.b1 : IR := F100.g1 F100.b2
def F100.b8 : IR := (iSr [iSm 4, iQm 3 0] .ret)
def F100.g0 (X1 X8 : IR) : IR := (iSr [iWl 2 (.box aT0), iQo 3 (.mv (.c .nils))] (iSr [iQo 4 (.mv (.c .nils))] (.seq (iSr [.s (.faddr 1 aT2), iQo 6 (.load aS0), iQo 7 (.len aT6), iQo 8 (.mv aC0)] X1) X8)))
def F100.b0 : IR := F100.g0 F100.b1 F100.b8
def F100.res : List RV := [.t (.of 3)]
def F100 : Fn := { params := [(.of 0), (.of 1)], res := F100.res, body := F100.b0, init := in10 }
theorem F100.ok : fnA Tryz.prog Tryz.f100 [0, 1, 2, 4, 5, 7, 9, 10, 11, 12] = some F100 := by kernel_rfl
abbrev F113.fr := fr9
def F113.b7 : IR := (iSr [iSm 6, iQm 3 0] (.seq (.dreg [] [(iSm 0, 0, []), (iSm 3, 0, []), (.s (.iaddr 1 aS1 aS0), 0, []), (.s (.load aS0), 0, []), (iSm 1, 0, []), (iSm 3, 0, []), (.s (.iaddr 1 aS1 aS0), 0, []), (.s (.load aS0), 0, []), (iQo 8 (.bin .neq .int aS4 aS0), 0, [])]) (.cond aT8 (iSr [iQo 2 (.mv (.c (.bool false)))] .ret) .skip)))
def F113.g6 (X7 : IR) : IR := (.block 1 X7)
def F113.b6 : IR := F113.g6 F113.b7
def F113.b8 : IR := (.reg [.s (.bin .add .int aT6 aC1), iQm 6 0])
def F113.g5 (X6 X8 : IR) : IR := (.seq X6 X8)
def F113.b5 : IR := F113.g5 F113.b6 F113.b8
def F113.g4 (X5 : IR) : IR := (iSr [iQo 7 (.bin .lss .int aT6 aT5)] (.seq (.cond aT7 .skip (.exit 0)) X5))
def F113.b4 : IR := F113.g4 F113.b5
def F113.g3 (X4 : IR) : IR := (.loop X4)
def F113.b3 : IR := F113.g3 F113.b4
def F113.g2 (X3 : IR) : IR := (.block 0 X3)
def F113.b2 : IR := F113.g2 F113.b3
def F113.b9 : IR := (iSr [iQo 2 (.mv (.c (.bool true)))] .ret)
def F113.g1 (X2 X9 : IR) : IR := (.seq (iSr [iSm 0, iQo 5 (.len aS0), iQo 6 (.mv aC0)] X2) X9)
def F113.b1 : IR := F113.g1 F113.b2 F113.b9
def F113.g0 (X1 : IR) : IR := (iSr [iQo 2 (.mv (.c (.bool false)))] (.seq (iSr [iSm 0, .s (.len aS0), iSm 1, .s (.len aS0), iQo 4 (.bin .neq .int aS2 aS0)] (.cond aT4 (iSr [iQo 2 (.mv (.c (.bool false)))] .ret) .skip)) X1))
def F113.b0 : IR := F113.g0 F113.b1
def F113.res : List RV := [.t (.of 2)]
def F113 : Fn := { params := [(.of 0), (.of 1)], res := F113.res, body := F113.b0, init := in9 }
theorem F113.ok : fnA Tryz.prog Tryz.f113 [0, 1, 4, 5, 10, 12, 13, 14, 24] = some F113 := by kernel_rfl
abbrev F115.fr := fr3
def F115.b1 : IR := (iSr [.w .push none (.bslice 1 0 [(I 0)] []), iSm 0, .w .push none (.app 1 8 aS1 aS0), iQm 1 0] .ret)
def F115.g0 (X1 : IR) : IR := (iSr [iQo 1 (.mv (.c .nils))] (.seq (iSr [iSm 0, iQo 2 (.bin .eql (.nil .sl) aS0 (.c .nils))] (.cond aT2 (iSr [iQo 1 (.mv (.c .nils))] .ret) .skip)) X1))
def F115.b0 : IR := F115.g0 F115.b1
def F115.res : List RV := [.t (.of 1)]
def F115 : Fn := { params := [(.of 0)], res := F115.res, body := F115.b0, init := in3 }
theorem F115.ok : fnA Tryz.prog Tryz.f115 [0, 2, 4] = some F115 := by kernel_rfl
abbrev F127.fr := fr3
def F127.b0 : IR := (iSr [iQo 2 (.mv (.c (.bool false)))] (iSr [iSm 0, iSm 1, iCa 167 [aS1, aS0], .s (.bin .geq .int aS0 aC0), iQm 2 0] .ret))
def F127.res : List RV := [.t (.of 2)]
def F127 : Fn := { params := [(.of 0), (.of 1)], res := F127.res, body := F127.b0, init := in3 }
theorem F127.ok : fnA Tryz.prog Tryz.f127 [0, 1, 4] = some F127 := by kernel_rfl
abbrev F147.fr := fr9
def F147.b6 : IR := (iSr [iSm 6, .s (.iaddr 1 aT4 aT6), .s (.load aS0), iQm 2 2, iQm 3 0] (iSr [iSm 3, iSm 2, .s (.bin .add .int aS0 aC1), iQo 8 (.bin .neq .int aS2 aS0)] (.cond aT8 (iSr [iQo 1 (.mv (.c (.bool false)))] .ret) .skip)))
def F147.g5 (X6 : IR) : IR := (.block 1 X6)
def F147.b5 : IR := F147.g5 F147.b6
def F147.b7 : IR := (.reg [.s (.bin .add .int aT6 aC1), iQm 6 0])
def F147.g4 (X5 X7 : IR) : IR := (.seq X5 X7)
def F147.b4 : IR := F147.g4 F147.b5 F147.b7
def F147.g3 (X4 : IR) : IR := (iSr [iQo 7 (.bin .lss .int aT6 aT5)] (.seq (.cond aT7 .skip (.exit 0)) X4))
def F147.b3 : IR := F147.g3 F147.b4
def F147.g2 (X3 : IR) : IR := (.loop X3)
def F147.b2 : IR := F147.g2 F147.b3
def F147.g1 (X2 : IR) : IR := (.block 0 X2)
def F147.b1 : IR := F147.g1 F147.b2
def F147.b8 : IR := (iSr [iQo 1 (.mv (.c (.bool true)))] .ret)
def F147.g0 (X1 X8 : IR) : IR := (iSr [iQo 1 (.mv (.c (.bool false)))] (.seq (iSr [iSm 0, iCa 236 [aS0], iWl 4 (.call (.c (.fn 235 (.of 235) [])) [aS0]), iQo 5 (.len aT4), iQo 6 (.mv aC0)] X1) X8))
def F147.b0 : IR := F147.g0 F147.b1 F147.b8
def F147.res : List RV := [.t (.of 1)]
def F147 : Fn := { params := [(.of 0)], res := F147.res, body := F147.b0, init := in9 }
theorem F147.ok : fnA Tryz.prog Tryz.f147 [0, 2, 3, 4, 7, 8, 9, 10, 17] = some F147 := by kernel_rfl
abbrev F149.fr := fr2
def F149.b0 : IR := (iSr [iQo 1 (.mv aC0)] (iSr [iSm 0, iCa 238 [aS0], .s (.not aS0), iCa 151 [aS0, aC3], iQm 1 0] .ret))
def F149.res : List RV := [.t (.of 1)]
def F149 : Fn := { params := [(.of 0)], res := F149.res, body := F149.b0, init := in2 }
theorem F149.ok : fnA Tryz.prog Tryz.f149 [0, 2] = some F149 := by kernel_rfl
abbrev F150.fr := fr10
def F150.b2 : IR := (iSr [.s (.bin .eql .int aT5 aC4), iQm 6 0] (.cond aT6 (iSr [.w .push none (.bslice 1 2 [(I 0)] [(0, 1, aC1), (1, 1, aC1)]), .s (.build [(I 0), (I 0), .nils] [(0, 1, aC4), (1, 1, aC2), (2, 1, aS0)]), .w .none none (.store 3 aT1 aS0), iQo 2 (.mv (.c (.bool true)))] .ret) (iSr [.s (.bin .eql .int aT5 aC8), iQm 7 0] (.cond aT7 (iSr [.w .push none (.bslice 1 3 [(I 0)] [(0, 1, aC1), (1, 1, aC1), (2, 1, aC0)]), .s (.build [(I 0), (I 0), .nils] [(0, 1, aC8), (1, 1, aC2), (2, 1, aS0)]), .w .none none (.store 3 aT1 aS0), iQo 2 (.mv (.c (.bool true)))] .ret) (iSr [.s (.bin .eql .int aT5 aC16), iQm 8 0] (.cond aT8 (iSr [.w .push none (.bslice 1 4 [(I 0)] [(0, 1, aC1), (1, 1, aC1), (2, 1, aC0), (3, 1, aC0)]), .s (.build [(I 0), (I 0), .nils] [(0, 1, aC16), (1, 1, aC2), (2, 1, aS0)]), .w .none none (.store 3 aT1 aS0), iQo 2 (.mv (.c (.bool true)))] .ret) (iSr [.s (.bin .eql .int aT5 aC9), iQm 9 0] (.cond aT9 (iSr [.w .push none (.bslice 1 2 [(I 0)] [(0, 1, aC1), (1, 1, aC0)]), .s (.build [(I 0), (I 0), .nils] [(0, 1, aC9), (1, 1, aC3), (2, 1, aS0)]), .w .none none (.store 3 aT1 aS0), iQo 2 (.mv (.c (.bool true)))] .ret) .skip))))))))
def F150.g1 (X2 : IR) : IR := (.block 0 X2)
def F150.b1 : IR := F150.g1 F150.b2
def F150.b3 : IR := (iSr [iSm 0, iCa 239 [aS0], .s (.mv aS0), .s (.ext 0 aS0), .s (.ext 1 aS1), iQm 3 1, iQm 4 0] (iSr [iSm 0, iSm 0, .w .push none (.bslice 1 1 [(I 0)] [(0, 1, aC0)]), .s (.build [(I 0), (I 0), .nils] [(0, 1, aS2), (1, 1, aS1), (2, 1, aS0)]), iSm 4, .s (.bin .eql .int aS0 aC0), .s (.mv aS0), iPt 0 (.mv aT3), .s (.pick aS1 aS0 (.c (.bool false))), .w .none none (.store 3 aT1 aS5), iQm 2 0] .ret))
def F150.g0 (X1 X3 : IR) : IR := (iSr [iWl 1 (.alloc [(I 0), (I 0), .nils]), iQo 2 (.mv (.c (.bool false)))] (.seq (iSr [iQo 5 (.mv aT0)] X1) X3))
def F150.b0 : IR := F150.g0 F150.b1 F150.b3
def F150.res : List RV := [.cell (.of 1) (some 3), .t (.of 2)]
def F150 : Fn := { params := [(.of 0)], res := F150.res, body := F150.b0, init := in10 }
theorem F150.ok : fnA Tryz.prog Tryz.f150 [0, 2, 3, 4, 5, 6, 7, 11, 15, 19] = some F150 := by kernel_rfl
abbrev F151.fr := fr4
def F151.b1 : IR := (iSr [iQo 2 (.mv aC0)] .ret)
def F151.g0 (X1 : IR) : IR := (iSr [iQo 2 (.mv aC0)] (.seq (iSr [iQo 3 (.mv aT0)] (.cond aT3 (iSr [iSm 1, iQm 2 0] .ret) .skip)) X1))
def F151.b0 : IR := F151.g0 F151.b1
def F151.res : List RV := [.t (.of 2)]
def F151 : Fn := { params := [(.of 0), (.of 1)], res := F151.res, body := F151.b0, init := in4 }
theorem F151.ok : fnA Tryz.prog Tryz.f151 [0, 1, 4, 5] = some F151 := by kernel_rfl
abbrev F152.fr := fr8
def F152.b6 : IR := (iSr [iSm 4, iSm 1, .s (.faddr 1 aT2), .s (.load aS0), .s (.bin .rem .int aS2 aS0), .w .push none (.bslice 1 1 [(I 0)] [(0, 1, aS0)]), .w .push none (.app 1 8 aS5 aS0), iQm 4 0] (.reg [iSm 1, .s (.faddr 1 aT2), .s (.load aS0), .s (.bin .quo .int aS2 aS0), iQm 1 0]))
def F152.g5 (X6 : IR) : IR := (.block 1 X6)
def F152.b5 : IR := F152.g5 F152.b6
def F152.b7 : IR := (.reg [.s (.bin .add .int aT6 aC1), iQm 6 0])
def F152.g4 (X5 X7 : IR) : IR := (.seq X5 X7)
def F152.b4 : IR := F152.g4 F152.b5 F152.b7
def F152.g3 (X4 : IR) : IR := (iSr [iQo 7 (.bin .lss .int aT6 aT5)] (.seq (.cond aT7 .skip (.exit 0)) X4))
def F152.b3 : IR := F152.g3 F152.b4
def F152.g2 (X3 : IR) : IR := (.loop X3)
def F152.b2 : IR := F152.g2 F152.b3
def F152.g1 (X2 : IR) : IR := (.block 0 X2)
def F152.b1 : IR := F152.g1 F152.b2
def F152.b8 : IR := (iSr [iSm 4, iQm 3 0] .ret)
def F152.g0 (X1 X8 : IR) : IR := (iSr [iWl 2 (.box aT0), iQo 3 (.mv (.c .nils))] (iSr [iQo 4 (.mv (.c .nils))] (.seq (iSr [.s (.faddr 2 aT2), .s (.load aS0), iQo 5 (.len aS0), iQo 6 (.mv aC0)] X1) X8)))
def F152.b0 : IR := F152.g0 F152.b1 F152.b8
def F152.res : List RV := [.t (.of 3)]
def F152 : Fn := { params := [(.of 0), (.of 1)], res := F152.res, body := F152.b0, init := in8 }
theorem F152.ok : fnA Tryz.prog Tryz.f152 [0, 1, 2, 4, 5, 8, 9, 10] = some F152 := by kernel_rfl
abbrev F153.fr := fr9
def F153.b3 : IR := (.reg [iQo 5 (.mv aT8)])
def F153.b5 : IR := (.dreg [] [(.s (.load aT4), 1, []), (.s (.faddr 1 aT2), 1, []), (.s (.load aS0), 1, []), (.s (.bin .mul .int aS2 aS0), 1, []), (iSm 5, 0, []), (.s (.faddr 1 aT2), 0, []), (.s (.load aS0), 0, []), (iCa 241 [aS2, aS0], 0, []), (.s (.bin .add .int aS4 aS0), 0, []), (.w .none none (.store 1 aT4 aS0), 0, [])])
def F153.g4 (X5 : IR) : IR := (.block 1 X5)
def F153.b4 : IR := F153.g4 F153.b5
def F153.g2 (X3 X4 : IR) : IR := (.rf aT6 [(.of 7), (.of 8)] X3 X4)
def F153.b2 : IR := F153.g2 F153.b3 F153.b4
def F153.g1 (X2 : IR) : IR := (.block 0 X2)
def F153.b1 : IR := F153.g1 F153.b2
def F153.b6 : IR := (iSr [.s (.load aT4), iQm 3 0] .ret)
def F153.g0 (X1 X6 : IR) : IR := (iSr [iWl 2 (.box aT0), iQo 3 (.mv aC0)] (iSr [iWl 4 (.alloc [(I 0)]), .w .none none (.store 1 aT4 aC0)] (.seq (iSr [iSm 1, iWl 6 (.call (.c (.fn 240 (.of 240) [])) [aS0])] X1) X6)))
def F153.b0 : IR := F153.g0 F153.b1 F153.b6
def F153.res : List RV := [.t (.of 3)]
def F153 : Fn := { params := [(.of 0), (.of 1)], res := F153.res, body := F153.b0, init := in9 }
theorem F153.ok : fnA Tryz.prog Tryz.f153 [0, 1, 2, 4, 5, 7, 9, 10, 11] = some F153 := by kernel_rfl
abbrev F154.fr := fr4
def F154.b0 : IR := (iSr [iWl 1 (.box aT0), iQo 2 (.mv aC0)] (iSr [.s (.faddr 0 aT1), .s (.load aS0), .s (.faddr 1 aT1), .s (.load aS0), .s (.bin .neq .int aS2 aS0), .s (.mv aS0), iPf 0 (.faddr 0 aT1), iPf 1 (.load aS0), iPf 2 (.bin .lss .int aS0 aC1), .s (.pick aS3 (.c (.bool true)) aS0), .s (.mv aS0), iPf 0 (.faddr 0 aT1), iPf 1 (.load aS0), iPf 2 (.bin .gtr .int aS0 aC16), .s (.pick aS3 (.c (.bool true)) aS0), .s (.mv aS0), iPf 0 (.faddr 2 aT1), iPf 1 (.load aS0), iPf 2 (.len aS0), iPf 3 (.faddr 0 aT1), iPf 4 (.load aS0), iPf 5 (.faddr 1 aT1), iPf 6 (.load aS0), iPf 7 (.bin .mul .int aS2 aS0), iPf 8 (.bin .neq .int aS5 aS0), .s (.pick aS9 (.c (.bool true)) aS0), iQm 3 0] (iSr [iSm 3, iCa 54 [aS0, aC2], iQm 2 0] .ret)))
def F154.res : List RV := [.t (.of 2)]
def F154 : Fn := { params := [(.of 0)], res := F154.res, body := F154.b0, init := in4 }
theorem F154.ok : fnA Tryz.prog Tryz.f154 [0, 1, 2, 3] = some F154 := by kernel_rfl
abbrev F155.fr := fr3
def F155.b0 : IR := (iSr [iQo 2 (.mv (.c (.bool false)))] (iSr [iSm 0, .s (.bin .lss .int aS0 aC0), .s (.mv aS0), iPf 0 (.mv aT0), iPf 1 (.faddr 0 aT1), iPf 2 (.load aS0), iPf 3 (.bin .geq .int aS2 aS0), .s (.pick aS4 (.c (.bool true)) aS0), iQm 2 0] .ret))
def F155.res : List RV := [.t (.of 2)]
def F155 : Fn := { params := [(.of 0), (.of 1)], res := F155.res, body := F155.b0, init := in3 }
theorem F155.ok : fnA Tryz.prog Tryz.f155 [0, 1, 3] = some F155 := by kernel_rfl
abbrev F156.fr := fr2
def F156.b0 : IR := (iSr [iWl 1 (.alloc [(I 0), (I 0), .nils])] (iSr [iSm 0, iSm 0, iSm 0, iSm 0, .s (.bin .mul .int aS1 aS0), .w .push none (.mkslice 1 8 [(I 0)] aS0 aS0), .s (.build [(I 0), (I 0), .nils] [(0, 1, aS5), (1, 1, aS4), (2, 1, aS0)]), .w .none none (.store 3 aT1 aS0)] .ret))
def F156.res : List RV := [.cell (.of 1) (some 3)]
def F156 : Fn := { params := [(.of 0)], res := F156.res, body := F156.b0, init := in2 }
theorem F156.ok : fnA Tryz.prog Tryz.f156 [0, 2] = some F156 := by kernel_rfl
abbrev F157.fr := fr5
def F157.b0 : IR := (iSr [iWl 2 (.box aT0), iWl 3 (.box aT1), iQo 4 (.mv aC0)] (.seq (.dreg [] [(.s (.loadN 3 aT2), 0, []), (.s (.loadN 3 aT3), 1, []), (.s (.faddr 0 aT2), 2, []), (.s (.load aS0), 2, []), (.s (.faddr 0 aT3), 2, []), (.s (.load aS0), 2, []), (.s (.bin .neq .int aS2 aS0), 2, []), (iCa 70 [aS6], 0, []), (iCa 70 [aS6], 0, []), (iCa 151 [aS2, aC2], 0, []), (.w .push none (.bslice 1 3 [(I 0)] [(0, 1, aS2), (1, 1, aS1), (2, 1, aS0)]), 0, []), (iCa 69 [aS0], 0, []), (iQm 4 0, 0, [])]) .ret))
def F157.res : List RV := [.t (.of 4)]
def F157 : Fn := { params := [(.of 0), (.of 1)], res := F157.res, body := F157.b0, init := in5 }
theorem F157.ok : fnA Tryz.prog Tryz.f157 [0, 1, 2, 3, 4] = some F157 := by kernel_rfl
end
end Go.Ev
