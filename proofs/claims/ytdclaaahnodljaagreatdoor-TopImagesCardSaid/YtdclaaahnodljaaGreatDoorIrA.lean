import Derived.Test.YtdclaaahnodljaaGreatDoorEvC
import Derived.Test.YtdclaaahnodljaaGreatDoorProg
import Derived.KernelRfl
set_option linter.unusedSimpArgs false
set_option linter.unusedVariables false
namespace Go.Ev
open Go Go.Proofs
set_option maxRecDepth 100000
noncomputable section
abbrev zU:List AV:=[(.int .u8 0),(.int .u8 0),(.int .u8 0),(.int .u8 0),(.int .u8 0),(.int .u8 0),(.int .u8 0),(.int .u8 0),(.int .u8 0),(.int .u8 0),(.int .u8 0),(.int .u8 0),(.int .u8 0),(.int .u8 0),(.int .u8 0),(.int .u8 0),(.int .u8 0),(.int .u8 0),(.int .u8 0),(.int .u8 0),(.int .u8 0),(.int .u8 0),(.int .u8 0),(.int .u8 0),(.int .u8 0),(.int .u8 0),(.int .u8 0),(.int .u8 0),(.int .u8 0),(.int .u8 0),(.int .u8 0),(.int .u8 0),(.int .u8 0),(.int .u8 0),(.int .u8 0),(.int .u8 0),(.int .u8 0),(.int .u8 0),(.int .u8 0),(.int .u8 0),(.int .u8 0),(.int .u8 0),(.int .u8 0),(.int .u8 0),(.int .u8 0),(.int .u8 0),(.int .u8 0),(.int .u8 0),(.int .u8 0),(.int .u8 0),(.int .u8 0),(.int .u8 0),(.int .u8 0),(.int .u8 0),(.int .u8 0),(.int .u8 0),(.int .u8 0),(.int .u8 0),(.int .u8 0),(.int .u8 0),(.int .u8 0),(.int .u8 0),(.int .u8 0),(.int .u8 0),(.int .u8 0),(.int .u8 0),(.int .u8 0),(.int .u8 0),(.int .u8 0),(.int .u8 0),(.int .u8 0),(.int .u8 0),(.int .u8 0),(.int .u8 0),(.int .u8 0),(.int .u8 0),(.int .u8 0),(.int .u8 0),(.int .u8 0),(.int .u8 0),(.int .u8 0),(.int .u8 0),(.int .u8 0),(.int .u8 0),(.int .u8 0),(.int .u8 0),(.int .u8 0),(.int .u8 0),(.int .u8 0),(.int .u8 0),(.int .u8 0),(.int .u8 0),(.int .u8 0),(.int .u8 0),(.int .u8 0),(.int .u8 0),(.int .u8 0),(.int .u8 0),(.int .u8 0),(.int .u8 0),(.int .u8 0),(.int .u8 0),(.int .u8 0),(.int .u8 0),(.int .u8 0),(.int .u8 0),(.int .u8 0),(.int .u8 0),(.int .u8 0),(.int .u8 0),(.int .u8 0),(.int .u8 0),(.int .u8 0),(.int .u8 0),(.int .u8 0),(.int .u8 0),(.int .u8 0),(.int .u8 0),(.int .u8 0),(.int .u8 0),(.int .u8 0),(.int .u8 0),(.int .u8 0),(.int .u8 0),(.int .u8 0),(.int .u8 0),(.int .u8 0),(.int .u8 0)]
abbrev iSm (n:Nat):RO:=.s (.mv (.t (.of n)))
abbrev iQm (n m:Nat):RO:=.q (.of n) (.mv (.s m))
abbrev iQo (n:Nat) (o:PO):RO:=.q (.of n) o
abbrev iPf (n:Nat) (o:PO):RO:=.p .push (some (.s n,false)) o
abbrev iPt (n:Nat) (o:PO):RO:=.p .push (some (.s n,true)) o
abbrev iCa (n:Nat) (l:List Arg):RO:=.w .push none (.call (.c (.fn n (.of n) [])) l)
abbrev iWl (n:Nat) (o:WO):RO:=.w (.loc (.of n)) none o
abbrev iSr (l:List RO) (c:IR):IR:=.seq (.reg l) c
def fr1 (x0:AV):T AV:=(.n .e x0 .e)
def fr2 (x0 x1:AV):T AV:=(.n (.n .e x1 .e) x0 .e)
def fr3 (x0 x1 x2:AV):T AV:=(.n (.n .e x1 .e) x0 (.n .e x2 .e))
def fr4 (x0 x1 x2 x3:AV):T AV:=(.n (.n (.n .e x3 .e) x1 .e) x0 (.n .e x2 .e))
def fr5 (x0 x1 x2 x3 x4:AV):T AV:=(.n (.n (.n .e x3 .e) x1 .e) x0 (.n (.n .e x4 .e) x2 .e))
def fr6 (x0 x1 x2 x3 x4 x5:AV):T AV:=(.n (.n (.n .e x3 .e) x1 (.n .e x5 .e)) x0 (.n (.n .e x4 .e) x2 .e))
def fr7 (x0 x1 x2 x3 x4 x5 x6:AV):T AV:=(.n (.n (.n .e x3 .e) x1 (.n .e x5 .e)) x0 (.n (.n .e x4 .e) x2 (.n .e x6 .e)))
def fr8 (x0 x1 x2 x3 x4 x5 x6 x7:AV):T AV:=(.n (.n (.n (.n .e x7 .e) x3 .e) x1 (.n .e x5 .e)) x0 (.n (.n .e x4 .e) x2 (.n .e x6 .e)))
def fr9 (x0 x1 x2 x3 x4 x5 x6 x7 x8:AV):T AV:=(.n (.n (.n (.n .e x7 .e) x3 .e) x1 (.n .e x5 .e)) x0 (.n (.n (.n .e x8 .e) x4 .e) x2 (.n .e x6 .e)))
def fr10 (x0 x1 x2 x3 x4 x5 x6 x7 x8 x9:AV):T AV:=(.n (.n (.n (.n .e x7 .e) x3 .e) x1 (.n (.n .e x9 .e) x5 .e)) x0 (.n (.n (.n .e x8 .e) x4 .e) x2 (.n .e x6 .e)))
def fr11 (x0 x1 x2 x3 x4 x5 x6 x7 x8 x9 x10:AV):T AV:=(.n (.n (.n (.n .e x7 .e) x3 .e) x1 (.n (.n .e x9 .e) x5 .e)) x0 (.n (.n (.n .e x8 .e) x4 .e) x2 (.n (.n .e x10 .e) x6 .e)))
def fr12 (x0 x1 x2 x3 x4 x5 x6 x7 x8 x9 x10 x11:AV):T AV:=(.n (.n (.n (.n .e x7 .e) x3 (.n .e x11 .e)) x1 (.n (.n .e x9 .e) x5 .e)) x0 (.n (.n (.n .e x8 .e) x4 .e) x2 (.n (.n .e x10 .e) x6 .e)))
def fr13 (x0 x1 x2 x3 x4 x5 x6 x7 x8 x9 x10 x11 x12:AV):T AV:=(.n (.n (.n (.n .e x7 .e) x3 (.n .e x11 .e)) x1 (.n (.n .e x9 .e) x5 .e)) x0 (.n (.n (.n .e x8 .e) x4 (.n .e x12 .e)) x2 (.n (.n .e x10 .e) x6 .e)))
def fr14 (x0 x1 x2 x3 x4 x5 x6 x7 x8 x9 x10 x11 x12 x13:AV):T AV:=(.n (.n (.n (.n .e x7 .e) x3 (.n .e x11 .e)) x1 (.n (.n .e x9 .e) x5 (.n .e x13 .e))) x0 (.n (.n (.n .e x8 .e) x4 (.n .e x12 .e)) x2 (.n (.n .e x10 .e) x6 .e)))
def fr15 (x0 x1 x2 x3 x4 x5 x6 x7 x8 x9 x10 x11 x12 x13 x14:AV):T AV:=(.n (.n (.n (.n .e x7 .e) x3 (.n .e x11 .e)) x1 (.n (.n .e x9 .e) x5 (.n .e x13 .e))) x0 (.n (.n (.n .e x8 .e) x4 (.n .e x12 .e)) x2 (.n (.n .e x10 .e) x6 (.n .e x14 .e))))
def fr17 (x0 x1 x2 x3 x4 x5 x6 x7 x8 x9 x10 x11 x12 x13 x14 x15 x16:AV):T AV:=(.n (.n (.n (.n (.n .e x15 .e) x7 .e) x3 (.n .e x11 .e)) x1 (.n (.n .e x9 .e) x5 (.n .e x13 .e))) x0 (.n (.n (.n (.n .e x16 .e) x8 .e) x4 (.n .e x12 .e)) x2 (.n (.n .e x10 .e) x6 (.n .e x14 .e))))
def fr18 (x0 x1 x2 x3 x4 x5 x6 x7 x8 x9 x10 x11 x12 x13 x14 x15 x16 x17:AV):T AV:=(.n (.n (.n (.n (.n .e x15 .e) x7 .e) x3 (.n .e x11 .e)) x1 (.n (.n (.n .e x17 .e) x9 .e) x5 (.n .e x13 .e))) x0 (.n (.n (.n (.n .e x16 .e) x8 .e) x4 (.n .e x12 .e)) x2 (.n (.n .e x10 .e) x6 (.n .e x14 .e))))
def fr19 (x0 x1 x2 x3 x4 x5 x6 x7 x8 x9 x10 x11 x12 x13 x14 x15 x16 x17 x18:AV):T AV:=(.n (.n (.n (.n (.n .e x15 .e) x7 .e) x3 (.n .e x11 .e)) x1 (.n (.n (.n .e x17 .e) x9 .e) x5 (.n .e x13 .e))) x0 (.n (.n (.n (.n .e x16 .e) x8 .e) x4 (.n .e x12 .e)) x2 (.n (.n (.n .e x18 .e) x10 .e) x6 (.n .e x14 .e))))
def fr20 (x0 x1 x2 x3 x4 x5 x6 x7 x8 x9 x10 x11 x12 x13 x14 x15 x16 x17 x18 x19:AV):T AV:=(.n (.n (.n (.n (.n .e x15 .e) x7 .e) x3 (.n (.n .e x19 .e) x11 .e)) x1 (.n (.n (.n .e x17 .e) x9 .e) x5 (.n .e x13 .e))) x0 (.n (.n (.n (.n .e x16 .e) x8 .e) x4 (.n .e x12 .e)) x2 (.n (.n (.n .e x18 .e) x10 .e) x6 (.n .e x14 .e))))
def fr23 (x0 x1 x2 x3 x4 x5 x6 x7 x8 x9 x10 x11 x12 x13 x14 x15 x16 x17 x18 x19 x20 x21 x22:AV):T AV:=(.n (.n (.n (.n (.n .e x15 .e) x7 .e) x3 (.n (.n .e x19 .e) x11 .e)) x1 (.n (.n (.n .e x17 .e) x9 .e) x5 (.n (.n .e x21 .e) x13 .e))) x0 (.n (.n (.n (.n .e x16 .e) x8 .e) x4 (.n (.n .e x20 .e) x12 .e)) x2 (.n (.n (.n .e x18 .e) x10 .e) x6 (.n (.n .e x22 .e) x14 .e))))
def fr25 (x0 x1 x2 x3 x4 x5 x6 x7 x8 x9 x10 x11 x12 x13 x14 x15 x16 x17 x18 x19 x20 x21 x22 x23 x24:AV):T AV:=(.n (.n (.n (.n (.n .e x15 .e) x7 (.n .e x23 .e)) x3 (.n (.n .e x19 .e) x11 .e)) x1 (.n (.n (.n .e x17 .e) x9 .e) x5 (.n (.n .e x21 .e) x13 .e))) x0 (.n (.n (.n (.n .e x16 .e) x8 (.n .e x24 .e)) x4 (.n (.n .e x20 .e) x12 .e)) x2 (.n (.n (.n .e x18 .e) x10 .e) x6 (.n (.n .e x22 .e) x14 .e))))
def fr34 (x0 x1 x2 x3 x4 x5 x6 x7 x8 x9 x10 x11 x12 x13 x14 x15 x16 x17 x18 x19 x20 x21 x22 x23 x24 x25 x26 x27 x28 x29 x30 x31 x32 x33:AV):T AV:=(.n (.n (.n (.n (.n (.n .e x31 .e) x15 .e) x7 (.n .e x23 .e)) x3 (.n (.n .e x19 .e) x11 (.n .e x27 .e))) x1 (.n (.n (.n (.n .e x33 .e) x17 .e) x9 (.n .e x25 .e)) x5 (.n (.n .e x21 .e) x13 (.n .e x29 .e)))) x0 (.n (.n (.n (.n (.n .e x32 .e) x16 .e) x8 (.n .e x24 .e)) x4 (.n (.n .e x20 .e) x12 (.n .e x28 .e))) x2 (.n (.n (.n .e x18 .e) x10 (.n .e x26 .e)) x6 (.n (.n .e x22 .e) x14 (.n .e x30 .e)))))
abbrev in1:T AV:=fr1 .u
abbrev in2:T AV:=fr2 .u .u
abbrev in3:T AV:=fr3 .u .u .u
abbrev in4:T AV:=fr4 .u .u .u .u
abbrev in5:T AV:=fr5 .u .u .u .u .u
abbrev in6:T AV:=fr6 .u .u .u .u .u .u
abbrev in7:T AV:=fr7 .u .u .u .u .u .u .u
abbrev in8:T AV:=fr8 .u .u .u .u .u .u .u .u
abbrev in9:T AV:=fr9 .u .u .u .u .u .u .u .u .u
abbrev in10:T AV:=fr10 .u .u .u .u .u .u .u .u .u .u
abbrev in11:T AV:=fr11 .u .u .u .u .u .u .u .u .u .u .u
abbrev in12:T AV:=fr12 .u .u .u .u .u .u .u .u .u .u .u .u
abbrev in13:T AV:=fr13 .u .u .u .u .u .u .u .u .u .u .u .u .u
abbrev in14:T AV:=fr14 .u .u .u .u .u .u .u .u .u .u .u .u .u .u
abbrev in15:T AV:=fr15 .u .u .u .u .u .u .u .u .u .u .u .u .u .u .u
abbrev in17:T AV:=fr17 .u .u .u .u .u .u .u .u .u .u .u .u .u .u .u .u .u
abbrev in18:T AV:=fr18 .u .u .u .u .u .u .u .u .u .u .u .u .u .u .u .u .u .u
abbrev in19:T AV:=fr19 .u .u .u .u .u .u .u .u .u .u .u .u .u .u .u .u .u .u .u
abbrev in20:T AV:=fr20 .u .u .u .u .u .u .u .u .u .u .u .u .u .u .u .u .u .u .u .u
abbrev in23:T AV:=fr23 .u .u .u .u .u .u .u .u .u .u .u .u .u .u .u .u .u .u .u .u .u .u .u
abbrev in25:T AV:=fr25 .u .u .u .u .u .u .u .u .u .u .u .u .u .u .u .u .u .u .u .u .u .u .u .u .u
abbrev in34:T AV:=fr34 .u .u .u .u .u .u .u .u .u .u .u .u .u .u .u .u .u .u .u .u .u .u .u .u .u .u .u .u .u .u .u .u .u .u
abbrev aT0:Arg:=.t (.of 0)
abbrev aT1:Arg:=.t (.of 1)
abbrev aT2:Arg:=.t (.of 2)
abbrev aT3:Arg:=.t (.of 3)
abbrev aT4:Arg:=.t (.of 4)
abbrev aT5:Arg:=.t (.of 5)
abbrev aT6:Arg:=.t (.of 6)
abbrev aT7:Arg:=.t (.of 7)
abbrev aT8:Arg:=.t (.of 8)
abbrev aT9:Arg:=.t (.of 9)
abbrev sJ:Arg:=.t (.of 10)
abbrev aA:Arg:=.t (.of 11)
abbrev oD:Arg:=.t (.of 12)
abbrev eX:Arg:=.t (.of 13)
abbrev aT14:Arg:=.t (.of 14)
abbrev aT15:Arg:=.t (.of 15)
abbrev aT16:Arg:=.t (.of 16)
abbrev aT17:Arg:=.t (.of 17)
abbrev aT18:Arg:=.t (.of 18)
abbrev aT19:Arg:=.t (.of 19)
abbrev aT20:Arg:=.t (.of 20)
abbrev aT21:Arg:=.t (.of 21)
abbrev aT22:Arg:=.t (.of 22)
abbrev aT23:Arg:=.t (.of 23)
abbrev aT24:Arg:=.t (.of 24)
abbrev aT25:Arg:=.t (.of 25)
abbrev aT26:Arg:=.t (.of 26)
abbrev aT27:Arg:=.t (.of 27)
abbrev aT28:Arg:=.t (.of 28)
abbrev aT29:Arg:=.t (.of 29)
abbrev aT30:Arg:=.t (.of 30)
abbrev aT31:Arg:=.t (.of 31)
abbrev aT32:Arg:=.t (.of 32)
abbrev aT33:Arg:=.t (.of 33)
abbrev aS0:Arg:=.s 0
abbrev aS1:Arg:=.s 1
abbrev aS2:Arg:=.s 2
abbrev aS3:Arg:=.s 3
abbrev aS4:Arg:=.s 4
abbrev aS5:Arg:=.s 5
abbrev aS6:Arg:=.s 6
abbrev aS7:Arg:=.s 7
abbrev aS8:Arg:=.s 8
abbrev aS9:Arg:=.s 9
abbrev aS10:Arg:=.s 10
abbrev aS11:Arg:=.s 11
abbrev aS12:Arg:=.s 12
abbrev aS13:Arg:=.s 13
abbrev aS14:Arg:=.s 14
abbrev aS15:Arg:=.s 15
abbrev aS16:Arg:=.s 16
abbrev aS17:Arg:=.s 17
abbrev aS21:Arg:=.s 21
abbrev aS24:Arg:=.s 24
abbrev aS26:Arg:=.s 26
abbrev aC0:Arg:=.c (I 0)
abbrev aC1:Arg:=.c (I 1)
abbrev aC2:Arg:=.c (I 2)
abbrev aC3:Arg:=.c (I 3)
abbrev aC4:Arg:=.c (I 4)
abbrev aC5:Arg:=.c (I 5)
abbrev aC6:Arg:=.c (I 6)
abbrev aC7:Arg:=.c (I 7)
abbrev aC8:Arg:=.c (I 8)
abbrev aC9:Arg:=.c (I 9)
abbrev aC10:Arg:=.c (I 10)
abbrev aC11:Arg:=.c (I 11)
abbrev aC12:Arg:=.c (I 12)
abbrev aC13:Arg:=.c (I 13)
abbrev aC14:Arg:=.c (I 14)
abbrev aC16:Arg:=.c (I 16)
abbrev aC28:Arg:=.c (I 28)
abbrev aC32:Arg:=.c (I 32)
abbrev qb8:Arg:=.c (I 100)
abbrev qb9:Arg:=.c (I 128)
abbrev zb2:Arg:=.c (I 256)
abbrev zpe:Arg:=.c (I 1000)
abbrev zpf:Arg:=.c (I 1536)
abbrev zlu:Arg:=.c (I 1048576)
abbrev xI:Arg:=.c (I 999999999)
abbrev F4.fr:=fr34
def F4.b9:IR:=(iSr [.s (.zu 1 aT28 aT30),.s (.load aS0),iQm 18 0] (iSr [iSm 18,iSm 4,iCa 26 [aS1,aS0],.s (.mv aS0),.s (.ext 0 aS0),.s (.ext 1 aS1),iWl 19 (.alloc [(I 0),.zf]),.w .none none (.store 2 aT19 aS1),iQm 20 0] (iSr [.s (.zn 2 aT19),.s (.zn 2 aT9),iCa 27 [aS1,aS0],.s (.mv aS0),.s (.ext 0 aS0),.s (.ext 1 aS1),iQm 21 1,iQm 22 0] (iSr [iSm 20,iSm 22,.s (.bin .add .int aS1 aS0),.s (.bin .neq .int aS0 aC0),.s (.mv aS0),iPf 0 (.mv aT21),iPf 1 (.not aS0),iQo 32 (.pick aS2 (.c (.bool true)) aS0)] (.cond aT32 (iSr [iQo 3 (.mv (.c (.bool false)))] .ret) .skip)))))
def F4.g8 (X9:IR):IR:=(.block 1 X9)
def F4.b8:IR:=F4.g8 F4.b9
def F4.b10:IR:=(.reg [.s (.bin .add .int aT30 aC1),iQm 30 0])
def F4.g7 (X8 X10:IR):IR:=(.seq X8 X10)
def F4.b7:IR:=F4.g7 F4.b8 F4.b10
def F4.g6 (X7:IR):IR:=(iSr [iQo 31 (.bin .lss .int aT30 aT29)] (.seq (.cond aT31 .skip (.exit 0)) X7))
def F4.b6:IR:=F4.g6 F4.b7
def F4.g5 (X6:IR):IR:=(.loop X6)
def F4.b5:IR:=F4.g5 F4.b6
def F4.g4 (X5:IR):IR:=(.block 0 X5)
def F4.b4:IR:=F4.g4 F4.b5
def F4.b12:IR:=(iSr [.s (.zk 1 aT9),.w .none none (.store 1 aS0 (.c (.bool true)))] (iSr [.s (.zn 2 aT9),.s (.zk 2 aT2),.s (.load aS0),iCa 22 [aS2,aS0],.s (.mv aS0),.s (.ext 0 aS0),.s (.ext 1 aS1),iQm 10 1,iQm 23 0] (iSr [iSm 4,iSm 4,iSm 10,.s (.build [(I 0),(I 0),.zf] [(0,1,aS2),(1,1,aS1),(2,1,aS0)]),iCa 20 [aS0],.s (.mv aS0),.s (.ext 0 aS0),.s (.ext 1 aS1),iQm 16 1,iQm 24 0] (iSr [iSm 23,iSm 24,.s (.bin .add .int aS1 aS0),.s (.bin .eql .int aS0 aC0),.s (.mv aS0),iPt 0 (.mv aT7),iPt 1 (.mv aT16),.w .push (some (aS2,true)) (.call (.c (.fn 25 (.of 25) [])) [aS1,aS0]),.s (.pick aS3 aS0 (.c (.bool false))),.s (.mv aS0),.w .push (some (aS0,true)) (.call (.c (.fn 18 (.of 18) [])) []),.s (.pick aS1 aS0 (.c (.bool false))),iQm 3 0] .ret))))
def F4.g11 (X12:IR):IR:=(.seq (iSr [iSm 7,.w .push none (.call (.c (.fn 28 (.of 28) [])) [aS0,(.c (.str [110,111,114,109,97,108]))]),iQo 33 (.not aS0)] (.cond aT33 (iSr [iCa 18 [],iQm 3 0] .ret) .skip)) X12)
def F4.b11:IR:=F4.g11 F4.b12
def F4.g3 (X4 X11:IR):IR:=(.seq (iSr [iWl 28 (.yj 1 3 [(.str [])] [(0,1,(.c (.str [115,101,109,105,109,97,103,105,99]))),(1,1,(.c (.str [109,97,103,105,99]))),(2,1,(.c (.str [112,97,110,100,105,97,103,111,110,97,108])))]),iQo 29 (.len aT28),iQo 30 (.mv aC0)] X4) X11)
def F4.b3:IR:=F4.g3 F4.b4 F4.b11
def F4.g2 (X3:IR):IR:=(iSr [iSm 5,iSm 1,.s (.conv .i64 aS0),iSm 5,.s (.len aS0),.s (.bin .rem .int aS2 aS0),.s (.zu 2 aS5 aS0),.s (.zn 2 aS0),iWl 9 (.alloc [.zf,(.bool false)]),.w .none none (.store 2 aT9 aS0)] (iSr [.s (.zn 2 aT9),.s (.zk 2 aT2),.s (.load aS0),iCa 22 [aS2,aS0],.s (.mv aS0),.s (.ext 0 aS0),.s (.ext 1 aS1),iQm 10 1,iQm 11 0] (iSr [iSm 5,.s (.zk 2 aT2),.s (.load aS0),iCa 23 [aS2,aS0],.s (.mv aS0),.s (.ext 0 aS0),.s (.ext 1 aS1),iQm 12 1,iQm 13 0] (iSr [iSm 5,iSm 10,iCa 23 [aS1,aS0],.s (.mv aS0),.s (.ext 0 aS0),.s (.ext 1 aS1),iQm 14 1,iQm 15 0] (iSr [iSm 4,iSm 4,iSm 10,.s (.build [(I 0),(I 0),.zf] [(0,1,aS2),(1,1,aS1),(2,1,aS0)]),iCa 20 [aS0],.s (.mv aS0),.s (.ext 0 aS0),.s (.ext 1 aS1),iQm 16 1,iQm 17 0] (.seq (iSr [iSm 11,iSm 13,.s (.bin .add .int aS1 aS0),iSm 15,.s (.bin .add .int aS1 aS0),iSm 17,.s (.bin .add .int aS1 aS0),.s (.bin .neq .int aS0 aC0),.s (.mv aS0),iPf 0 (.mv oD),iPf 1 (.mv aT14),.w .push (some (aS2,false)) (.call (.c (.fn 24 (.of 24) [])) [aS1,aS0]),iPf 3 (.not aS0),.s (.pick aS4 (.c (.bool true)) aS0),.s (.mv aS0),iPf 0 (.mv aT7),iPf 1 (.mv aT16),.w .push (some (aS2,false)) (.call (.c (.fn 25 (.of 25) [])) [aS1,aS0]),iPf 3 (.not aS0),iQo 27 (.pick aS4 (.c (.bool true)) aS0)] (.cond aT27 (iSr [iQo 3 (.mv (.c (.bool false)))] .ret) .skip)) X3))))))
def F4.b2:IR:=F4.g2 F4.b3
def F4.g1 (X2:IR):IR:=(iSr [.s (.zk 0 aT2),.s (.load aS0),iQm 4 0] (iSr [iSm 4,iCa 19 [aS0],.s (.mv aS0),.s (.ext 0 aS0),.s (.ext 1 aS1),iQm 5 1,iQm 6 0] (iSr [.s (.zn 3 aT2),iCa 20 [aS0],.s (.mv aS0),.s (.ext 0 aS0),.s (.ext 1 aS1),iQm 7 1,iQm 8 0] (.seq (iSr [iSm 6,iSm 8,.s (.bin .add .int aS1 aS0),.s (.bin .neq .int aS0 aC0),.s (.mv aS0),iPf 0 (.mv aT5),iPf 1 (.mv aT4),iPf 2 (.mv aT4),iPf 3 (.bin .mul .int aS1 aS0),.w .push (some (aS4,false)) (.call (.c (.fn 21 (.of 21) [])) [aS3,aS0,aC8]),iPf 5 (.not aS0),iPf 6 (.mv aS0),iPt 0 (.mv aT4),iPt 1 (.bin .leq .int aS0 aC4),iPf 9 (.pick aS2 aS0 (.c (.bool false))),.s (.pick aS10 (.c (.bool true)) aS0),.s (.mv aS0),iPf 0 (.mv aT5),iPf 1 (.len aS0),iPf 2 (.bin .eql .int aS0 aC0),.s (.pick aS3 (.c (.bool true)) aS0),.s (.mv aS0),iPf 0 (.mv aT5),iPf 1 (.len aS0),iPf 2 (.bin .gtr .int aS0 aC8),iQo 26 (.pick aS3 (.c (.bool true)) aS0)] (.cond aT26 (iSr [iQo 3 (.mv (.c (.bool false)))] .ret) .skip)) X2))))
def F4.b1:IR:=F4.g1 F4.b2
def F4.g0 (X1:IR):IR:=(iSr [iWl 2 (.box aT0),iQo 3 (.mv (.c (.bool false)))] (.seq (iSr [.s (.zn 3 aT2),iCa 16 [aS0],.s (.bin .neq .int aS0 aC0),.s (.mv aS0),iPf 0 (.zk 0 aT2),iPf 1 (.load aS0),iPf 2 (.bin .gtr .int aS0 aC5),.s (.pick aS3 (.c (.bool true)) aS0),.s (.mv aS0),iPf 0 (.zk 2 aT2),iPf 1 (.load aS0),.w .push (some (aS2,false)) (.call (.c (.fn 17 (.of 17) [])) [aS0]),iPf 3 (.bin .neq .int aS0 aC0),iQo 25 (.pick aS4 (.c (.bool true)) aS0)] (.cond aT25 (iSr [iCa 18 [],iQm 3 0] .ret) .skip)) X1))
def F4.b0:IR:=F4.g0 F4.b1
def F4.res:List RV:=[.t (.of 3)]
def F4:Fn:={ params:=[(.of 0),(.of 1)],res:=F4.res,body:=F4.b0,init:=in34 }
theorem F4.ok:fnA Tryz.prog Tryz.f4 [0,1,2,4,5,6,7,8,9,10,11,12,13,14,15,16,17,18,20,21,22,23,24,25,26,40,79,135,136,137,138,139,161,165]=some F4:=by kernel_rfl
abbrev F16.fr:=fr5
def F16.b2:IR:=(iSr [.s (.zk 2 aT1),.s (.load aS0),iCa 53 [aS0],iQm 2 0] .ret)
def F16.g1 (X2:IR):IR:=(.seq (iSr [.s (.zk 0 aT1),.s (.load aS0),.s (.bin .lss .int aS0 aC1),.s (.mv aS0),iPf 0 (.zk 0 aT1),iPf 1 (.load aS0),iPf 2 (.bin .gtr .int aS0 aC16),iQo 4 (.pick aS3 (.c (.bool true)) aS0)] (.cond aT4 (iSr [iQo 2 (.mv aC3)] .ret) .skip)) X2)
def F16.b1:IR:=F16.g1 F16.b2
def F16.g0 (X1:IR):IR:=(iSr [iWl 1 (.box aT0),iQo 2 (.mv aC0)] (.seq (iSr [.s (.zk 0 aT1),.s (.load aS0),.s (.zk 1 aT1),.s (.load aS0),.s (.bin .neq .int aS2 aS0),.s (.mv aS0),iPf 0 (.zk 0 aT1),iPf 1 (.load aS0),iPf 2 (.bin .lss .int aS0 aC0),.s (.pick aS3 (.c (.bool true)) aS0),.s (.mv aS0),iPf 0 (.zk 0 aT1),iPf 1 (.load aS0),iPf 2 (.bin .leq .int aS0 zpe),iPf 3 (.mv aS0),iPt 0 (.zk 2 aT1),iPt 1 (.load aS0),iPt 2 (.len aS0),iPt 3 (.zk 0 aT1),iPt 4 (.load aS0),iPt 5 (.zk 0 aT1),iPt 6 (.load aS0),iPt 7 (.bin .mul .int aS2 aS0),iPt 8 (.bin .neq .int aS5 aS0),iPf 13 (.pick aS9 aS0 (.c (.bool false))),.s (.pick aS14 (.c (.bool true)) aS0),.s (.mv aS0),iPf 0 (.zk 0 aT1),iPf 1 (.load aS0),iPf 2 (.bin .gtr .int aS0 zpe),iQo 3 (.pick aS3 (.c (.bool true)) aS0)] (.cond aT3 (iSr [iQo 2 (.mv aC2)] .ret) .skip)) X1))
def F16.b0:IR:=F16.g0 F16.b1
def F16.res:List RV:=[.t (.of 2)]
def F16:Fn:={ params:=[(.of 0)],res:=F16.res,body:=F16.b0,init:=in5 }
theorem F16.ok:fnA Tryz.prog Tryz.f16 [0,1,2,33,41]=some F16:=by kernel_rfl
abbrev F17.fr:=fr3
def F17.b1:IR:=(iSr [iSm 0,iCa 54 [aS0],iQm 1 0] .ret)
def F17.g0 (X1:IR):IR:=(iSr [iQo 1 (.mv aC0)] (.seq (iSr [iSm 0,.s (.len aS0),iQo 2 (.bin .gtr .int aS0 zb2)] (.cond aT2 (iSr [iQo 1 (.mv aC5)] .ret) .skip)) X1))
def F17.b0:IR:=F17.g0 F17.b1
def F17.res:List RV:=[.t (.of 1)]
def F17:Fn:={ params:=[(.of 0)],res:=F17.res,body:=F17.b0,init:=in3 }
theorem F17.ok:fnA Tryz.prog Tryz.f17 [0,2,5]=some F17:=by kernel_rfl
abbrev F18.fr:=fr17
def F18.b1:IR:=(iSr [iSm 3,.s (.zk 2 aT1),.s (.load aS0),iCa 23 [aS2,aS0],.s (.mv aS0),.s (.ext 0 aS0),.s (.ext 1 aS1),iQm 5 1,iQm 6 0] (iSr [.w .push none (.call (.c (.fn 26 (.of 26) [])) [(.c (.str [109,97,103,105,99])),aC3]),.s (.mv aS0),.s (.ext 0 aS0),.s (.ext 1 aS1),iWl 7 (.alloc [(I 0),.zf]),.w .none none (.store 2 aT7 aS1),iQm 8 0] (iSr [.s (.zn 2 aT7),.s (.zk 2 aT1),.s (.load aS0),iCa 40 [aS2,aS0],.s (.mv aS0),.s (.ext 0 aS0),.s (.ext 1 aS1),iQm 9 1,iQm 10 0] (iSr [.w .push none (.yj 1 9 [(I 0)] [(0,1,aC3),(1,1,aC4),(2,1,aC5),(3,1,aC6),(4,1,aC7),(5,1,aC8),(6,1,aC0),(7,1,aC1),(8,1,aC2)]),.s (.build [.zf,(.bool false)] [(0,1,aS0)]),iWl 11 (.alloc [.zf,(.bool false)]),.w .none none (.store 2 aA aS0)] (iSr [.s (.zn 2 aA),.s (.zk 2 aT1),.s (.load aS0),iCa 22 [aS2,aS0],.s (.mv aS0),.s (.ext 0 aS0),.s (.ext 1 aS1),iQm 12 1,iQm 13 0] (iSr [iSm 12,.s (.build [(I 0),(I 0),.zf] [(0,1,aC3),(1,1,aC3),(2,1,aS0)]),iCa 20 [aS0],.s (.mv aS0),.s (.ext 0 aS0),.s (.ext 1 aS1),iQm 14 1,iQm 15 0] (iSr [iSm 6,iSm 8,.s (.bin .add .int aS1 aS0),iSm 10,.s (.bin .add .int aS1 aS0),iSm 13,.s (.bin .add .int aS1 aS0),iSm 15,.s (.bin .add .int aS1 aS0),.s (.bin .eql .int aS0 aC0),.s (.mv aS0),iPt 0 (.mv aT5),.w .push (some (aS1,true)) (.call (.c (.fn 56 (.of 56) [])) []),iPt 2 (.part 2 none aS0),.w .push (some (aS3,true)) (.call (.c (.fn 24 (.of 24) [])) [aS2,aS0]),.s (.pick aS4 aS0 (.c (.bool false))),.s (.mv aS0),iPt 0 (.mv aT9),.s (.pick aS1 aS0 (.c (.bool false))),.s (.mv aS0),iPt 0 (.mv aT14),iPt 1 (.len aS0),iPt 2 (.bin .eql .int aS0 aC2),.s (.pick aS3 aS0 (.c (.bool false))),.s (.mv aS0),iPt 0 (.mv aT14),iPt 1 (.zu 1 aS0 aC0),iPt 2 (.load aS0),iPt 3 (.bin .eql .str aS0 (.c (.str [110,111,114,109,97,108]))),.s (.pick aS4 aS0 (.c (.bool false))),.s (.mv aS0),iPt 0 (.mv aT14),iPt 1 (.zu 1 aS0 aC1),iPt 2 (.load aS0),iPt 3 (.bin .eql .str aS0 (.c (.str [115,101,109,105,109,97,103,105,99]))),.s (.pick aS4 aS0 (.c (.bool false))),iQm 0 0] .ret)))))))
def F18.g0 (X1:IR):IR:=(iSr [iQo 0 (.mv (.c (.bool false)))] (iSr [iCa 55 [aC3],.s (.mv aS0),.s (.ext 0 aS0),.s (.ext 1 aS1),iWl 1 (.alloc [(I 0),(I 0),.zf]),.w .none none (.store 3 aT1 aS1),iQm 2 0] (iSr [iCa 19 [aC3],.s (.mv aS0),.s (.ext 0 aS0),.s (.ext 1 aS1),iQm 3 1,iQm 4 0] (.seq (iSr [iSm 2,iSm 4,.s (.bin .add .int aS1 aS0),.s (.bin .neq .int aS0 aC0),.s (.mv aS0),iPf 0 (.zk 2 aT1),iPf 1 (.load aS0),iPf 2 (.len aS0),iPf 3 (.bin .neq .int aS0 aC9),.s (.pick aS4 (.c (.bool true)) aS0),.s (.mv aS0),iPf 0 (.mv aT3),iPf 1 (.len aS0),iPf 2 (.bin .neq .int aS0 aC8),iQo 16 (.pick aS3 (.c (.bool true)) aS0)] (.cond aT16 (iSr [iQo 0 (.mv (.c (.bool false)))] .ret) .skip)) X1))))
def F18.b0:IR:=F18.g0 F18.b1
def F18.res:List RV:=[.t (.of 0)]
def F18:Fn:={ params:=[],res:=F18.res,body:=F18.b0,init:=in17 }
theorem F18.ok:fnA Tryz.prog Tryz.f18 [0,1,2,3,4,5,6,7,8,9,10,11,12,13,14,15,38]=some F18:=by kernel_rfl
abbrev F19.fr:=fr10
def F19.b7:IR:=(iSr [iSm 8,iWl 6 (.alloc [(I 0)]),.w .none none (.store 1 aT6 aS0)] (.reg [iSm 5,.s (.load aT1),.s (.fn 59 (.of 59) [aT6,aT1]),iCa 58 [aS2,aS1,aS0]]))
def F19.g6 (X7:IR):IR:=(.block 1 X7)
def F19.b6:IR:=F19.g6 F19.b7
def F19.b8:IR:=(.reg [.s (.bin .add .int aT8 aC1),iQm 8 0])
def F19.g5 (X6 X8:IR):IR:=(.seq X6 X8)
def F19.b5:IR:=F19.g5 F19.b6 F19.b8
def F19.g4 (X5:IR):IR:=(iSr [iQo 9 (.bin .lss .int aT8 aC8)] (.seq (.cond aT9 .skip (.exit 0)) X5))
def F19.b4:IR:=F19.g4 F19.b5
def F19.g3 (X4:IR):IR:=(.loop X4)
def F19.b3:IR:=F19.g3 F19.b4
def F19.g2 (X3:IR):IR:=(.block 0 X3)
def F19.b2:IR:=F19.g2 F19.b3
def F19.b9:IR:=(iSr [iSm 5,iCa 60 [aS0],iQm 2 0,iQo 3 (.mv aC0)] .ret)
def F19.g1 (X2 X9:IR):IR:=(iSr [.w .push none .au,iQm 5 0] (.seq (iSr [iQo 8 (.mv aC0)] X2) X9))
def F19.b1:IR:=F19.g1 F19.b2 F19.b9
def F19.g0 (X1:IR):IR:=(iSr [iWl 1 (.box aT0),iQo 2 (.mv (.c .zf)),iQo 3 (.mv aC0)] (.seq (iSr [.s (.load aT1),iCa 57 [aS0],iQm 4 0] (iSr [iSm 4,iQo 7 (.bin .neq .int aS0 aC0)] (.cond aT7 (iSr [iSm 4,iQo 2 (.mv (.c .zf)),iQm 3 0] .ret) .skip))) X1))
def F19.b0:IR:=F19.g0 F19.b1
def F19.res:List RV:=[.t (.of 2),.t (.of 3)]
def F19:Fn:={ params:=[(.of 0)],res:=F19.res,body:=F19.b0,init:=in10 }
theorem F19.ok:fnA Tryz.prog Tryz.f19 [0,1,2,3,4,5,6,10,13,14]=some F19:=by kernel_rfl
abbrev F20.fr:=fr13
def F20.b7:IR:=(iSr [.s (.zu 2 aT8 sJ),.s (.zn 2 aS0),iWl 6 (.alloc [(.str []),.dh]),.w .none none (.store 2 aT6 aS0)] (.seq (.yh [] [(.s (.zk 1 aT6),1,[]),(.s (.load aS0),1,[]),(.s (.zk 0 aT1),1,[]),(.s (.load aS0),1,[]),(.s (.zk 2 aT1),0,[]),(.s (.load aS0),0,[]),(iCa 48 [aS0],0,[]),(.s (.build [(I 0),.zf] [(0,1,aS3),(1,1,aS0)]),0,[]),(iWl 12 (.call aS6 [aS0]),0,[])]) (.cond oD (.reg [iSm 5,.s (.zk 0 aT6),.s (.load aS0),.w .push none (.yj 1 1 [(.str [])] [(0,1,aS0)]),.w .push none (.app 1 16 aS3 aS0),iQm 5 0]) .skip)))
def F20.g6 (X7:IR):IR:=(.block 1 X7)
def F20.b6:IR:=F20.g6 F20.b7
def F20.b8:IR:=(.reg [.s (.bin .add .int sJ aC1),iQm 10 0])
def F20.g5 (X6 X8:IR):IR:=(.seq X6 X8)
def F20.b5:IR:=F20.g5 F20.b6 F20.b8
def F20.g4 (X5:IR):IR:=(iSr [iQo 11 (.bin .lss .int sJ aT9)] (.seq (.cond aA .skip (.exit 0)) X5))
def F20.b4:IR:=F20.g4 F20.b5
def F20.g3 (X4:IR):IR:=(.loop X4)
def F20.b3:IR:=F20.g3 F20.b4
def F20.g2 (X3:IR):IR:=(.block 0 X3)
def F20.b2:IR:=F20.g2 F20.b3
def F20.b9:IR:=(iSr [iSm 5,iQm 2 0,iQo 3 (.mv aC0)] .ret)
def F20.g1 (X2 X9:IR):IR:=(iSr [iQo 5 (.mv (.c .zf))] (.seq (iSr [iWl 8 (.call (.c (.fn 62 (.of 62) [])) []),iQo 9 (.len aT8),iQo 10 (.mv aC0)] X2) X9))
def F20.b1:IR:=F20.g1 F20.b2 F20.b9
def F20.g0 (X1:IR):IR:=(iSr [iWl 1 (.box aT0),iQo 2 (.mv (.c .zf)),iQo 3 (.mv aC0)] (.seq (iSr [.s (.zn 3 aT1),iCa 61 [aS0],iQm 4 0] (iSr [iSm 4,iQo 7 (.bin .neq .int aS0 aC0)] (.cond aT7 (iSr [iSm 4,iQo 2 (.mv (.c .zf)),iQm 3 0] .ret) .skip))) X1))
def F20.b0:IR:=F20.g0 F20.b1
def F20.res:List RV:=[.t (.of 2),.t (.of 3)]
def F20:Fn:={ params:=[(.of 0)],res:=F20.res,body:=F20.b0,init:=in13 }
theorem F20.ok:fnA Tryz.prog Tryz.f20 [0,1,2,3,4,5,7,11,13,14,15,16,27]=some F20:=by kernel_rfl
abbrev F21.fr:=fr4
def F21.b0:IR:=(iSr [iQo 3 (.mv (.c (.bool false)))] (iSr [iSm 0,.s (.len aS0),iSm 2,.s (.bin .leq .int aS1 aS0),.s (.mv aS0),iPt 0 (.mv aT1),iPt 1 (.bin .leq .int aS0 aC16),.s (.pick aS2 aS0 (.c (.bool false))),.s (.mv aS0),iPt 0 (.mv aT0),iPt 1 (.mv aT1),.w .push (some (aS2,true)) (.call (.c (.fn 31 (.of 31) [])) [aS1,aS0]),iPt 3 (.bin .eql .int aS0 aC0),.s (.pick aS4 aS0 (.c (.bool false))),iQm 3 0] .ret))
def F21.res:List RV:=[.t (.of 3)]
def F21:Fn:={ params:=[(.of 0),(.of 1),(.of 2)],res:=F21.res,body:=F21.b0,init:=in4 }
theorem F21.ok:fnA Tryz.prog Tryz.f21 [0,1,2,6]=some F21:=by kernel_rfl
abbrev F22.fr:=fr11
def F22.b3:IR:=(iSr [iSm 7,iQm 3 0,iQo 4 (.mv aC0)] .ret)
def F22.g2 (X3:IR):IR:=(iSr [.s (.zn 2 aT2),iSm 1,iCa 65 [aS1,aS0],iQm 7 0] (.seq (iSr [iSm 7,iWl 10 (.call (.c (.fn 66 (.of 66) [])) [aS0,(.c (.fn 67 (.of 67) []))])] (.cond sJ (iSr [iQo 3 (.mv (.c .zf)),iQo 4 (.mv aC3)] .ret) .skip)) X3))
def F22.b2:IR:=F22.g2 F22.b3
def F22.g1 (X2:IR):IR:=(.seq (iSr [.s (.zn 2 aT2),iSm 1,.s (.len aS0),iCa 64 [aS2,aS0],iQm 6 0] (iSr [iSm 6,iQo 9 (.bin .neq .int aS0 aC0)] (.cond aT9 (iSr [iSm 6,iQo 3 (.mv (.c .zf)),iQm 4 0] .ret) .skip))) X2)
def F22.b1:IR:=F22.g1 F22.b2
def F22.g0 (X1:IR):IR:=(iSr [iWl 2 (.box aT0),iQo 3 (.mv (.c .zf)),iQo 4 (.mv aC0)] (.seq (iSr [iSm 1,iCa 63 [aS0],iQm 5 0] (iSr [iSm 5,iQo 8 (.bin .neq .int aS0 aC0)] (.cond aT8 (iSr [iSm 5,iQo 3 (.mv (.c .zf)),iQm 4 0] .ret) .skip))) X1))
def F22.b0:IR:=F22.g0 F22.b1
def F22.res:List RV:=[.t (.of 3),.t (.of 4)]
def F22:Fn:={ params:=[(.of 0),(.of 1)],res:=F22.res,body:=F22.b0,init:=in11 }
theorem F22.ok:fnA Tryz.prog Tryz.f22 [0,1,2,4,5,6,7,8,12,19,25]=some F22:=by kernel_rfl
abbrev F23.fr:=fr7
def F23.b1:IR:=(iSr [iSm 4,.s (.zu 1 aS0 aC0),.s (.load aS0),iQm 2 0,iQo 3 (.mv aC0)] .ret)
def F23.g0 (X1:IR):IR:=(iSr [iQo 2 (.mv (.c .zf)),iQo 3 (.mv aC0)] (iSr [iSm 0,iSm 1,iCa 68 [aS1,aS0],.s (.mv aS0),.s (.ext 0 aS0),.s (.ext 1 aS1),iQm 4 1,iQm 5 0] (.seq (iSr [iSm 5,iQo 6 (.bin .neq .int aS0 aC0)] (.cond aT6 (iSr [iSm 5,iQo 2 (.mv (.c .zf)),iQm 3 0] .ret) .skip)) X1)))
def F23.b0:IR:=F23.g0 F23.b1
def F23.res:List RV:=[.t (.of 2),.t (.of 3)]
def F23:Fn:={ params:=[(.of 0),(.of 1)],res:=F23.res,body:=F23.b0,init:=in7 }
theorem F23.ok:fnA Tryz.prog Tryz.f23 [0,1,4,5,6,7,15]=some F23:=by kernel_rfl
abbrev F24.fr:=fr7
def F24.b7:IR:=(.seq (.yh [] [(iSm 0,0,[]),(iSm 3,0,[]),(.s (.zu 1 aS1 aS0),0,[]),(.s (.load aS0),0,[]),(iSm 1,0,[]),(iSm 3,0,[]),(.s (.zu 1 aS1 aS0),0,[]),(.s (.load aS0),0,[]),(iQo 6 (.bin .neq .int aS4 aS0),0,[])]) (.cond aT6 (iSr [iQo 2 (.mv (.c (.bool false)))] .ret) .skip))
def F24.g6 (X7:IR):IR:=(.block 1 X7)
def F24.b6:IR:=F24.g6 F24.b7
def F24.b8:IR:=(.reg [iSm 3,.s (.bin .add .int aS0 aC1),iQm 3 0])
def F24.g5 (X6 X8:IR):IR:=(.seq X6 X8)
def F24.b5:IR:=F24.g5 F24.b6 F24.b8
def F24.g4 (X5:IR):IR:=(.seq (iSr [iSm 3,iSm 0,.s (.len aS0),iQo 5 (.bin .lss .int aS2 aS0)] (.cond aT5 .skip (.exit 0))) X5)
def F24.b4:IR:=F24.g4 F24.b5
def F24.g3 (X4:IR):IR:=(.loop X4)
def F24.b3:IR:=F24.g3 F24.b4
def F24.g2 (X3:IR):IR:=(.block 0 X3)
def F24.b2:IR:=F24.g2 F24.b3
def F24.b9:IR:=(iSr [iQo 2 (.mv (.c (.bool true)))] .ret)
def F24.g1 (X2 X9:IR):IR:=(.seq (iSr [iQo 3 (.mv aC0)] X2) X9)
def F24.b1:IR:=F24.g1 F24.b2 F24.b9
def F24.g0 (X1:IR):IR:=(iSr [iQo 2 (.mv (.c (.bool false)))] (.seq (iSr [iSm 0,.s (.len aS0),iSm 1,.s (.len aS0),iQo 4 (.bin .neq .int aS2 aS0)] (.cond aT4 (iSr [iQo 2 (.mv (.c (.bool false)))] .ret) .skip)) X1))
def F24.b0:IR:=F24.g0 F24.b1
def F24.res:List RV:=[.t (.of 2)]
def F24:Fn:={ params:=[(.of 0),(.of 1)],res:=F24.res,body:=F24.b0,init:=in7 }
theorem F24.ok:fnA Tryz.prog Tryz.f24 [0,1,4,5,10,14,25]=some F24:=by kernel_rfl
abbrev F25.fr:=fr9
def F25.b7:IR:=(iSr [iSm 6,iQm 3 0] (.seq (.yh [] [(iSm 0,0,[]),(iSm 3,0,[]),(.s (.zu 1 aS1 aS0),0,[]),(.s (.load aS0),0,[]),(iSm 1,0,[]),(iSm 3,0,[]),(.s (.zu 1 aS1 aS0),0,[]),(.s (.load aS0),0,[]),(iQo 8 (.bin .neq .str aS4 aS0),0,[])]) (.cond aT8 (iSr [iQo 2 (.mv (.c (.bool false)))] .ret) .skip)))
def F25.g6 (X7:IR):IR:=(.block 1 X7)
def F25.b6:IR:=F25.g6 F25.b7
def F25.b8:IR:=(.reg [.s (.bin .add .int aT6 aC1),iQm 6 0])
def F25.g5 (X6 X8:IR):IR:=(.seq X6 X8)
def F25.b5:IR:=F25.g5 F25.b6 F25.b8
def F25.g4 (X5:IR):IR:=(iSr [iQo 7 (.bin .lss .int aT6 aT5)] (.seq (.cond aT7 .skip (.exit 0)) X5))
def F25.b4:IR:=F25.g4 F25.b5
def F25.g3 (X4:IR):IR:=(.loop X4)
def F25.b3:IR:=F25.g3 F25.b4
def F25.g2 (X3:IR):IR:=(.block 0 X3)
def F25.b2:IR:=F25.g2 F25.b3
def F25.b9:IR:=(iSr [iQo 2 (.mv (.c (.bool true)))] .ret)
def F25.g1 (X2 X9:IR):IR:=(.seq (iSr [iSm 0,iQo 5 (.len aS0),iQo 6 (.mv aC0)] X2) X9)
def F25.b1:IR:=F25.g1 F25.b2 F25.b9
def F25.g0 (X1:IR):IR:=(iSr [iQo 2 (.mv (.c (.bool false)))] (.seq (iSr [iSm 0,.s (.len aS0),iSm 1,.s (.len aS0),iQo 4 (.bin .neq .int aS2 aS0)] (.cond aT4 (iSr [iQo 2 (.mv (.c (.bool false)))] .ret) .skip)) X1))
def F25.b0:IR:=F25.g0 F25.b1
def F25.res:List RV:=[.t (.of 2)]
def F25:Fn:={ params:=[(.of 0),(.of 1)],res:=F25.res,body:=F25.b0,init:=in9 }
theorem F25.ok:fnA Tryz.prog Tryz.f25 [0,1,4,5,10,12,13,14,24]=some F25:=by kernel_rfl
abbrev F26.fr:=fr7
def F26.b1:IR:=(iSr [iSm 0,iSm 1,iCa 71 [aS1,aS0],.w .none none (.store 2 aT2 aS0),iQo 3 (.mv aC0)] .ret)
def F26.g0 (X1:IR):IR:=(iSr [iWl 2 (.alloc [(I 0),.zf]),iQo 3 (.mv aC0)] (iSr [.w .push none (.yj 1 3 [(.str [])] [(0,1,(.c (.str [115,101,109,105,109,97,103,105,99]))),(1,1,(.c (.str [109,97,103,105,99]))),(2,1,(.c (.str [112,97,110,100,105,97,103,111,110,97,108])))]),iSm 0,iCa 69 [aS1,aS0],iQm 4 0] (.seq (iSr [iSm 4,.s (.not aS0),iCa 44 [aS0,aC13],iSm 1,.w .push none (.yj 1 1 [(I 0)] [(0,1,aS0)]),iCa 70 [aC1,aC16,aS0],.w .push none (.yj 1 2 [(I 0)] [(0,1,aS3),(1,1,aS0)]),iCa 42 [aS0],iQm 5 0] (iSr [iSm 5,iQo 6 (.bin .neq .int aS0 aC0)] (.cond aT6 (iSr [.s (.build [(I 0),.zf] []),iSm 5,.w .none none (.store 2 aT2 aS1),iQm 3 0] .ret) .skip))) X1)))
def F26.b0:IR:=F26.g0 F26.b1
def F26.res:List RV:=[.cell (.of 2) (some 2),.t (.of 3)]
def F26:Fn:={ params:=[(.of 0),(.of 1)],res:=F26.res,body:=F26.b0,init:=in7 }
theorem F26.ok:fnA Tryz.prog Tryz.f26 [0,1,4,5,6,7,20]=some F26:=by kernel_rfl
abbrev F27.fr:=fr15
def F27.b7:IR:=(iSr [.s (.zu 1 sJ oD),.s (.load aS0),iQm 8 0] (iSr [iSm 7,.s (.zk 0 aT3),.s (.load aS0),iSm 8,.w .push none (.call aS3 [aS1,aS0]),iQo 14 (.not aS0)] (.cond aT14 (iSr [iQo 4 (.mv (.c (.bool false))),iQo 5 (.mv aC0)] .ret) .skip)))
def F27.g6 (X7:IR):IR:=(.block 1 X7)
def F27.b6:IR:=F27.g6 F27.b7
def F27.b8:IR:=(.reg [.s (.bin .add .int oD aC1),iQm 12 0])
def F27.g5 (X6 X8:IR):IR:=(.seq X6 X8)
def F27.b5:IR:=F27.g5 F27.b6 F27.b8
def F27.g4 (X5:IR):IR:=(iSr [iQo 13 (.bin .lss .int oD aA)] (.seq (.cond eX .skip (.exit 0)) X5))
def F27.b4:IR:=F27.g4 F27.b5
def F27.g3 (X4:IR):IR:=(.loop X4)
def F27.b3:IR:=F27.g3 F27.b4
def F27.g2 (X3:IR):IR:=(.block 0 X3)
def F27.b2:IR:=F27.g2 F27.b3
def F27.b9:IR:=(iSr [iQo 4 (.mv (.c (.bool true))),iQo 5 (.mv aC0)] .ret)
def F27.g1 (X2 X9:IR):IR:=(iSr [.s (.zn 2 aT2),iCa 74 [aS0],iQm 7 0] (.seq (iSr [.s (.zk 1 aT2),iQo 10 (.load aS0),iQo 11 (.len sJ),iQo 12 (.mv aC0)] X2) X9))
def F27.b1:IR:=F27.g1 F27.b2 F27.b9
def F27.g0 (X1:IR):IR:=(iSr [iWl 2 (.box aT0),iWl 3 (.box aT1),iQo 4 (.mv (.c (.bool false))),iQo 5 (.mv aC0)] (.seq (.seq (.yh [] [(.s (.zn 2 aT2),0,[]),(.s (.zn 2 aT3),1,[]),(.s (.zk 0 aT2),1,[]),(.s (.load aS0),1,[]),(iCa 73 [aS3],0,[]),(iCa 64 [aS3,aS1],0,[]),(.w .push none (.yj 1 2 [(I 0)] [(0,1,aS1),(1,1,aS0)]),0,[]),(iCa 72 [aS0],0,[]),(iQm 6 0,0,[])]) (iSr [iSm 6,iQo 9 (.bin .neq .int aS0 aC0)] (.cond aT9 (iSr [iSm 6,iQo 4 (.mv (.c (.bool false))),iQm 5 0] .ret) .skip))) X1))
def F27.b0:IR:=F27.g0 F27.b1
def F27.res:List RV:=[.t (.of 4),.t (.of 5)]
def F27:Fn:={ params:=[(.of 0),(.of 1)],res:=F27.res,body:=F27.b0,init:=in15 }
theorem F27.ok:fnA Tryz.prog Tryz.f27 [0,1,2,3,4,5,6,7,9,19,24,25,26,27,35]=some F27:=by kernel_rfl
abbrev F28.fr:=fr8
def F28.b6:IR:=(iSr [iSm 5,iQm 3 0] (iSr [iSm 0,iSm 3,.s (.zu 1 aS1 aS0),.s (.load aS0),iSm 1,iQo 7 (.bin .eql .str aS1 aS0)] (.cond aT7 (iSr [iQo 2 (.mv (.c (.bool true)))] .ret) .skip)))
def F28.g5 (X6:IR):IR:=(.block 1 X6)
def F28.b5:IR:=F28.g5 F28.b6
def F28.b7:IR:=(.reg [.s (.bin .add .int aT5 aC1),iQm 5 0])
def F28.g4 (X5 X7:IR):IR:=(.seq X5 X7)
def F28.b4:IR:=F28.g4 F28.b5 F28.b7
def F28.g3 (X4:IR):IR:=(iSr [iQo 6 (.bin .lss .int aT5 aT4)] (.seq (.cond aT6 .skip (.exit 0)) X4))
def F28.b3:IR:=F28.g3 F28.b4
def F28.g2 (X3:IR):IR:=(.loop X3)
def F28.b2:IR:=F28.g2 F28.b3
def F28.g1 (X2:IR):IR:=(.block 0 X2)
def F28.b1:IR:=F28.g1 F28.b2
def F28.b8:IR:=(iSr [iQo 2 (.mv (.c (.bool false)))] .ret)
def F28.g0 (X1 X8:IR):IR:=(iSr [iQo 2 (.mv (.c (.bool false)))] (.seq (iSr [iSm 0,iQo 4 (.len aS0),iQo 5 (.mv aC0)] X1) X8))
def F28.b0:IR:=F28.g0 F28.b1 F28.b8
def F28.res:List RV:=[.t (.of 2)]
def F28:Fn:={ params:=[(.of 0),(.of 1)],res:=F28.res,body:=F28.b0,init:=in8 }
theorem F28.ok:fnA Tryz.prog Tryz.f28 [0,1,4,5,7,8,9,16]=some F28:=by kernel_rfl
abbrev F31.fr:=fr18
def F31.b9:IR:=(iSr [iSm 0,iSm 3,.s (.zu 2 aS1 aS0),.s (.zn 2 aS0),iSm 1,iCa 80 [aS1,aS0],iQm 4 0] (iSr [iSm 4,iQo 12 (.bin .neq .int aS0 aC0)] (.cond oD (iSr [iSm 4,iQm 2 0] .ret) .skip)))
def F31.g8 (X9:IR):IR:=(.block 1 X9)
def F31.b8:IR:=F31.g8 F31.b9
def F31.b10:IR:=(.reg [iSm 3,.s (.bin .add .int aS0 aC1),iQm 3 0])
def F31.g7 (X8 X10:IR):IR:=(.seq X8 X10)
def F31.b7:IR:=F31.g7 F31.b8 F31.b10
def F31.g6 (X7:IR):IR:=(.seq (iSr [iSm 3,iSm 0,.s (.len aS0),iQo 11 (.bin .lss .int aS2 aS0)] (.cond aA .skip (.exit 0))) X7)
def F31.b6:IR:=F31.g6 F31.b7
def F31.g5 (X6:IR):IR:=(.loop X6)
def F31.b5:IR:=F31.g5 F31.b6
def F31.g4 (X5:IR):IR:=(.block 0 X5)
def F31.b4:IR:=F31.g4 F31.b5
def F31.b17:IR:=(.seq (.yh [] [(iSm 0,0,[]),(iSm 5,0,[]),(.s (.bin .sub .int aS0 aC1),0,[]),(.s (.zu 2 aS2 aS0),0,[]),(.s (.zn 2 aS0),0,[]),(iSm 0,0,[]),(iSm 5,0,[]),(.s (.zu 2 aS1 aS0),0,[]),(.s (.zn 2 aS0),0,[]),(iCa 81 [aS4,aS0],0,[]),(iQo 14 (.not aS0),0,[])]) (.cond aT14 (iSr [iQo 2 (.mv aC11)] .ret) .skip))
def F31.g16 (X17:IR):IR:=(.block 3 X17)
def F31.b16:IR:=F31.g16 F31.b17
def F31.b18:IR:=(.reg [iSm 5,.s (.bin .add .int aS0 aC1),iQm 5 0])
def F31.g15 (X16 X18:IR):IR:=(.seq X16 X18)
def F31.b15:IR:=F31.g15 F31.b16 F31.b18
def F31.g14 (X15:IR):IR:=(.seq (iSr [iSm 5,iSm 0,.s (.len aS0),iQo 13 (.bin .lss .int aS2 aS0)] (.cond eX .skip (.exit 2))) X15)
def F31.b14:IR:=F31.g14 F31.b15
def F31.g13 (X14:IR):IR:=(.loop X14)
def F31.b13:IR:=F31.g13 F31.b14
def F31.g12 (X13:IR):IR:=(.block 2 X13)
def F31.b12:IR:=F31.g12 F31.b13
def F31.b31:IR:=(.seq (.yh [] [(iSm 0,1,[]),(iSm 0,0,[]),(iSm 6,0,[]),(.s (.zu 2 aS1 aS0),0,[]),(.s (.zn 2 aS0),0,[]),(iSm 0,0,[]),(iSm 7,0,[]),(.s (.zu 2 aS1 aS0),0,[]),(.s (.zn 2 aS0),0,[]),(iCa 83 [aS4,aS0],0,[]),(iCa 82 [aS9,aS0],0,[]),(iQo 17 (.bin .lss .int aS0 aC0),0,[])]) (.cond aT17 (iSr [iQo 2 (.mv aC28)] .ret) .skip))
def F31.g30 (X31:IR):IR:=(.block 7 X31)
def F31.b30:IR:=F31.g30 F31.b31
def F31.b32:IR:=(.reg [iSm 7,.s (.bin .add .int aS0 aC1),iQm 7 0])
def F31.g29 (X30 X32:IR):IR:=(.seq X30 X32)
def F31.b29:IR:=F31.g29 F31.b30 F31.b32
def F31.g28 (X29:IR):IR:=(.seq (iSr [iSm 7,iSm 0,.s (.len aS0),iQo 16 (.bin .lss .int aS2 aS0)] (.cond aT16 .skip (.exit 6))) X29)
def F31.b28:IR:=F31.g28 F31.b29
def F31.g27 (X28:IR):IR:=(.loop X28)
def F31.b27:IR:=F31.g27 F31.b28
def F31.g26 (X27:IR):IR:=(.block 6 X27)
def F31.b26:IR:=F31.g26 F31.b27
def F31.g25 (X26:IR):IR:=(iSr [iQo 7 (.mv aC0)] X26)
def F31.b25:IR:=F31.g25 F31.b26
def F31.g24 (X25:IR):IR:=(.block 5 X25)
def F31.b24:IR:=F31.g24 F31.b25
def F31.b33:IR:=(.reg [iSm 6,.s (.bin .add .int aS0 aC1),iQm 6 0])
def F31.g23 (X24 X33:IR):IR:=(.seq X24 X33)
def F31.b23:IR:=F31.g23 F31.b24 F31.b33
def F31.g22 (X23:IR):IR:=(.seq (iSr [iSm 6,iSm 0,.s (.len aS0),iQo 15 (.bin .lss .int aS2 aS0)] (.cond aT15 .skip (.exit 4))) X23)
def F31.b22:IR:=F31.g22 F31.b23
def F31.g21 (X22:IR):IR:=(.loop X22)
def F31.b21:IR:=F31.g21 F31.b22
def F31.g20 (X21:IR):IR:=(.block 4 X21)
def F31.b20:IR:=F31.g20 F31.b21
def F31.b34:IR:=(iSr [iQo 2 (.mv aC0)] .ret)
def F31.g19 (X20 X34:IR):IR:=(.seq (iSr [iQo 6 (.mv aC0)] X20) X34)
def F31.b19:IR:=F31.g19 F31.b20 F31.b34
def F31.g11 (X12 X19:IR):IR:=(.seq (iSr [iQo 5 (.mv aC1)] X12) X19)
def F31.b11:IR:=F31.g11 F31.b12 F31.b19
def F31.g3 (X4 X11:IR):IR:=(.seq (iSr [iQo 3 (.mv aC0)] X4) X11)
def F31.b3:IR:=F31.g3 F31.b4 F31.b11
def F31.g2 (X3:IR):IR:=(.seq (iSr [iSm 0,.s (.len aS0),iQo 10 (.bin .gtr .int aS0 zpf)] (.cond sJ (iSr [iQo 2 (.mv aC5)] .ret) .skip)) X3)
def F31.b2:IR:=F31.g2 F31.b3
def F31.g1 (X2:IR):IR:=(.seq (iSr [iSm 0,.s (.len aS0),iQo 9 (.bin .eql .int aS0 aC0)] (.cond aT9 (iSr [iQo 2 (.mv aC12)] .ret) .skip)) X2)
def F31.b1:IR:=F31.g1 F31.b2
def F31.g0 (X1:IR):IR:=(iSr [iQo 2 (.mv aC0)] (.seq (iSr [iSm 1,iCa 79 [aS0],iQo 8 (.bin .neq .int aS0 aC0)] (.cond aT8 (iSr [iQo 2 (.mv aC3)] .ret) .skip)) X1))
def F31.b0:IR:=F31.g0 F31.b1
def F31.res:List RV:=[.t (.of 2)]
def F31:Fn:={ params:=[(.of 0),(.of 1)],res:=F31.res,body:=F31.b0,init:=in18 }
theorem F31.ok:fnA Tryz.prog Tryz.f31 [0,1,4,5,6,7,8,9,12,15,18,22,32,37,50,54,60,74]=some F31:=by kernel_rfl
abbrev F40.fr:=fr7
def F40.b1:IR:=(iSr [.s (.zn 2 aT2),iSm 1,iCa 98 [aS1,aS0],.s (.bin .lss .int aS0 aC0),iQm 3 0,iQo 4 (.mv aC0)] .ret)
def F40.g0 (X1:IR):IR:=(iSr [iWl 2 (.box aT0),iQo 3 (.mv (.c (.bool false))),iQo 4 (.mv aC0)] (.seq (iSr [.s (.zn 2 aT2),iSm 1,iCa 97 [aS1,aS0],iQm 5 0] (iSr [iSm 5,iQo 6 (.bin .neq .int aS0 aC0)] (.cond aT6 (iSr [iSm 5,iQo 3 (.mv (.c (.bool false))),iQm 4 0] .ret) .skip))) X1))
def F40.b0:IR:=F40.g0 F40.b1
def F40.res:List RV:=[.t (.of 3),.t (.of 4)]
def F40:Fn:={ params:=[(.of 0),(.of 1)],res:=F40.res,body:=F40.b0,init:=in7 }
theorem F40.ok:fnA Tryz.prog Tryz.f40 [0,1,2,4,5,6,11]=some F40:=by kernel_rfl
abbrev F42.fr:=fr8
def F42.b6:IR:=(iSr [.s (.zu 1 aT3 aT5),.s (.load aS0),iQm 2 0] (iSr [iSm 2,iQo 7 (.bin .neq .int aS0 aC0)] (.cond aT7 (iSr [iSm 2,iQm 1 0] .ret) .skip)))
def F42.g5 (X6:IR):IR:=(.block 1 X6)
def F42.b5:IR:=F42.g5 F42.b6
def F42.b7:IR:=(.reg [.s (.bin .add .int aT5 aC1),iQm 5 0])
def F42.g4 (X5 X7:IR):IR:=(.seq X5 X7)
def F42.b4:IR:=F42.g4 F42.b5 F42.b7
def F42.g3 (X4:IR):IR:=(iSr [iQo 6 (.bin .lss .int aT5 aT4)] (.seq (.cond aT6 .skip (.exit 0)) X4))
def F42.b3:IR:=F42.g3 F42.b4
def F42.g2 (X3:IR):IR:=(.loop X3)
def F42.b2:IR:=F42.g2 F42.b3
def F42.g1 (X2:IR):IR:=(.block 0 X2)
def F42.b1:IR:=F42.g1 F42.b2
def F42.b8:IR:=(iSr [iQo 1 (.mv aC0)] .ret)
def F42.g0 (X1 X8:IR):IR:=(iSr [iQo 1 (.mv aC0)] (.seq (iSr [iQo 3 (.mv aT0),iQo 4 (.len aT3),iQo 5 (.mv aC0)] X1) X8))
def F42.b0:IR:=F42.g0 F42.b1 F42.b8
def F42.res:List RV:=[.t (.of 1)]
def F42:Fn:={ params:=[(.of 0)],res:=F42.res,body:=F42.b0,init:=in8 }
theorem F42.ok:fnA Tryz.prog Tryz.f42 [0,2,4,5,6,7,8,12]=some F42:=by kernel_rfl
abbrev F44.fr:=fr4
def F44.b1:IR:=(iSr [iQo 2 (.mv aC0)] .ret)
def F44.g0 (X1:IR):IR:=(iSr [iQo 2 (.mv aC0)] (.seq (iSr [iQo 3 (.mv aT0)] (.cond aT3 (iSr [iSm 1,iQm 2 0] .ret) .skip)) X1))
def F44.b0:IR:=F44.g0 F44.b1
def F44.res:List RV:=[.t (.of 2)]
def F44:Fn:={ params:=[(.of 0),(.of 1)],res:=F44.res,body:=F44.b0,init:=in4 }
theorem F44.ok:fnA Tryz.prog Tryz.f44 [0,1,4,5]=some F44:=by kernel_rfl
abbrev F45.fr:=fr12
def F45.b6:IR:=(iSr [.s (.zu 1 aT7 aT9),.s (.load aS0),iQm 5 0] (iSr [iSm 5,iCa 102 [aS0],iCa 101 [aS0],iQm 5 0] (iSr [iSm 5,iCa 103 [aS0],iQm 6 0] (iSr [iSm 3,iSm 6,.s (.look .str (.bool false) false aS1 aS0),iQo 11 (.not aS0)] (.cond aA (iSr [iSm 3,iSm 6,.w .none none (.zao .str aS1 aS0 (.c (.bool true)))] (.reg [.s (.zk 1 aT4),.s (.load aS0),iSm 5,.w .push none (.yj 1 1 [.zf] [(0,1,aS0)]),.w .push none (.app 1 24 aS2 aS0),.s (.zk 1 aT4),.w .none none (.store 1 aS0 aS1)])) .skip)))))
def F45.g5 (X6:IR):IR:=(.block 1 X6)
def F45.b5:IR:=F45.g5 F45.b6
def F45.b7:IR:=(.reg [.s (.bin .add .int aT9 aC1),iQm 9 0])
def F45.g4 (X5 X7:IR):IR:=(.seq X5 X7)
def F45.b4:IR:=F45.g4 F45.b5 F45.b7
def F45.g3 (X4:IR):IR:=(iSr [iQo 10 (.bin .lss .int aT9 aT8)] (.seq (.cond sJ .skip (.exit 0)) X4))
def F45.b3:IR:=F45.g3 F45.b4
def F45.g2 (X3:IR):IR:=(.loop X3)
def F45.b2:IR:=F45.g2 F45.b3
def F45.g1 (X2:IR):IR:=(.block 0 X2)
def F45.b1:IR:=F45.g1 F45.b2
def F45.b8:IR:=(iSr [.s (.zn 2 aT4),.w .none none (.store 2 aT2 aS0)] .ret)
def F45.g0 (X1 X8:IR):IR:=(iSr [iWl 2 (.alloc [(I 0),.zf])] (iSr [.w .push none .au,iQm 3 0] (iSr [iSm 0,.s (.build [(I 0),.zf] [(0,1,aS0)]),iWl 4 (.alloc [(I 0),.zf]),.w .none none (.store 2 aT4 aS0)] (.seq (iSr [iQo 7 (.mv aT1),iQo 8 (.len aT7),iQo 9 (.mv aC0)] X1) X8))))
def F45.b0:IR:=F45.g0 F45.b1 F45.b8
def F45.res:List RV:=[.cell (.of 2) (some 2)]
def F45:Fn:={ params:=[(.of 0),(.of 1)],res:=F45.res,body:=F45.b0,init:=in12 }
theorem F45.ok:fnA Tryz.prog Tryz.f45 [0,1,4,5,6,8,9,13,14,15,16,27]=some F45:=by kernel_rfl
abbrev F48.fr:=fr3
def F48.b1:IR:=(iSr [.w .push none (.yj 1 0 [(I 0)] []),iSm 0,.w .push none (.app 1 8 aS1 aS0),iQm 1 0] .ret)
def F48.g0 (X1:IR):IR:=(iSr [iQo 1 (.mv (.c .zf))] (.seq (iSr [iSm 0,iQo 2 (.bin .eql (.nil .sl) aS0 (.c .zf))] (.cond aT2 (iSr [iQo 1 (.mv (.c .zf))] .ret) .skip)) X1))
def F48.b0:IR:=F48.g0 F48.b1
def F48.res:List RV:=[.t (.of 1)]
def F48:Fn:={ params:=[(.of 0)],res:=F48.res,body:=F48.b0,init:=in3 }
theorem F48.ok:fnA Tryz.prog Tryz.f48 [0,2,4]=some F48:=by kernel_rfl
abbrev F50.fr:=fr9
def F50.b6:IR:=(iSr [iSm 6,.s (.zu 1 aT4 aT6),.s (.load aS0),iQm 2 2,iQm 3 0] (iSr [iSm 3,iSm 2,.s (.bin .add .int aS0 aC1),iQo 8 (.bin .neq .int aS2 aS0)] (.cond aT8 (iSr [iQo 1 (.mv (.c (.bool false)))] .ret) .skip)))
def F50.g5 (X6:IR):IR:=(.block 1 X6)
def F50.b5:IR:=F50.g5 F50.b6
def F50.b7:IR:=(.reg [.s (.bin .add .int aT6 aC1),iQm 6 0])
def F50.g4 (X5 X7:IR):IR:=(.seq X5 X7)
def F50.b4:IR:=F50.g4 F50.b5 F50.b7
def F50.g3 (X4:IR):IR:=(iSr [iQo 7 (.bin .lss .int aT6 aT5)] (.seq (.cond aT7 .skip (.exit 0)) X4))
def F50.b3:IR:=F50.g3 F50.b4
def F50.g2 (X3:IR):IR:=(.loop X3)
def F50.b2:IR:=F50.g2 F50.b3
def F50.g1 (X2:IR):IR:=(.block 0 X2)
def F50.b1:IR:=F50.g1 F50.b2
def F50.b8:IR:=(iSr [iQo 1 (.mv (.c (.bool true)))] .ret)
def F50.g0 (X1 X8:IR):IR:=(iSr [iQo 1 (.mv (.c (.bool false)))] (.seq (iSr [iSm 0,iCa 102 [aS0],iWl 4 (.call (.c (.fn 101 (.of 101) [])) [aS0]),iQo 5 (.len aT4),iQo 6 (.mv aC0)] X1) X8))
def F50.b0:IR:=F50.g0 F50.b1 F50.b8
def F50.res:List RV:=[.t (.of 1)]
def F50:Fn:={ params:=[(.of 0)],res:=F50.res,body:=F50.b0,init:=in9 }
theorem F50.ok:fnA Tryz.prog Tryz.f50 [0,2,3,4,7,8,9,10,17]=some F50:=by kernel_rfl
abbrev F51.fr:=fr8
def F51.b6:IR:=(iSr [iSm 6,iQm 4 0] (.reg [iSm 3,iSm 4,iSm 1,iSm 4,.w .push none (.call aS1 [aS0]),.s (.zu 1 aS4 aS3),.w .none none (.store 1 aS0 aS1)]))
def F51.g5 (X6:IR):IR:=(.block 1 X6)
def F51.b5:IR:=F51.g5 F51.b6
def F51.b7:IR:=(.reg [.s (.bin .add .int aT6 aC1),iQm 6 0])
def F51.g4 (X5 X7:IR):IR:=(.seq X5 X7)
def F51.b4:IR:=F51.g4 F51.b5 F51.b7
def F51.g3 (X4:IR):IR:=(iSr [iQo 7 (.bin .lss .int aT6 aT5)] (.seq (.cond aT7 .skip (.exit 0)) X4))
def F51.b3:IR:=F51.g3 F51.b4
def F51.g2 (X3:IR):IR:=(.loop X3)
def F51.b2:IR:=F51.g2 F51.b3
def F51.g1 (X2:IR):IR:=(.block 0 X2)
def F51.b1:IR:=F51.g1 F51.b2
def F51.b8:IR:=(iSr [iSm 3,iQm 2 0] .ret)
def F51.g0 (X1 X8:IR):IR:=(iSr [iQo 2 (.mv (.c .zf))] (iSr [iSm 0,.w .push none (.pz 1 8 [(I 0)] aS0 aS0),iQm 3 0] (.seq (iSr [iSm 3,iQo 5 (.len aS0),iQo 6 (.mv aC0)] X1) X8)))
def F51.b0:IR:=F51.g0 F51.b1 F51.b8
def F51.res:List RV:=[.t (.of 2)]
def F51:Fn:={ params:=[(.of 0),(.of 1)],res:=F51.res,body:=F51.b0,init:=in8 }
theorem F51.ok:fnA Tryz.prog Tryz.f51 [0,1,4,5,6,10,11,12]=some F51:=by kernel_rfl
abbrev F53.fr:=fr5
def F53.b6:IR:=(iSr [iSm 0,iSm 2,.s (.zu 1 aS1 aS0),.s (.load aS0),.s (.bin .lss .int aS0 (.c (I (-999999999)))),.s (.mv aS0),iPf 0 (.mv aT0),iPf 1 (.mv aT2),iPf 2 (.zu 1 aS1 aS0),iPf 3 (.load aS0),iPf 4 (.bin .gtr .int aS0 xI),iQo 4 (.pick aS5 (.c (.bool true)) aS0)] (.cond aT4 (iSr [iQo 1 (.mv aC3)] .ret) .skip))
def F53.g5 (X6:IR):IR:=(.block 1 X6)
def F53.b5:IR:=F53.g5 F53.b6
def F53.b7:IR:=(.reg [iSm 2,.s (.bin .add .int aS0 aC1),iQm 2 0])
def F53.g4 (X5 X7:IR):IR:=(.seq X5 X7)
def F53.b4:IR:=F53.g4 F53.b5 F53.b7
def F53.g3 (X4:IR):IR:=(.seq (iSr [iSm 2,iSm 0,.s (.len aS0),iQo 3 (.bin .lss .int aS2 aS0)] (.cond aT3 .skip (.exit 0))) X4)
def F53.b3:IR:=F53.g3 F53.b4
def F53.g2 (X3:IR):IR:=(.loop X3)
def F53.b2:IR:=F53.g2 F53.b3
def F53.g1 (X2:IR):IR:=(.block 0 X2)
def F53.b1:IR:=F53.g1 F53.b2
def F53.b8:IR:=(iSr [iQo 1 (.mv aC0)] .ret)
def F53.g0 (X1 X8:IR):IR:=(iSr [iQo 1 (.mv aC0)] (.seq (iSr [iQo 2 (.mv aC0)] X1) X8))
def F53.b0:IR:=F53.g0 F53.b1 F53.b8
def F53.res:List RV:=[.t (.of 1)]
def F53:Fn:={ params:=[(.of 0)],res:=F53.res,body:=F53.b0,init:=in5 }
theorem F53.ok:fnA Tryz.prog Tryz.f53 [0,2,3,7,21]=some F53:=by kernel_rfl
abbrev F54.fr:=fr5
def F54.b6:IR:=(iSr [iSm 0,iSm 2,.s (.zu 1 aS1 aS0),.s (.load aS0),.s (.bin .lss .int aS0 (.c (I (-999999999)))),.s (.mv aS0),iPf 0 (.mv aT0),iPf 1 (.mv aT2),iPf 2 (.zu 1 aS1 aS0),iPf 3 (.load aS0),iPf 4 (.bin .gtr .int aS0 xI),iQo 4 (.pick aS5 (.c (.bool true)) aS0)] (.cond aT4 (iSr [iQo 1 (.mv aC3)] .ret) .skip))
def F54.g5 (X6:IR):IR:=(.block 1 X6)
def F54.b5:IR:=F54.g5 F54.b6
def F54.b7:IR:=(.reg [iSm 2,.s (.bin .add .int aS0 aC1),iQm 2 0])
def F54.g4 (X5 X7:IR):IR:=(.seq X5 X7)
def F54.b4:IR:=F54.g4 F54.b5 F54.b7
def F54.g3 (X4:IR):IR:=(.seq (iSr [iSm 2,iSm 0,.s (.len aS0),iQo 3 (.bin .lss .int aS2 aS0)] (.cond aT3 .skip (.exit 0))) X4)
def F54.b3:IR:=F54.g3 F54.b4
def F54.g2 (X3:IR):IR:=(.loop X3)
def F54.b2:IR:=F54.g2 F54.b3
def F54.g1 (X2:IR):IR:=(.block 0 X2)
def F54.b1:IR:=F54.g1 F54.b2
def F54.b8:IR:=(iSr [iQo 1 (.mv aC0)] .ret)
def F54.g0 (X1 X8:IR):IR:=(iSr [iQo 1 (.mv aC0)] (.seq (iSr [iQo 2 (.mv aC0)] X1) X8))
def F54.b0:IR:=F54.g0 F54.b1 F54.b8
def F54.res:List RV:=[.t (.of 1)]
def F54:Fn:={ params:=[(.of 0)],res:=F54.res,body:=F54.b0,init:=in5 }
theorem F54.ok:fnA Tryz.prog Tryz.f54 [0,2,3,7,21]=some F54:=by kernel_rfl
abbrev F55.fr:=fr3
def F55.b0:IR:=(iSr [iWl 1 (.alloc [(I 0),(I 0),.zf]),iQo 2 (.mv aC0)] (iSr [iSm 0,iSm 0,.s (.bin .rem .int aS0 aC2),.s (.bin .neq .int aS0 aC0),iSm 0,.s (.bm 111 (.of 111) [aS0]),iCa 110 [aS5,aS2,aS0],.s (.ext 0 aS0),.s (.ext 1 aS1),.w .none none (.store 3 aT1 aS1),iQm 2 0] .ret))
def F55.res:List RV:=[.cell (.of 1) (some 3),.t (.of 2)]
def F55:Fn:={ params:=[(.of 0)],res:=F55.res,body:=F55.b0,init:=in3 }
theorem F55.ok:fnA Tryz.prog Tryz.f55 [0,2,3]=some F55:=by kernel_rfl
abbrev F56.fr:=fr1
def F56.b0:IR:=(iSr [iWl 0 (.alloc [(I 0),(I 0),.zf])] (iSr [.w .push none (.yj 1 9 [(I 0)] [(0,1,aC2),(1,1,aC7),(2,1,aC6),(3,1,aC9),(4,1,aC5),(5,1,aC1),(6,1,aC4),(7,1,aC3),(8,1,aC8)]),.s (.build [(I 0),(I 0),.zf] [(0,1,aC3),(1,1,aC3),(2,1,aS0)]),.w .none none (.store 3 aT0 aS0)] .ret))
def F56.res:List RV:=[.cell (.of 0) (some 3)]
def F56:Fn:={ params:=[],res:=F56.res,body:=F56.b0,init:=in1 }
theorem F56.ok:fnA Tryz.prog Tryz.f56 [0]=some F56:=by kernel_rfl
abbrev F57.fr:=fr2
def F57.b0:IR:=(iSr [iQo 1 (.mv aC0)] (iSr [iSm 0,.s (.bin .lss .int aS0 aC1),.s (.mv aS0),iPf 0 (.mv aT0),iPf 1 (.bin .gtr .int aS0 aC16),.s (.pick aS2 (.c (.bool true)) aS0),iCa 76 [aS0,aC3],iQm 1 0] .ret))
def F57.res:List RV:=[.t (.of 1)]
def F57:Fn:={ params:=[(.of 0)],res:=F57.res,body:=F57.b0,init:=in2 }
theorem F57.ok:fnA Tryz.prog Tryz.f57 [0,2]=some F57:=by kernel_rfl
abbrev F58.fr:=fr10
def F58.b6:IR:=(iSr [iSm 8,iQm 4 0] (.seq (.yh [] [(iSm 2,0,[]),(iSm 4,0,[]),(iSm 1,0,[]),(.s (.bin .quo .int aS1 aS0),0,[]),(iSm 4,0,[]),(iSm 1,0,[]),(.s (.bin .rem .int aS1 aS0),0,[]),(.w .push none (.call aS6 [aS3,aS0]),0,[]),(.s (.mv aS0),0,[]),(.s (.ext 0 aS0),0,[]),(.s (.ext 1 aS1),0,[]),(iQm 5 1,0,[]),(iQm 6 0,0,[])]) (.reg [.s (.zk 0 aT3),.s (.load aS0),iSm 4,iSm 1,iSm 5,.s (.bin .mul .int aS1 aS0),iSm 6,.s (.bin .add .int aS1 aS0),.s (.zu 1 aS6 aS5),.w .none none (.store 1 aS0 aS1)])))
def F58.g5 (X6:IR):IR:=(.block 1 X6)
def F58.b5:IR:=F58.g5 F58.b6
def F58.b7:IR:=(.reg [.s (.bin .add .int aT8 aC1),iQm 8 0])
def F58.g4 (X5 X7:IR):IR:=(.seq X5 X7)
def F58.b4:IR:=F58.g4 F58.b5 F58.b7
def F58.g3 (X4:IR):IR:=(iSr [iQo 9 (.bin .lss .int aT8 aT7)] (.seq (.cond aT9 .skip (.exit 0)) X4))
def F58.b3:IR:=F58.g3 F58.b4
def F58.g2 (X3:IR):IR:=(.loop X3)
def F58.b2:IR:=F58.g2 F58.b3
def F58.g1 (X2:IR):IR:=(.block 0 X2)
def F58.b1:IR:=F58.g1 F58.b2
def F58.b8:IR:=(.yh [] [(iSm 0,1,[]),(.s (.zn 2 aT3),0,[]),(.s (.zn 2 aT3),1,[]),(iCa 112 [aS1],0,[]),(.w .none none (.zao .str aS3 aS0 aS1),0,[])])
def F58.g0 (X1 X8:IR):IR:=(iSr [iSm 1,iSm 1,.s (.bin .mul .int aS1 aS0),.w .push none (.pz 1 8 [(I 0)] aS0 aS0),.s (.build [.zf,(.bool false)] [(0,1,aS0)]),iWl 3 (.alloc [.zf,(.bool false)]),.w .none none (.store 2 aT3 aS0)] (.seq (iSr [.s (.zk 0 aT3),.s (.load aS0),iQo 7 (.len aS0),iQo 8 (.mv aC0)] X1) X8))
def F58.b0:IR:=F58.g0 F58.b1 F58.b8
def F58.res:List RV:=[]
def F58:Fn:={ params:=[(.of 0),(.of 1),(.of 2)],res:=F58.res,body:=F58.b0,init:=in10 }
theorem F58.ok:fnA Tryz.prog Tryz.f58 [0,1,2,6,7,8,9,17,18,19]=some F58:=by kernel_rfl
abbrev F59.fr:=fr9
def F59.b3:IR:=(iSr [iSm 0,iSm 1,iQm 4 1,iQm 5 0] .ret)
def F59.g2 (X3:IR):IR:=(.seq (iSr [.s (.load aT2),.s (.bin .and .int aS0 aC4),iQo 8 (.bin .neq .int aS0 aC0)] (.cond aT8 (iSr [iSm 1,iSm 0,iQm 4 1,iQm 5 0] .ret) .skip)) X3)
def F59.b2:IR:=F59.g2 F59.b3
def F59.g1 (X2:IR):IR:=(.seq (iSr [.s (.load aT2),.s (.bin .and .int aS0 aC2),iQo 7 (.bin .neq .int aS0 aC0)] (.cond aT7 (.reg [.s (.load aT3),.s (.bin .sub .int aS0 aC1),iSm 1,.s (.bin .sub .int aS1 aS0),iQm 1 0]) .skip)) X2)
def F59.b1:IR:=F59.g1 F59.b2
def F59.g0 (X1:IR):IR:=(iSr [iQo 4 (.mv aC0),iQo 5 (.mv aC0)] (.seq (iSr [.s (.load aT2),.s (.bin .and .int aS0 aC1),iQo 6 (.bin .neq .int aS0 aC0)] (.cond aT6 (.reg [.s (.load aT3),.s (.bin .sub .int aS0 aC1),iSm 0,.s (.bin .sub .int aS1 aS0),iQm 0 0]) .skip)) X1))
def F59.b0:IR:=F59.g0 F59.b1
def F59.res:List RV:=[.t (.of 4),.t (.of 5)]
def F59:Fn:={ params:=[(.of 0),(.of 1),(.of 2),(.of 3)],res:=F59.res,body:=F59.b0,init:=in9 }
theorem F59.ok:fnA Tryz.prog Tryz.f59 [0,1,2,3,6,7,10,17,24]=some F59:=by kernel_rfl
abbrev F60.fr:=fr12
def F60.b5:IR:=(iSr [.s (.entry aT6),.s (.ext 1 aS0),iWl 3 (.alloc [.zf,(.bool false)]),.w .none none (.store 2 aT3 aS0)] (.reg [iSm 2,.s (.zn 2 aT3),.w .push none (.yj 2 1 [.zf,(.bool false)] [(0,2,aS0)]),.w .push none (.appq 2 32 aS2 aS0),iQm 2 0]))
def F60.g4 (X5:IR):IR:=(.block 1 X5)
def F60.b4:IR:=F60.g4 F60.b5
def F60.g3 (X4:IR):IR:=(iSr [.w .push none (.next aT6),iQo 7 (.ext 0 aS0)] (.seq (.cond aT7 .skip (.exit 0)) X4))
def F60.b3:IR:=F60.g3 F60.b4
def F60.g2 (X3:IR):IR:=(.loop X3)
def F60.b2:IR:=F60.g2 F60.b3
def F60.g1 (X2:IR):IR:=(.block 0 X2)
def F60.b1:IR:=F60.g1 F60.b2
def F60.b12:IR:=(iSr [.s (.zu 2 aT8 sJ),.s (.zn 2 aS0),iWl 5 (.alloc [.zf,(.bool false)]),.w .none none (.store 2 aT5 aS0)] (.reg [iSm 4,.s (.zn 2 aT5),.w .push none (.yj 2 1 [.zf,(.bool false)] [(0,2,aS0)]),.w .push none (.appq 2 32 aS2 aS0),iQm 4 0]))
def F60.g11 (X12:IR):IR:=(.block 3 X12)
def F60.b11:IR:=F60.g11 F60.b12
def F60.b13:IR:=(.reg [.s (.bin .add .int sJ aC1),iQm 10 0])
def F60.g10 (X11 X13:IR):IR:=(.seq X11 X13)
def F60.b10:IR:=F60.g10 F60.b11 F60.b13
def F60.g9 (X10:IR):IR:=(iSr [iQo 11 (.bin .lss .int sJ aT9)] (.seq (.cond aA .skip (.exit 2)) X10))
def F60.b9:IR:=F60.g9 F60.b10
def F60.g8 (X9:IR):IR:=(.loop X9)
def F60.b8:IR:=F60.g8 F60.b9
def F60.g7 (X8:IR):IR:=(.block 2 X8)
def F60.b7:IR:=F60.g7 F60.b8
def F60.b14:IR:=(iSr [iSm 4,iQm 1 0] .ret)
def F60.g6 (X7 X14:IR):IR:=(iSr [iSm 2,.w .push none (.call (.c (.fn 113 (.of 113) [])) [aS0,(.c (.fn 114 (.of 114) []))])] (iSr [iQo 4 (.mv (.c .zf))] (.seq (iSr [iQo 8 (.mv aT2),iQo 9 (.len aT8),iQo 10 (.mv aC0)] X7) X14)))
def F60.b6:IR:=F60.g6 F60.b7 F60.b14
def F60.g0 (X1 X6:IR):IR:=(iSr [iQo 1 (.mv (.c .zf))] (iSr [iQo 2 (.mv (.c .zf))] (.seq (iSr [iSm 0,iWl 6 (.range aS0)] X1) X6)))
def F60.b0:IR:=F60.g0 F60.b1 F60.b6
def F60.res:List RV:=[.t (.of 1)]
def F60:Fn:={ params:=[(.of 0)],res:=F60.res,body:=F60.b0,init:=in12 }
theorem F60.ok:fnA Tryz.prog Tryz.f60 [0,2,3,5,6,8,10,12,21,22,23,24]=some F60:=by kernel_rfl
abbrev F61.fr:=fr4
def F61.b1:IR:=(.seq (.yh [] [(.s (.zk 0 aT1),0,[]),(.s (.load aS0),0,[]),(.s (.zk 2 aT1),2,[]),(.s (.load aS0),2,[]),(.w .push none (.yj 1 1 [(I 0)] [(0,1,aS2)]),0,[]),(iCa 70 [aC1,aC16,aS0],0,[]),(iCa 109 [aS2],0,[]),(.w .push none (.yj 1 2 [(I 0)] [(0,1,aS1),(1,1,aS0)]),0,[]),(iCa 42 [aS0],0,[]),(iQm 2 0,0,[])]) .ret)
def F61.g0 (X1:IR):IR:=(iSr [iWl 1 (.box aT0),iQo 2 (.mv aC0)] (.seq (iSr [.s (.zk 0 aT1),.s (.load aS0),.s (.zk 1 aT1),.s (.load aS0),.s (.bin .neq .int aS2 aS0),.s (.mv aS0),iPf 0 (.zk 0 aT1),iPf 1 (.load aS0),iPf 2 (.bin .lss .int aS0 aC0),.s (.pick aS3 (.c (.bool true)) aS0),.s (.mv aS0),iPf 0 (.zk 0 aT1),iPf 1 (.load aS0),iPf 2 (.bin .gtr .int aS0 zlu),.s (.pick aS3 (.c (.bool true)) aS0),.s (.mv aS0),iPf 0 (.zk 2 aT1),iPf 1 (.load aS0),iPf 2 (.len aS0),iPf 3 (.zk 0 aT1),iPf 4 (.load aS0),iPf 5 (.zk 1 aT1),iPf 6 (.load aS0),iPf 7 (.bin .mul .int aS2 aS0),iPf 8 (.bin .neq .int aS5 aS0),iQo 3 (.pick aS9 (.c (.bool true)) aS0)] (.cond aT3 (iSr [iQo 2 (.mv aC2)] .ret) .skip)) X1))
def F61.b0:IR:=F61.g0 F61.b1
def F61.res:List RV:=[.t (.of 2)]
def F61:Fn:={ params:=[(.of 0)],res:=F61.res,body:=F61.b0,init:=in4 }
theorem F61.ok:fnA Tryz.prog Tryz.f61 [0,1,2,28]=some F61:=by kernel_rfl
abbrev F62.fr:=fr1
def F62.b0:IR:=(iSr [iQo 0 (.mv (.c .zf))] (iSr [.s (.build [(.str []),.dh] [(0,1,(.c (.str [110,111,114,109,97,108]))),(1,1,(.c (.fn 115 (.of 115) [])))]),.s (.build [(.str []),.dh] [(0,1,(.c (.str [115,101,109,105,109,97,103,105,99]))),(1,1,(.c (.fn 116 (.of 116) [])))]),.s (.build [(.str []),.dh] [(0,1,(.c (.str [109,97,103,105,99]))),(1,1,(.c (.fn 118 (.of 118) [])))]),.s (.build [(.str []),.dh] [(0,1,(.c (.str [112,97,110,100,105,97,103,111,110,97,108]))),(1,1,(.c (.fn 119 (.of 119) [])))]),.s (.build [(.str []),.dh] [(0,1,(.c (.str [97,115,115,111,99,105,97,116,105,118,101]))),(1,1,(.c (.fn 120 (.of 120) [])))]),.s (.build [(.str []),.dh] [(0,1,(.c (.str [109,111,115,116,45,112,101,114,102,101,99,116]))),(1,1,(.c (.fn 121 (.of 121) [])))]),.s (.build [(.str []),.dh] [(0,1,(.c (.str [98,111,114,100,101,114,101,100]))),(1,1,(.c (.fn 122 (.of 122) [])))]),.s (.build [(.str []),.dh] [(0,1,(.c (.str [98,105,109,97,103,105,99]))),(1,1,(.c (.fn 123 (.of 123) [])))]),.w .push none (.yj 2 8 [(.str []),.dh] [(0,2,aS7),(2,2,aS6),(4,2,aS5),(6,2,aS4),(8,2,aS3),(10,2,aS2),(12,2,aS1),(14,2,aS0)]),iQm 0 0] .ret))
def F62.res:List RV:=[.t (.of 0)]
def F62:Fn:={ params:=[],res:=F62.res,body:=F62.b0,init:=in1 }
theorem F62.ok:fnA Tryz.prog Tryz.f62 [0]=some F62:=by kernel_rfl
abbrev F63.fr:=fr2
def F63.b0:IR:=(iSr [iQo 1 (.mv aC0)] (iSr [iSm 0,.s (.len aS0),.s (.bin .gtr .int aS0 zb2),iCa 76 [aS0,aC5],iSm 0,.w .push none (.call (.c (.fn 66 (.of 66) [])) [aS0,(.c (.fn 67 (.of 67) []))]),iCa 76 [aS0,aC3],.w .push none (.yj 1 2 [(I 0)] [(0,1,aS3),(1,1,aS0)]),iCa 72 [aS0],iQm 1 0] .ret))
def F63.res:List RV:=[.t (.of 1)]
def F63:Fn:={ params:=[(.of 0)],res:=F63.res,body:=F63.b0,init:=in2 }
theorem F63.ok:fnA Tryz.prog Tryz.f63 [0,2]=some F63:=by kernel_rfl
abbrev F64.fr:=fr4
def F64.b0:IR:=(iSr [iWl 2 (.box aT0),iQo 3 (.mv aC0)] (.seq (.yh [] [(iSm 1,0,[]),(.s (.zk 0 aT2),1,[]),(.s (.load aS0),1,[]),(.s (.len aS0),1,[]),(iSm 1,1,[]),(.s (.bin .neq .int aS1 aS0),1,[]),(.s (.zk 0 aT2),2,[]),(.s (.load aS0),2,[]),(iCa 125 [aS7],0,[]),(iCa 76 [aS3,aC2],0,[]),(iCa 126 [aS2],0,[]),(.s (.not aS0),0,[]),(iCa 76 [aS0,aC14],0,[]),(.w .push none (.yj 1 3 [(I 0)] [(0,1,aS4),(1,1,aS3),(2,1,aS0)]),0,[]),(iCa 72 [aS0],0,[]),(iQm 3 0,0,[])]) .ret))
def F64.res:List RV:=[.t (.of 3)]
def F64:Fn:={ params:=[(.of 0),(.of 1)],res:=F64.res,body:=F64.b0,init:=in4 }
theorem F64.ok:fnA Tryz.prog Tryz.f64 [0,1,2,4]=some F64:=by kernel_rfl
abbrev F65.fr:=fr12
def F65.b7:IR:=(.reg [iSm 4,.s (.zk 0 aT2),.s (.load aS0),iSm 5,.s (.zu 1 aS1 aS0),.s (.load aS0),iSm 6,.s (.zu 1 aS6 aS1),.w .none none (.store 1 aS0 aS1)])
def F65.g6 (X7:IR):IR:=(iSr [iSm 9,.s (.zu 1 aT7 aT9),.s (.load aS0),iQm 5 2,iQm 6 0] (.seq (iSr [.s (.zk 1 aT2),iQo 11 (.load aS0)] (.cond aA (.reg [iSm 1,.s (.len aS0),.s (.bin .add .int aS0 aC1),iSm 6,.s (.bin .sub .int aS1 aS0),iQm 6 0]) .skip)) X7))
def F65.b6:IR:=F65.g6 F65.b7
def F65.g5 (X6:IR):IR:=(.block 1 X6)
def F65.b5:IR:=F65.g5 F65.b6
def F65.b8:IR:=(.reg [.s (.bin .add .int aT9 aC1),iQm 9 0])
def F65.g4 (X5 X8:IR):IR:=(.seq X5 X8)
def F65.b4:IR:=F65.g4 F65.b5 F65.b8
def F65.g3 (X4:IR):IR:=(iSr [iQo 10 (.bin .lss .int aT9 aT8)] (.seq (.cond sJ .skip (.exit 0)) X4))
def F65.b3:IR:=F65.g3 F65.b4
def F65.g2 (X3:IR):IR:=(.loop X3)
def F65.b2:IR:=F65.g2 F65.b3
def F65.g1 (X2:IR):IR:=(.block 0 X2)
def F65.b1:IR:=F65.g1 F65.b2
def F65.b9:IR:=(iSr [iSm 4,iQm 3 0] .ret)
def F65.g0 (X1 X9:IR):IR:=(iSr [iWl 2 (.box aT0),iQo 3 (.mv (.c .zf))] (iSr [iSm 1,.s (.len aS0),.w .push none (.pz 1 8 [(I 0)] aS0 aS0),iQm 4 0] (.seq (iSr [iQo 7 (.mv aT1),iQo 8 (.len aT7),iQo 9 (.mv aC0)] X1) X9)))
def F65.b0:IR:=F65.g0 F65.b1 F65.b9
def F65.res:List RV:=[.t (.of 3)]
def F65:Fn:={ params:=[(.of 0),(.of 1)],res:=F65.res,body:=F65.b0,init:=in12 }
theorem F65.ok:fnA Tryz.prog Tryz.f65 [0,1,2,4,5,6,7,11,12,13,14,19]=some F65:=by kernel_rfl
abbrev F66.fr:=fr3
def F66.b0:IR:=(iSr [iQo 2 (.mv (.c (.bool false)))] (iSr [iSm 0,iSm 1,iCa 127 [aS1,aS0],.s (.bin .geq .int aS0 aC0),iQm 2 0] .ret))
def F66.res:List RV:=[.t (.of 2)]
def F66:Fn:={ params:=[(.of 0),(.of 1)],res:=F66.res,body:=F66.b0,init:=in3 }
theorem F66.ok:fnA Tryz.prog Tryz.f66 [0,1,4]=some F66:=by kernel_rfl
abbrev F67.fr:=fr2
def F67.b0:IR:=(iSr [iQo 1 (.mv (.c (.bool false)))] (iSr [iSm 0,.s (.bin .lss .int aS0 (.c (I (-999999999)))),.s (.mv aS0),iPf 0 (.mv aT0),iPf 1 (.bin .gtr .int aS0 xI),.s (.pick aS2 (.c (.bool true)) aS0),iQm 1 0] .ret))
def F67.res:List RV:=[.t (.of 1)]
def F67:Fn:={ params:=[(.of 0)],res:=F67.res,body:=F67.b0,init:=in2 }
theorem F67.ok:fnA Tryz.prog Tryz.f67 [0,2]=some F67:=by kernel_rfl
abbrev F68.fr:=fr6
def F68.b1:IR:=(iSr [iSm 0,iSm 1,iCa 129 [aS1,aS0],.s (.ext 0 aS0),.s (.ext 1 aS1),iQm 2 1,iQm 3 0] .ret)
def F68.g0 (X1:IR):IR:=(iSr [iQo 2 (.mv (.c .zf)),iQo 3 (.mv aC0)] (.seq (iSr [iSm 0,iSm 1,iCa 128 [aS1,aS0],iQm 4 0] (iSr [iSm 4,iQo 5 (.bin .neq .int aS0 aC0)] (.cond aT5 (iSr [iSm 4,iQo 2 (.mv (.c .zf)),iQm 3 0] .ret) .skip))) X1))
def F68.b0:IR:=F68.g0 F68.b1
def F68.res:List RV:=[.t (.of 2),.t (.of 3)]
def F68:Fn:={ params:=[(.of 0),(.of 1)],res:=F68.res,body:=F68.b0,init:=in6 }
theorem F68.ok:fnA Tryz.prog Tryz.f68 [0,1,4,5,6,11]=some F68:=by kernel_rfl
abbrev F69.fr:=fr3
def F69.b0:IR:=(iSr [iQo 2 (.mv (.c (.bool false)))] (iSr [iSm 0,iSm 1,iCa 130 [aS1,aS0],.s (.bin .geq .int aS0 aC0),iQm 2 0] .ret))
def F69.res:List RV:=[.t (.of 2)]
def F69:Fn:={ params:=[(.of 0),(.of 1)],res:=F69.res,body:=F69.b0,init:=in3 }
theorem F69.ok:fnA Tryz.prog Tryz.f69 [0,1,4]=some F69:=by kernel_rfl
abbrev F70.fr:=fr6
def F70.b0:IR:=(iSr [iWl 3 (.box aT0),iWl 4 (.box aT1),iQo 5 (.mv aC0)] (iSr [iSm 2,.s (.fn 131 (.of 131) [aT3,aT4]),iCa 66 [aS1,aS0],iCa 44 [aS0,aC3],iQm 5 0] .ret))
def F70.res:List RV:=[.t (.of 5)]
def F70:Fn:={ params:=[(.of 0),(.of 1),(.of 2)],res:=F70.res,body:=F70.b0,init:=in6 }
theorem F70.ok:fnA Tryz.prog Tryz.f70 [0,1,2,3,4,6]=some F70:=by kernel_rfl
abbrev F71.fr:=fr19
def F71.b9:IR:=(iSr [iQo 7 (.mv aT15)] (.reg [iQo 8 (.mv aT16)]))
def F71.b11:IR:=(iSr [iSm 7,.s (.zk 1 aT6),.s (.load aS0),iQo 17 (.bin .eql .int aS2 aS0)] (.cond aT17 (.reg [.s (.load aT4),iSm 8,.w .push none (.yj 1 1 [.zf] [(0,1,aS0)]),.w .push none (.app 1 24 aS2 aS0),.w .none none (.store 1 aT4 aS0)]) (.reg [.s (.load aT5),iSm 8,.w .push none (.yj 1 1 [.zf] [(0,1,aS0)]),.w .push none (.app 1 24 aS2 aS0),.w .none none (.store 1 aT5 aS0)])))
def F71.g10 (X11:IR):IR:=(.block 3 X11)
def F71.b10:IR:=F71.g10 F71.b11
def F71.g8 (X9 X10:IR):IR:=(.rf aT14 [(.of 15),(.of 16)] X9 X10)
def F71.b8:IR:=F71.g8 F71.b9 F71.b10
def F71.g7 (X8:IR):IR:=(.block 2 X8)
def F71.b7:IR:=F71.g7 F71.b8
def F71.g6 (X7:IR):IR:=(iSr [.s (.zu 2 sJ oD),.s (.zn 2 aS0),iWl 6 (.alloc [(I 0),(I 0)]),.w .none none (.store 2 aT6 aS0)] (iSr [iSm 1,.s (.zk 0 aT6),.s (.load aS0),iWl 14 (.call (.c (.fn 135 (.of 135) [])) [aS2,aS0])] X7))
def F71.b6:IR:=F71.g6 F71.b7
def F71.g5 (X6:IR):IR:=(.block 1 X6)
def F71.b5:IR:=F71.g5 F71.b6
def F71.b12:IR:=(.reg [.s (.bin .add .int oD aC1),iQm 12 0])
def F71.g4 (X5 X12:IR):IR:=(.seq X5 X12)
def F71.b4:IR:=F71.g4 F71.b5 F71.b12
def F71.g3 (X4:IR):IR:=(iSr [iQo 13 (.bin .lss .int oD aA)] (.seq (.cond eX .skip (.exit 0)) X4))
def F71.b3:IR:=F71.g3 F71.b4
def F71.g2 (X3:IR):IR:=(.loop X3)
def F71.b2:IR:=F71.g2 F71.b3
def F71.g1 (X2:IR):IR:=(.block 0 X2)
def F71.b1:IR:=F71.g1 F71.b2
def F71.b13:IR:=(iSr [iSm 3,.s (.load aT4),.w .push none (.app 1 24 aS1 aS0),iQm 3 0] (iSr [iSm 0,iQo 18 (.bin .eql .str aS0 (.c (.str [112,97,110,100,105,97,103,111,110,97,108])))] (.cond aT18 (.reg [iSm 3,.s (.load aT5),.w .push none (.app 1 24 aS1 aS0),iQm 3 0]) .skip)))
def F71.b14:IR:=(iSr [iSm 1,iSm 1,.s (.bin .mul .int aS1 aS0),iSm 3,iCa 45 [aS1,aS0],.w .none none (.store 2 aT2 aS0)] .ret)
def F71.g0 (X1 X13 X14:IR):IR:=(iSr [iWl 2 (.alloc [(I 0),.zf])] (iSr [iSm 1,iSm 1,iCa 133 [aS1,aS0],iSm 1,iSm 1,iCa 134 [aS1,aS0],.w .push none (.yj 1 2 [.zf] [(0,1,aS3),(1,1,aS0)]),iCa 132 [aS0],iQm 3 0] (.seq (iSr [iSm 0,iQo 9 (.bin .neq .str aS0 (.c (.str [115,101,109,105,109,97,103,105,99])))] (.cond aT9 (iSr [iWl 4 (.alloc [.zf]),iWl 5 (.alloc [.zf])] (.seq (iSr [.s (.build [(I 0),(I 0)] [(0,1,aC1),(1,1,aC0)]),iSm 1,.s (.bin .sub .int aS0 aC1),.s (.build [(I 0),(I 0)] [(0,1,(.c (I (-1)))),(1,1,aS0)]),iWl 10 (.yj 2 2 [(I 0),(I 0)] [(0,2,aS3),(2,2,aS0)]),iQo 11 (.len sJ),iQo 12 (.mv aC0)] X1) X13)) .skip)) X14)))
def F71.b0:IR:=F71.g0 F71.b1 F71.b13 F71.b14
def F71.res:List RV:=[.cell (.of 2) (some 2)]
def F71:Fn:={ params:=[(.of 0),(.of 1)],res:=F71.res,body:=F71.b0,init:=in19 }
theorem F71.ok:fnA Tryz.prog Tryz.f71 [0,1,4,5,6,7,9,10,11,21,26,27,28,29,35,36,37,41,55]=some F71:=by kernel_rfl
abbrev F72.fr:=fr8
def F72.b6:IR:=(iSr [.s (.zu 1 aT3 aT5),.s (.load aS0),iQm 2 0] (iSr [iSm 2,iQo 7 (.bin .neq .int aS0 aC0)] (.cond aT7 (iSr [iSm 2,iQm 1 0] .ret) .skip)))
def F72.g5 (X6:IR):IR:=(.block 1 X6)
def F72.b5:IR:=F72.g5 F72.b6
def F72.b7:IR:=(.reg [.s (.bin .add .int aT5 aC1),iQm 5 0])
def F72.g4 (X5 X7:IR):IR:=(.seq X5 X7)
def F72.b4:IR:=F72.g4 F72.b5 F72.b7
def F72.g3 (X4:IR):IR:=(iSr [iQo 6 (.bin .lss .int aT5 aT4)] (.seq (.cond aT6 .skip (.exit 0)) X4))
def F72.b3:IR:=F72.g3 F72.b4
def F72.g2 (X3:IR):IR:=(.loop X3)
def F72.b2:IR:=F72.g2 F72.b3
def F72.g1 (X2:IR):IR:=(.block 0 X2)
def F72.b1:IR:=F72.g1 F72.b2
def F72.b8:IR:=(iSr [iQo 1 (.mv aC0)] .ret)
def F72.g0 (X1 X8:IR):IR:=(iSr [iQo 1 (.mv aC0)] (.seq (iSr [iQo 3 (.mv aT0),iQo 4 (.len aT3),iQo 5 (.mv aC0)] X1) X8))
def F72.b0:IR:=F72.g0 F72.b1 F72.b8
def F72.res:List RV:=[.t (.of 1)]
def F72:Fn:={ params:=[(.of 0)],res:=F72.res,body:=F72.b0,init:=in8 }
theorem F72.ok:fnA Tryz.prog Tryz.f72 [0,2,4,5,6,7,8,12]=some F72:=by kernel_rfl
end
end Go.Ev
