import Derived.Test.YtkjkjpmahgeneaaGreatDoorEvC
import Derived.Test.YtkjkjpmahgeneaaGreatDoorProg
import Derived.KernelRfl
set_option linter.unusedSimpArgs false
set_option linter.unusedVariables false
namespace Go.Ev
open Go Go.Proofs
set_option maxRecDepth 100000
noncomputable section
abbrev zU:List AV:=[(.int .u8 0),(.int .u8 0),(.int .u8 0),(.int .u8 0),(.int .u8 0),(.int .u8 0),(.int .u8 0),(.int .u8 0),(.int .u8 0),(.int .u8 0),(.int .u8 0),(.int .u8 0),(.int .u8 0),(.int .u8 0),(.int .u8 0),(.int .u8 0),(.int .u8 0),(.int .u8 0),(.int .u8 0),(.int .u8 0),(.int .u8 0),(.int .u8 0),(.int .u8 0),(.int .u8 0),(.int .u8 0),(.int .u8 0),(.int .u8 0),(.int .u8 0),(.int .u8 0),(.int .u8 0),(.int .u8 0),(.int .u8 0),(.int .u8 0),(.int .u8 0),(.int .u8 0),(.int .u8 0),(.int .u8 0),(.int .u8 0),(.int .u8 0),(.int .u8 0),(.int .u8 0),(.int .u8 0),(.int .u8 0),(.int .u8 0),(.int .u8 0),(.int .u8 0),(.int .u8 0),(.int .u8 0),(.int .u8 0),(.int .u8 0),(.int .u8 0),(.int .u8 0),(.int .u8 0),(.int .u8 0),(.int .u8 0),(.int .u8 0),(.int .u8 0),(.int .u8 0),(.int .u8 0),(.int .u8 0),(.int .u8 0),(.int .u8 0),(.int .u8 0),(.int .u8 0),(.int .u8 0),(.int .u8 0),(.int .u8 0),(.int .u8 0),(.int .u8 0),(.int .u8 0),(.int .u8 0),(.int .u8 0),(.int .u8 0),(.int .u8 0),(.int .u8 0),(.int .u8 0),(.int .u8 0),(.int .u8 0),(.int .u8 0),(.int .u8 0),(.int .u8 0),(.int .u8 0),(.int .u8 0),(.int .u8 0),(.int .u8 0),(.int .u8 0),(.int .u8 0),(.int .u8 0),(.int .u8 0),(.int .u8 0),(.int .u8 0),(.int .u8 0),(.int .u8 0),(.int .u8 0),(.int .u8 0),(.int .u8 0),(.int .u8 0),(.int .u8 0),(.int .u8 0),(.int .u8 0),(.int .u8 0),(.int .u8 0),(.int .u8 0),(.int .u8 0),(.int .u8 0),(.int .u8 0),(.int .u8 0),(.int .u8 0),(.int .u8 0),(.int .u8 0),(.int .u8 0),(.int .u8 0),(.int .u8 0),(.int .u8 0),(.int .u8 0),(.int .u8 0),(.int .u8 0),(.int .u8 0),(.int .u8 0),(.int .u8 0),(.int .u8 0),(.int .u8 0),(.int .u8 0),(.int .u8 0),(.int .u8 0),(.int .u8 0),(.int .u8 0),(.int .u8 0)]
abbrev iSm (n:Nat):RO:=.s (.mv (.t (.of n)))
abbrev iQm (n m:Nat):RO:=.q (.of n) (.mv (.s m))
abbrev iQo (n:Nat) (o:PO):RO:=.q (.of n) o
abbrev iPf (n:Nat) (o:PO):RO:=.p .push (some (.s n,false)) o
abbrev iPt (n:Nat) (o:PO):RO:=.p .push (some (.s n,true)) o
abbrev iCa (n:Nat) (l:List Arg):RO:=.w .push none (.call (.c (.fn n (.of n) [])) l)
abbrev iWl (n:Nat) (o:WO):RO:=.w (.loc (.of n)) none o
abbrev iSr (l:List RO) (c:IR):IR:=.seq (.reg l) c
def fr1 (x0:AV):T AV:=(.n .e x0 .e)
def fr2 (x0 x1:AV):T AV:=(.n (.n .e x1 .e) x0 .e)
def fr3 (x0 x1 x2:AV):T AV:=(.n (.n .e x1 .e) x0 (.n .e x2 .e))
def fr4 (x0 x1 x2 x3:AV):T AV:=(.n (.n (.n .e x3 .e) x1 .e) x0 (.n .e x2 .e))
def fr5 (x0 x1 x2 x3 x4:AV):T AV:=(.n (.n (.n .e x3 .e) x1 .e) x0 (.n (.n .e x4 .e) x2 .e))
def fr6 (x0 x1 x2 x3 x4 x5:AV):T AV:=(.n (.n (.n .e x3 .e) x1 (.n .e x5 .e)) x0 (.n (.n .e x4 .e) x2 .e))
def fr7 (x0 x1 x2 x3 x4 x5 x6:AV):T AV:=(.n (.n (.n .e x3 .e) x1 (.n .e x5 .e)) x0 (.n (.n .e x4 .e) x2 (.n .e x6 .e)))
def fr8 (x0 x1 x2 x3 x4 x5 x6 x7:AV):T AV:=(.n (.n (.n (.n .e x7 .e) x3 .e) x1 (.n .e x5 .e)) x0 (.n (.n .e x4 .e) x2 (.n .e x6 .e)))
def fr9 (x0 x1 x2 x3 x4 x5 x6 x7 x8:AV):T AV:=(.n (.n (.n (.n .e x7 .e) x3 .e) x1 (.n .e x5 .e)) x0 (.n (.n (.n .e x8 .e) x4 .e) x2 (.n .e x6 .e)))
def fr10 (x0 x1 x2 x3 x4 x5 x6 x7 x8 x9:AV):T AV:=(.n (.n (.n (.n .e x7 .e) x3 .e) x1 (.n (.n .e x9 .e) x5 .e)) x0 (.n (.n (.n .e x8 .e) x4 .e) x2 (.n .e x6 .e)))
def fr11 (x0 x1 x2 x3 x4 x5 x6 x7 x8 x9 x10:AV):T AV:=(.n (.n (.n (.n .e x7 .e) x3 .e) x1 (.n (.n .e x9 .e) x5 .e)) x0 (.n (.n (.n .e x8 .e) x4 .e) x2 (.n (.n .e x10 .e) x6 .e)))
def fr12 (x0 x1 x2 x3 x4 x5 x6 x7 x8 x9 x10 x11:AV):T AV:=(.n (.n (.n (.n .e x7 .e) x3 (.n .e x11 .e)) x1 (.n (.n .e x9 .e) x5 .e)) x0 (.n (.n (.n .e x8 .e) x4 .e) x2 (.n (.n .e x10 .e) x6 .e)))
def fr13 (x0 x1 x2 x3 x4 x5 x6 x7 x8 x9 x10 x11 x12:AV):T AV:=(.n (.n (.n (.n .e x7 .e) x3 (.n .e x11 .e)) x1 (.n (.n .e x9 .e) x5 .e)) x0 (.n (.n (.n .e x8 .e) x4 (.n .e x12 .e)) x2 (.n (.n .e x10 .e) x6 .e)))
def fr14 (x0 x1 x2 x3 x4 x5 x6 x7 x8 x9 x10 x11 x12 x13:AV):T AV:=(.n (.n (.n (.n .e x7 .e) x3 (.n .e x11 .e)) x1 (.n (.n .e x9 .e) x5 (.n .e x13 .e))) x0 (.n (.n (.n .e x8 .e) x4 (.n .e x12 .e)) x2 (.n (.n .e x10 .e) x6 .e)))
def fr15 (x0 x1 x2 x3 x4 x5 x6 x7 x8 x9 x10 x11 x12 x13 x14:AV):T AV:=(.n (.n (.n (.n .e x7 .e) x3 (.n .e x11 .e)) x1 (.n (.n .e x9 .e) x5 (.n .e x13 .e))) x0 (.n (.n (.n .e x8 .e) x4 (.n .e x12 .e)) x2 (.n (.n .e x10 .e) x6 (.n .e x14 .e))))
def fr18 (x0 x1 x2 x3 x4 x5 x6 x7 x8 x9 x10 x11 x12 x13 x14 x15 x16 x17:AV):T AV:=(.n (.n (.n (.n (.n .e x15 .e) x7 .e) x3 (.n .e x11 .e)) x1 (.n (.n (.n .e x17 .e) x9 .e) x5 (.n .e x13 .e))) x0 (.n (.n (.n (.n .e x16 .e) x8 .e) x4 (.n .e x12 .e)) x2 (.n (.n .e x10 .e) x6 (.n .e x14 .e))))
def fr19 (x0 x1 x2 x3 x4 x5 x6 x7 x8 x9 x10 x11 x12 x13 x14 x15 x16 x17 x18:AV):T AV:=(.n (.n (.n (.n (.n .e x15 .e) x7 .e) x3 (.n .e x11 .e)) x1 (.n (.n (.n .e x17 .e) x9 .e) x5 (.n .e x13 .e))) x0 (.n (.n (.n (.n .e x16 .e) x8 .e) x4 (.n .e x12 .e)) x2 (.n (.n (.n .e x18 .e) x10 .e) x6 (.n .e x14 .e))))
def fr20 (x0 x1 x2 x3 x4 x5 x6 x7 x8 x9 x10 x11 x12 x13 x14 x15 x16 x17 x18 x19:AV):T AV:=(.n (.n (.n (.n (.n .e x15 .e) x7 .e) x3 (.n (.n .e x19 .e) x11 .e)) x1 (.n (.n (.n .e x17 .e) x9 .e) x5 (.n .e x13 .e))) x0 (.n (.n (.n (.n .e x16 .e) x8 .e) x4 (.n .e x12 .e)) x2 (.n (.n (.n .e x18 .e) x10 .e) x6 (.n .e x14 .e))))
def fr23 (x0 x1 x2 x3 x4 x5 x6 x7 x8 x9 x10 x11 x12 x13 x14 x15 x16 x17 x18 x19 x20 x21 x22:AV):T AV:=(.n (.n (.n (.n (.n .e x15 .e) x7 .e) x3 (.n (.n .e x19 .e) x11 .e)) x1 (.n (.n (.n .e x17 .e) x9 .e) x5 (.n (.n .e x21 .e) x13 .e))) x0 (.n (.n (.n (.n .e x16 .e) x8 .e) x4 (.n (.n .e x20 .e) x12 .e)) x2 (.n (.n (.n .e x18 .e) x10 .e) x6 (.n (.n .e x22 .e) x14 .e))))
def fr24 (x0 x1 x2 x3 x4 x5 x6 x7 x8 x9 x10 x11 x12 x13 x14 x15 x16 x17 x18 x19 x20 x21 x22 x23:AV):T AV:=(.n (.n (.n (.n (.n .e x15 .e) x7 (.n .e x23 .e)) x3 (.n (.n .e x19 .e) x11 .e)) x1 (.n (.n (.n .e x17 .e) x9 .e) x5 (.n (.n .e x21 .e) x13 .e))) x0 (.n (.n (.n (.n .e x16 .e) x8 .e) x4 (.n (.n .e x20 .e) x12 .e)) x2 (.n (.n (.n .e x18 .e) x10 .e) x6 (.n (.n .e x22 .e) x14 .e))))
def fr25 (x0 x1 x2 x3 x4 x5 x6 x7 x8 x9 x10 x11 x12 x13 x14 x15 x16 x17 x18 x19 x20 x21 x22 x23 x24:AV):T AV:=(.n (.n (.n (.n (.n .e x15 .e) x7 (.n .e x23 .e)) x3 (.n (.n .e x19 .e) x11 .e)) x1 (.n (.n (.n .e x17 .e) x9 .e) x5 (.n (.n .e x21 .e) x13 .e))) x0 (.n (.n (.n (.n .e x16 .e) x8 (.n .e x24 .e)) x4 (.n (.n .e x20 .e) x12 .e)) x2 (.n (.n (.n .e x18 .e) x10 .e) x6 (.n (.n .e x22 .e) x14 .e))))
def fr26 (x0 x1 x2 x3 x4 x5 x6 x7 x8 x9 x10 x11 x12 x13 x14 x15 x16 x17 x18 x19 x20 x21 x22 x23 x24 x25:AV):T AV:=(.n (.n (.n (.n (.n .e x15 .e) x7 (.n .e x23 .e)) x3 (.n (.n .e x19 .e) x11 .e)) x1 (.n (.n (.n .e x17 .e) x9 (.n .e x25 .e)) x5 (.n (.n .e x21 .e) x13 .e))) x0 (.n (.n (.n (.n .e x16 .e) x8 (.n .e x24 .e)) x4 (.n (.n .e x20 .e) x12 .e)) x2 (.n (.n (.n .e x18 .e) x10 .e) x6 (.n (.n .e x22 .e) x14 .e))))
def fr32 (x0 x1 x2 x3 x4 x5 x6 x7 x8 x9 x10 x11 x12 x13 x14 x15 x16 x17 x18 x19 x20 x21 x22 x23 x24 x25 x26 x27 x28 x29 x30 x31:AV):T AV:=(.n (.n (.n (.n (.n (.n .e x31 .e) x15 .e) x7 (.n .e x23 .e)) x3 (.n (.n .e x19 .e) x11 (.n .e x27 .e))) x1 (.n (.n (.n .e x17 .e) x9 (.n .e x25 .e)) x5 (.n (.n .e x21 .e) x13 (.n .e x29 .e)))) x0 (.n (.n (.n (.n .e x16 .e) x8 (.n .e x24 .e)) x4 (.n (.n .e x20 .e) x12 (.n .e x28 .e))) x2 (.n (.n (.n .e x18 .e) x10 (.n .e x26 .e)) x6 (.n (.n .e x22 .e) x14 (.n .e x30 .e)))))
abbrev in1:T AV:=fr1 .undef
abbrev in2:T AV:=fr2 .undef .undef
abbrev in3:T AV:=fr3 .undef .undef .undef
abbrev in4:T AV:=fr4 .undef .undef .undef .undef
abbrev in5:T AV:=fr5 .undef .undef .undef .undef .undef
abbrev in6:T AV:=fr6 .undef .undef .undef .undef .undef .undef
abbrev in7:T AV:=fr7 .undef .undef .undef .undef .undef .undef .undef
abbrev in8:T AV:=fr8 .undef .undef .undef .undef .undef .undef .undef .undef
abbrev in9:T AV:=fr9 .undef .undef .undef .undef .undef .undef .undef .undef .undef
abbrev in10:T AV:=fr10 .undef .undef .undef .undef .undef .undef .undef .undef .undef .undef
abbrev in11:T AV:=fr11 .undef .undef .undef .undef .undef .undef .undef .undef .undef .undef .undef
abbrev in12:T AV:=fr12 .undef .undef .undef .undef .undef .undef .undef .undef .undef .undef .undef .undef
abbrev in13:T AV:=fr13 .undef .undef .undef .undef .undef .undef .undef .undef .undef .undef .undef .undef .undef
abbrev in14:T AV:=fr14 .undef .undef .undef .undef .undef .undef .undef .undef .undef .undef .undef .undef .undef .undef
abbrev in15:T AV:=fr15 .undef .undef .undef .undef .undef .undef .undef .undef .undef .undef .undef .undef .undef .undef .undef
abbrev in18:T AV:=fr18 .undef .undef .undef .undef .undef .undef .undef .undef .undef .undef .undef .undef .undef .undef .undef .undef .undef .undef
abbrev in19:T AV:=fr19 .undef .undef .undef .undef .undef .undef .undef .undef .undef .undef .undef .undef .undef .undef .undef .undef .undef .undef .undef
abbrev in20:T AV:=fr20 .undef .undef .undef .undef .undef .undef .undef .undef .undef .undef .undef .undef .undef .undef .undef .undef .undef .undef .undef .undef
abbrev in23:T AV:=fr23 .undef .undef .undef .undef .undef .undef .undef .undef .undef .undef .undef .undef .undef .undef .undef .undef .undef .undef .undef .undef .undef .undef .undef
abbrev in24:T AV:=fr24 .undef .undef .undef .undef .undef .undef .undef .undef .undef .undef .undef .undef .undef .undef .undef .undef .undef .undef .undef .undef .undef .undef .undef .undef
abbrev in25:T AV:=fr25 .undef .undef .undef .undef .undef .undef .undef .undef .undef .undef .undef .undef .undef .undef .undef .undef .undef .undef .undef .undef .undef .undef .undef .undef .undef
abbrev in26:T AV:=fr26 .undef .undef .undef .undef .undef .undef .undef .undef .undef .undef .undef .undef .undef .undef .undef .undef .undef .undef .undef .undef .undef .undef .undef .undef .undef .undef
abbrev in32:T AV:=fr32 .undef .undef .undef .undef .undef .undef .undef .undef .undef .undef .undef .undef .undef .undef .undef .undef .undef .undef .undef .undef .undef .undef .undef .undef .undef .undef .undef .undef .undef .undef .undef .undef
abbrev aT0:Arg:=.t (.of 0)
abbrev aT1:Arg:=.t (.of 1)
abbrev aT2:Arg:=.t (.of 2)
abbrev aT3:Arg:=.t (.of 3)
abbrev aT4:Arg:=.t (.of 4)
abbrev aT5:Arg:=.t (.of 5)
abbrev aT6:Arg:=.t (.of 6)
abbrev aT7:Arg:=.t (.of 7)
abbrev aT8:Arg:=.t (.of 8)
abbrev aT9:Arg:=.t (.of 9)
abbrev bW:Arg:=.t (.of 10)
abbrev ni:Arg:=.t (.of 11)
abbrev rE:Arg:=.t (.of 12)
abbrev fF:Arg:=.t (.of 13)
abbrev tN:Arg:=.t (.of 14)
abbrev oI:Arg:=.t (.of 15)
abbrev aO:Arg:=.t (.of 16)
abbrev aP:Arg:=.t (.of 17)
abbrev aT18:Arg:=.t (.of 18)
abbrev aT19:Arg:=.t (.of 19)
abbrev aT20:Arg:=.t (.of 20)
abbrev aT21:Arg:=.t (.of 21)
abbrev aT22:Arg:=.t (.of 22)
abbrev aT23:Arg:=.t (.of 23)
abbrev aT24:Arg:=.t (.of 24)
abbrev aT25:Arg:=.t (.of 25)
abbrev aT26:Arg:=.t (.of 26)
abbrev aT27:Arg:=.t (.of 27)
abbrev aT28:Arg:=.t (.of 28)
abbrev aT29:Arg:=.t (.of 29)
abbrev aT30:Arg:=.t (.of 30)
abbrev aT31:Arg:=.t (.of 31)
abbrev aS0:Arg:=.s 0
abbrev aS1:Arg:=.s 1
abbrev aS2:Arg:=.s 2
abbrev aS3:Arg:=.s 3
abbrev aS4:Arg:=.s 4
abbrev aS5:Arg:=.s 5
abbrev aS6:Arg:=.s 6
abbrev aS7:Arg:=.s 7
abbrev aS8:Arg:=.s 8
abbrev aS9:Arg:=.s 9
abbrev aS10:Arg:=.s 10
abbrev aS11:Arg:=.s 11
abbrev aS12:Arg:=.s 12
abbrev aS13:Arg:=.s 13
abbrev aS14:Arg:=.s 14
abbrev aS15:Arg:=.s 15
abbrev aC0:Arg:=.c (I 0)
abbrev aC1:Arg:=.c (I 1)
abbrev aC2:Arg:=.c (I 2)
abbrev aC3:Arg:=.c (I 3)
abbrev aC4:Arg:=.c (I 4)
abbrev aC5:Arg:=.c (I 5)
abbrev aC6:Arg:=.c (I 6)
abbrev aC7:Arg:=.c (I 7)
abbrev aC8:Arg:=.c (I 8)
abbrev aC9:Arg:=.c (I 9)
abbrev aC10:Arg:=.c (I 10)
abbrev aC11:Arg:=.c (I 11)
abbrev aC12:Arg:=.c (I 12)
abbrev aC14:Arg:=.c (I 14)
abbrev aC16:Arg:=.c (I 16)
abbrev aC18:Arg:=.c (I 18)
abbrev aC20:Arg:=.c (I 20)
abbrev aC24:Arg:=.c (I 24)
abbrev aC28:Arg:=.c (I 28)
abbrev aC32:Arg:=.c (I 32)
abbrev aC64:Arg:=.c (I 64)
abbrev zv3:Arg:=.c (I 100)
abbrev zrm:Arg:=.c (I 128)
abbrev m9:Arg:=.c (I 256)
abbrev zv4:Arg:=.c (I 600)
abbrev zv5:Arg:=.c (I 720)
abbrev zee:Arg:=.c (I 1536)
abbrev zth:Arg:=.c (I 1800)
abbrev m8:Arg:=.c (I 999999999)
abbrev F15.fr:=fr26
def F15.b9:IR:=(iSr [iSm 22,iQm 13 0] (.seq (.yt [] [(.s (.zi 2 aT3),0,[]),(iSm 7,0,[]),(iSm 13,0,[]),(.s (.zu 2 aS1 aS0),0,[]),(.s (.zi 2 aS0),0,[]),(iCa 73 [aS4,aS0],0,[]),(.s (.mv aS0),0,[]),(.s (.ext 0 aS0),0,[]),(.s (.ext 1 aS1),0,[]),(iQm 14 1,0,[]),(iQm 15 0,0,[])]) (.seq (.yt [] [(iSm 15,0,[]),(.s (.bin .neq .int aS0 aC0),0,[]),(.s (.mv aS0),0,[]),(iPf 0 (.mv tN),0,[]),(iPf 1 (.not aS0),0,[]),(.s (.pick aS2 (.c (.bool true)) aS0),0,[]),(.s (.mv aS0),0,[]),(iPf 0 (.mv fF),0,[]),(iPf 1 (.bin .gtr .int aS0 aC0),0,[]),(iPf 2 (.mv aS0),0,[]),(iPt 0 (.mv aT7),0,[]),(iPt 1 (.mv fF),0,[]),(iPt 2 (.bin .sub .int aS0 aC1),0,[]),(iPt 3 (.zu 2 aS2 aS0),0,[]),(iPt 4 (.zi 2 aS0),0,[]),(iPt 5 (.mv aT7),0,[]),(iPt 6 (.mv fF),0,[]),(iPt 7 (.zu 2 aS1 aS0),0,[]),(iPt 8 (.zi 2 aS0),0,[]),(.w .push (some (aS9,true)) (.call (.c (.fn 85 (.of 85) [])) [aS4,aS0]),0,[]),(iPt 10 (.not aS0),0,[]),(iPf 14 (.pick aS11 aS0 (.c (.bool false))),0,[]),(iQo 24 (.pick aS15 (.c (.bool true)) aS0),0,[])]) (.cond aT24 (iSr [iQo 6 (.mv (.c (.bool false)))] .ret) .skip))))
def F15.g8 (X9:IR):IR:=(.block 1 X9)
def F15.b8:IR:=F15.g8 F15.b9
def F15.b10:IR:=(.reg [.s (.bin .add .int aT22 aC1),iQm 22 0])
def F15.g7 (X8 X10:IR):IR:=(.seq X8 X10)
def F15.b7:IR:=F15.g7 F15.b8 F15.b10
def F15.g6 (X7:IR):IR:=(iSr [iQo 23 (.bin .lss .int aT22 aT21)] (.seq (.cond aT23 .skip (.exit 0)) X7))
def F15.b6:IR:=F15.g6 F15.b7
def F15.g5 (X6:IR):IR:=(.loop X6)
def F15.b5:IR:=F15.g5 F15.b6
def F15.g4 (X5:IR):IR:=(.block 0 X5)
def F15.b4:IR:=F15.g4 F15.b5
def F15.b12:IR:=(.seq (.yt [] [(.s (.zi 2 aT3),1,[]),(.s (.zi 2 aT4),0,[]),(.s (.zi 2 aT5),0,[]),(iCa 65 [aS1,aS0],0,[]),(iCa 73 [aS3,aS0],0,[]),(.s (.mv aS0),0,[]),(.s (.ext 0 aS0),0,[]),(.s (.ext 1 aS1),0,[]),(iQm 16 1,0,[]),(iQm 17 0,0,[])]) (iSr [iSm 17,.s (.bin .eql .int aS0 aC0),.s (.mv aS0),iPt 0 (.mv aT9),iPt 1 (.not aS0),iPt 2 (.mv aS0),iPf 0 (.mv ni),iPf 1 (.not aS0),iPt 5 (.pick aS2 (.c (.bool true)) aS0),iPt 6 (.mv aS0),iPf 0 (.mv aO),iPt 8 (.pick aS1 (.c (.bool true)) aS0),.s (.pick aS9 aS0 (.c (.bool false))),iQm 6 0] .ret))
def F15.g11 (X12:IR):IR:=(.seq (iSr [iSm 7,.s (.len aS0),.s (.bin .leq .int aS0 aC24),.s (.mv aS0),iPt 0 (.mv aT7),iPt 1 (.zn 0 aT3),iPt 2 (.load aS0),.w .push (some (aS3,true)) (.call (.c (.fn 20 (.of 20) [])) [aS2,aS0]),iPt 4 (.bin .neq .int aS0 aC0),iQo 25 (.pick aS5 aS0 (.c (.bool false)))] (.cond aT25 (iSr [iQo 6 (.mv (.c (.bool false)))] .ret) .skip)) X12)
def F15.b11:IR:=F15.g11 F15.b12
def F15.g3 (X4 X11:IR):IR:=(.seq (iSr [iSm 7,iQo 21 (.len aS0),iQo 22 (.mv aC0)] X4) X11)
def F15.b3:IR:=F15.g3 F15.b4 F15.b11
def F15.g2 (X3:IR):IR:=(.seq (iSr [iSm 9,iSm 7,.s (.zn 0 aT4),.s (.load aS0),.s (.build [.zh,(.bool false)] [(0,1,aS0)]),iCa 84 [aS3,aS0],.s (.bin .geq .int aS0 aC0),.s (.bin .neq .bool aS6 aS0),.s (.mv aS0),iPf 0 (.mv ni),iPf 1 (.mv aT7),iPf 2 (.zn 0 aT5),iPf 3 (.load aS0),iPf 4 (.build [.zh,(.bool false)] [(0,1,aS0)]),.w .push (some (aS5,false)) (.call (.c (.fn 84 (.of 84) [])) [aS3,aS0]),iPf 6 (.bin .geq .int aS0 aC0),iPf 7 (.bin .neq .bool aS6 aS0),iQo 20 (.pick aS8 (.c (.bool true)) aS0)] (.cond aT20 (iSr [iQo 6 (.mv (.c (.bool false)))] .ret) .skip)) X3)
def F15.b2:IR:=F15.g2 F15.b3
def F15.g1 (X2:IR):IR:=(iSr [.s (.zi 2 aT3),iCa 34 [aS0],.s (.mv aS0),.s (.ext 0 aS0),.s (.ext 1 aS1),iQm 7 1,iQm 8 0] (iSr [.s (.zi 2 aT3),.s (.zi 2 aT4),iCa 73 [aS1,aS0],.s (.mv aS0),.s (.ext 0 aS0),.s (.ext 1 aS1),iQm 9 1,iQm 10 0] (iSr [.s (.zi 2 aT3),.s (.zi 2 aT5),iCa 73 [aS1,aS0],.s (.mv aS0),.s (.ext 0 aS0),.s (.ext 1 aS1),iQm 11 1,iQm 12 0] (.seq (iSr [iSm 8,iSm 10,.s (.bin .add .int aS1 aS0),iSm 12,.s (.bin .add .int aS1 aS0),.s (.bin .neq .int aS0 aC0),.s (.mv aS0),iPf 0 (.mv aT7),iPf 1 (.len aS0),iPf 2 (.bin .eql .int aS0 aC0),.s (.pick aS3 (.c (.bool true)) aS0),.s (.mv aS0),iPf 0 (.mv aT7),iPf 1 (.len aS0),iPf 2 (.bin .gtr .int aS0 zv5),iQo 19 (.pick aS3 (.c (.bool true)) aS0)] (.cond aT19 (iSr [iQo 6 (.mv (.c (.bool false)))] .ret) .skip)) X2))))
def F15.b1:IR:=F15.g1 F15.b2
def F15.g0 (X1:IR):IR:=(iSr [iWl 3 (.box aT0),iWl 4 (.box aT1),iWl 5 (.box aT2),iQo 6 (.mv (.c (.bool false)))] (.seq (iSr [iCa 18 [],.s (.not aS0),.s (.mv aS0),iPf 0 (.zi 2 aT3),.w .push (some (aS1,false)) (.call (.c (.fn 83 (.of 83) [])) [aS0,aC6,aC8]),iPf 2 (.not aS0),.s (.pick aS3 (.c (.bool true)) aS0),.s (.mv aS0),iPf 0 (.zi 2 aT4),iPf 1 (.zn 0 aT3),iPf 2 (.load aS0),.w .push (some (aS3,false)) (.call (.c (.fn 26 (.of 26) [])) [aS2,aS0]),iPf 4 (.bin .neq .int aS0 aC0),.s (.pick aS5 (.c (.bool true)) aS0),.s (.mv aS0),iPf 0 (.zi 2 aT5),iPf 1 (.zn 0 aT3),iPf 2 (.load aS0),.w .push (some (aS3,false)) (.call (.c (.fn 26 (.of 26) [])) [aS2,aS0]),iPf 4 (.bin .neq .int aS0 aC0),iQo 18 (.pick aS5 (.c (.bool true)) aS0)] (.cond aT18 (iSr [iCa 18 [],iQm 6 0] .ret) .skip)) X1))
def F15.b0:IR:=F15.g0 F15.b1
def F15.res:List RV:=[.t (.of 6)]
def F15:Fn:={ params:=[(.of 0),(.of 1),(.of 2)],res:=F15.res,body:=F15.b0,init:=in26 }
theorem F15.ok:fnA Tryz.prog Tryz.f15 [0,1,2,3,4,5,6,7,8,9,10,11,12,13,14,15,16,17,38,72,90,92,93,94,127,138]=some F15:=by kernel_rfl
abbrev F18.fr:=fr32
def F18.b2:IR:=(iSr [iSm 19,.w .push none (.yc 1 4 [(I 0)] [(0,1,aC0),(1,1,aC2),(2,1,aC6),(3,1,aC8)]),.w .push none (.yc 1 4 [(I 0)] [(0,1,aC1),(1,1,aC3),(2,1,aC5),(3,1,aC7)]),.w .push none (.yc 1 1 [(I 0)] [(0,1,aC4)]),.w .push none (.yc 1 3 [.zh] [(0,1,aS2),(1,1,aS1),(2,1,aS0)]),iCa 81 [aS4,aS0],iQm 0 0] .ret)
def F18.g1 (X2:IR):IR:=(.seq (iSr [iSm 3,.w .push none (.yc 1 9 [(I 0)] [(0,1,aC4),(1,1,aC3),(2,1,aC8),(3,1,aC9),(4,1,aC5),(5,1,aC1),(6,1,aC2),(7,1,aC7),(8,1,aC6)]),iCa 82 [aS1,aS0],.s (.not aS0),.s (.mv aS0),iPf 0 (.mv fF),.w .push (some (aS1,false)) (.call (.c (.fn 89 (.of 89) [])) []),.w .push (some (aS2,false)) (.call (.c (.fn 82 (.of 82) [])) [aS1,aS0]),iPf 3 (.not aS0),.s (.pick aS4 (.c (.bool true)) aS0),.s (.mv aS0),iPf 0 (.mv aT9),iPf 1 (.mv aT7),.w .push (some (aS2,false)) (.call (.c (.fn 69 (.of 69) [])) [aS1,aS0]),iPf 3 (.not aS0),.s (.pick aS4 (.c (.bool true)) aS0),.s (.mv aS0),iPf 0 (.mv aT21),iPf 1 (.mv oI),.w .push (some (aS2,false)) (.call (.c (.fn 69 (.of 69) [])) [aS1,aS0]),iPf 3 (.not aS0),iQo 31 (.pick aS4 (.c (.bool true)) aS0)] (.cond aT31 (iSr [iQo 0 (.mv (.c (.bool false)))] .ret) .skip)) X2)
def F18.b1:IR:=F18.g1 F18.b2
def F18.g0 (X1:IR):IR:=(iSr [iQo 0 (.mv (.c (.bool false)))] (iSr [.w .push none (.yc 1 9 [(I 0)] [(0,1,aC2),(1,1,aC1),(2,1,aC0),(3,1,aC5),(4,1,aC4),(5,1,aC3),(6,1,aC8),(7,1,aC7),(8,1,aC6)]),.s (.build [.zh,(.bool false)] [(0,1,aS0),(1,1,(.c (.bool true)))]),iWl 1 (.alloc [.zh,(.bool false)]),.w .none none (.store 2 aT1 aS0)] (iSr [.w .push none (.yc 1 9 [(I 0)] [(0,1,aC2),(1,1,aC5),(2,1,aC8),(3,1,aC1),(4,1,aC4),(5,1,aC7),(6,1,aC0),(7,1,aC3),(8,1,aC6)]),.s (.build [.zh,(.bool false)] [(0,1,aS0)]),iWl 2 (.alloc [.zh,(.bool false)]),.w .none none (.store 2 aT2 aS0)] (.seq (.yt [] [(.s (.zi 2 aT1),1,[]),(iCa 89 [],0,[]),(iCa 52 [aS1,aS0],0,[]),(.s (.mv aS0),0,[]),(.s (.ext 0 aS0),0,[]),(.s (.ext 1 aS1),0,[]),(iQm 3 1,0,[]),(iQm 4 0,0,[])]) (iSr [.s (.zi 2 aT2),iCa 55 [aS0],.s (.mv aS0),.s (.ext 0 aS0),.s (.ext 1 aS1),iQm 5 1,iQm 6 0] (iSr [iCa 66 [aC3],.s (.mv aS0),.s (.ext 0 aS0),.s (.ext 1 aS1),iQm 7 1,iQm 8 0] (iSr [.s (.zi 2 aT2),.s (.zn 0 aT1),.s (.load aS0),.s (.build [.zh,(.bool false)] [(0,1,aS0)]),.w .push none (.yc 2 2 [.zh,(.bool false)] [(0,2,aS3),(2,2,aS0)]),iCa 27 [aS0,aC9],.s (.mv aS0),.s (.ext 0 aS0),.s (.ext 1 aS1),iQm 9 1,iQm 10 0] (iSr [iSm 7,iCa 89 [],iCa 75 [aS1,aS0],.s (.mv aS0),.s (.ext 0 aS0),.s (.ext 1 aS1),iQm 11 1,iQm 12 0] (iSr [iSm 7,.w .push none (.yc 1 9 [(I 0)] [(0,1,aC8),(1,1,aC3),(2,1,aC4),(3,1,aC1),(4,1,aC5),(5,1,aC9),(6,1,aC6),(7,1,aC7),(8,1,aC2)]),iCa 47 [aS1,aS0],.s (.mv aS0),.s (.ext 0 aS0),.s (.ext 1 aS1),iQm 13 1,iQm 14 0] (iSr [iCa 66 [aC2],.s (.mv aS0),.s (.ext 0 aS0),.s (.ext 1 aS1),iQm 15 1,iQm 16 0] (iSr [iSm 15,iCa 36 [aS0,aC4,aC2],.s (.mv aS0),.s (.ext 0 aS0),.s (.ext 1 aS1),iQm 17 1,iQm 18 0] (iSr [iSm 7,iCa 21 [aS0,aC9],.s (.mv aS0),.s (.ext 0 aS0),.s (.ext 1 aS1),iQm 19 1,iQm 20 0] (iSr [.w .push none (.yc 1 2 [(I 0)] [(0,1,aC0),(1,1,aC1)]),.w .push none (.yc 1 2 [(I 0)] [(0,1,aC2),(1,1,aC3)]),.w .push none (.yc 1 2 [(I 0)] [(0,1,aC0),(1,1,aC2)]),.w .push none (.yc 1 2 [(I 0)] [(0,1,aC1),(1,1,aC3)]),.w .push none (.yc 1 4 [.zh] [(0,1,aS3),(1,1,aS2),(2,1,aS1),(3,1,aS0)]),.s (.build [(I 0),.zh] [(0,1,aC4),(1,1,aS0)]),iCa 34 [aS0],.s (.mv aS0),.s (.ext 0 aS0),.s (.ext 1 aS1),iQm 21 1,iQm 22 0] (iSr [.w .push none (.yc 1 9 [(I 0)] [(0,1,aC0),(1,1,aC1),(2,1,aC2),(3,1,aC3),(4,1,aC4),(5,1,aC5),(6,1,aC6),(7,1,aC7),(8,1,aC8)]),.s (.build [.zh,(.bool false)] [(0,1,aS0)]),.w .push none (.yc 1 9 [(I 0)] [(0,1,aC8),(1,1,aC7),(2,1,aC6),(3,1,aC5),(4,1,aC4),(5,1,aC3),(6,1,aC2),(7,1,aC1),(8,1,aC0)]),.s (.build [.zh,(.bool false)] [(0,1,aS0)]),.w .push none (.yc 2 2 [.zh,(.bool false)] [(0,2,aS2),(2,2,aS0)]),iQm 23 0] (iSr [iSm 7,iSm 23,iCa 39 [aS1,aS0,aC9],.s (.mv aS0),.s (.ext 0 aS0),.s (.ext 1 aS1),iQm 24 1,iQm 25 0] (iSr [iSm 7,iSm 23,iCa 40 [aS1,aS0,aC9],.s (.mv aS0),.s (.ext 0 aS0),.s (.ext 1 aS1),iQm 26 1,iQm 27 0] (iSr [iCa 68 [aC4],.s (.mv aS0),.s (.ext 0 aS0),.s (.ext 1 aS1),iQm 28 1,iQm 29 0] (.seq (iSr [iSm 4,iSm 6,.s (.bin .add .int aS1 aS0),iSm 8,.s (.bin .add .int aS1 aS0),iSm 10,.s (.bin .add .int aS1 aS0),iSm 12,.s (.bin .add .int aS1 aS0),iSm 14,.s (.bin .add .int aS1 aS0),iSm 16,.s (.bin .add .int aS1 aS0),iSm 18,.s (.bin .add .int aS1 aS0),iSm 20,.s (.bin .add .int aS1 aS0),iSm 22,.s (.bin .add .int aS1 aS0),iSm 25,.s (.bin .add .int aS1 aS0),iSm 27,.s (.bin .add .int aS1 aS0),iSm 29,.s (.bin .add .int aS1 aS0),.s (.bin .neq .int aS0 aC0),.s (.mv aS0),iPf 0 (.mv aT5),iPf 1 (.bin .neq .int aS0 aC4),.s (.pick aS2 (.c (.bool true)) aS0),.s (.mv aS0),iPf 0 (.mv aP),iPf 1 (.bin .neq .str aS0 (.c (.str [54]))),.s (.pick aS2 (.c (.bool true)) aS0),.s (.mv aS0),iPf 0 (.mv ni),iPf 1 (.len aS0),iPf 2 (.bin .neq .int aS0 aC8),.s (.pick aS3 (.c (.bool true)) aS0),.s (.mv aS0),iPf 0 (.mv aT24),iPf 1 (.len aS0),iPf 2 (.bin .neq .int aS0 aC4),.s (.pick aS3 (.c (.bool true)) aS0),.s (.mv aS0),iPf 0 (.mv aT26),iPf 1 (.not aS0),.s (.pick aS2 (.c (.bool true)) aS0),.s (.mv aS0),iPf 0 (.mv aT28),iPf 1 (.len aS0),iPf 2 (.bin .neq .int aS0 aC8),.s (.pick aS3 (.c (.bool true)) aS0),.s (.mv aS0),iPf 0 (.mv aT7),iPf 1 (.len aS0),iPf 2 (.bin .neq .int aS0 aC8),iQo 30 (.pick aS3 (.c (.bool true)) aS0)] (.cond aT30 (iSr [iQo 0 (.mv (.c (.bool false)))] .ret) .skip)) X1))))))))))))))))))
def F18.b0:IR:=F18.g0 F18.b1
def F18.res:List RV:=[.t (.of 0)]
def F18:Fn:={ params:=[],res:=F18.res,body:=F18.b0,init:=in32 }
theorem F18.ok:fnA Tryz.prog Tryz.f18 [0,1,2,3,4,5,6,7,8,9,10,11,12,13,14,15,16,17,18,19,20,21,22,23,24,25,26,27,28,29,172,194]=some F18:=by kernel_rfl
abbrev F20.fr:=fr18
def F20.b9:IR:=(iSr [iSm 0,iSm 3,.s (.zu 2 aS1 aS0),.s (.zi 2 aS0),iSm 1,iCa 26 [aS1,aS0],iQm 4 0] (iSr [iSm 4,iQo 12 (.bin .neq .int aS0 aC0)] (.cond rE (iSr [iSm 4,iQm 2 0] .ret) .skip)))
def F20.g8 (X9:IR):IR:=(.block 1 X9)
def F20.b8:IR:=F20.g8 F20.b9
def F20.b10:IR:=(.reg [iSm 3,.s (.bin .add .int aS0 aC1),iQm 3 0])
def F20.g7 (X8 X10:IR):IR:=(.seq X8 X10)
def F20.b7:IR:=F20.g7 F20.b8 F20.b10
def F20.g6 (X7:IR):IR:=(.seq (iSr [iSm 3,iSm 0,.s (.len aS0),iQo 11 (.bin .lss .int aS2 aS0)] (.cond ni .skip (.exit 0))) X7)
def F20.b6:IR:=F20.g6 F20.b7
def F20.g5 (X6:IR):IR:=(.loop X6)
def F20.b5:IR:=F20.g5 F20.b6
def F20.g4 (X5:IR):IR:=(.block 0 X5)
def F20.b4:IR:=F20.g4 F20.b5
def F20.b17:IR:=(.seq (.yt [] [(iSm 0,0,[]),(iSm 5,0,[]),(.s (.bin .sub .int aS0 aC1),0,[]),(.s (.zu 2 aS2 aS0),0,[]),(.s (.zi 2 aS0),0,[]),(iSm 0,0,[]),(iSm 5,0,[]),(.s (.zu 2 aS1 aS0),0,[]),(.s (.zi 2 aS0),0,[]),(iCa 85 [aS4,aS0],0,[]),(iQo 14 (.not aS0),0,[])]) (.cond tN (iSr [iQo 2 (.mv aC11)] .ret) .skip))
def F20.g16 (X17:IR):IR:=(.block 3 X17)
def F20.b16:IR:=F20.g16 F20.b17
def F20.b18:IR:=(.reg [iSm 5,.s (.bin .add .int aS0 aC1),iQm 5 0])
def F20.g15 (X16 X18:IR):IR:=(.seq X16 X18)
def F20.b15:IR:=F20.g15 F20.b16 F20.b18
def F20.g14 (X15:IR):IR:=(.seq (iSr [iSm 5,iSm 0,.s (.len aS0),iQo 13 (.bin .lss .int aS2 aS0)] (.cond fF .skip (.exit 2))) X15)
def F20.b14:IR:=F20.g14 F20.b15
def F20.g13 (X14:IR):IR:=(.loop X14)
def F20.b13:IR:=F20.g13 F20.b14
def F20.g12 (X13:IR):IR:=(.block 2 X13)
def F20.b12:IR:=F20.g12 F20.b13
def F20.b31:IR:=(.seq (.yt [] [(iSm 0,1,[]),(iSm 0,0,[]),(iSm 6,0,[]),(.s (.zu 2 aS1 aS0),0,[]),(.s (.zi 2 aS0),0,[]),(iSm 0,0,[]),(iSm 7,0,[]),(.s (.zu 2 aS1 aS0),0,[]),(.s (.zi 2 aS0),0,[]),(iCa 65 [aS4,aS0],0,[]),(iCa 84 [aS9,aS0],0,[]),(iQo 17 (.bin .lss .int aS0 aC0),0,[])]) (.cond aP (iSr [iQo 2 (.mv aC28)] .ret) .skip))
def F20.g30 (X31:IR):IR:=(.block 7 X31)
def F20.b30:IR:=F20.g30 F20.b31
def F20.b32:IR:=(.reg [iSm 7,.s (.bin .add .int aS0 aC1),iQm 7 0])
def F20.g29 (X30 X32:IR):IR:=(.seq X30 X32)
def F20.b29:IR:=F20.g29 F20.b30 F20.b32
def F20.g28 (X29:IR):IR:=(.seq (iSr [iSm 7,iSm 0,.s (.len aS0),iQo 16 (.bin .lss .int aS2 aS0)] (.cond aO .skip (.exit 6))) X29)
def F20.b28:IR:=F20.g28 F20.b29
def F20.g27 (X28:IR):IR:=(.loop X28)
def F20.b27:IR:=F20.g27 F20.b28
def F20.g26 (X27:IR):IR:=(.block 6 X27)
def F20.b26:IR:=F20.g26 F20.b27
def F20.g25 (X26:IR):IR:=(iSr [iQo 7 (.mv aC0)] X26)
def F20.b25:IR:=F20.g25 F20.b26
def F20.g24 (X25:IR):IR:=(.block 5 X25)
def F20.b24:IR:=F20.g24 F20.b25
def F20.b33:IR:=(.reg [iSm 6,.s (.bin .add .int aS0 aC1),iQm 6 0])
def F20.g23 (X24 X33:IR):IR:=(.seq X24 X33)
def F20.b23:IR:=F20.g23 F20.b24 F20.b33
def F20.g22 (X23:IR):IR:=(.seq (iSr [iSm 6,iSm 0,.s (.len aS0),iQo 15 (.bin .lss .int aS2 aS0)] (.cond oI .skip (.exit 4))) X23)
def F20.b22:IR:=F20.g22 F20.b23
def F20.g21 (X22:IR):IR:=(.loop X22)
def F20.b21:IR:=F20.g21 F20.b22
def F20.g20 (X21:IR):IR:=(.block 4 X21)
def F20.b20:IR:=F20.g20 F20.b21
def F20.b34:IR:=(iSr [iQo 2 (.mv aC0)] .ret)
def F20.g19 (X20 X34:IR):IR:=(.seq (iSr [iQo 6 (.mv aC0)] X20) X34)
def F20.b19:IR:=F20.g19 F20.b20 F20.b34
def F20.g11 (X12 X19:IR):IR:=(.seq (iSr [iQo 5 (.mv aC1)] X12) X19)
def F20.b11:IR:=F20.g11 F20.b12 F20.b19
def F20.g3 (X4 X11:IR):IR:=(.seq (iSr [iQo 3 (.mv aC0)] X4) X11)
def F20.b3:IR:=F20.g3 F20.b4 F20.b11
def F20.g2 (X3:IR):IR:=(.seq (iSr [iSm 0,.s (.len aS0),iQo 10 (.bin .gtr .int aS0 zee)] (.cond bW (iSr [iQo 2 (.mv aC5)] .ret) .skip)) X3)
def F20.b2:IR:=F20.g2 F20.b3
def F20.g1 (X2:IR):IR:=(.seq (iSr [iSm 0,.s (.len aS0),iQo 9 (.bin .eql .int aS0 aC0)] (.cond aT9 (iSr [iQo 2 (.mv aC12)] .ret) .skip)) X2)
def F20.b1:IR:=F20.g1 F20.b2
def F20.g0 (X1:IR):IR:=(iSr [iQo 2 (.mv aC0)] (.seq (iSr [iSm 1,iCa 25 [aS0],iQo 8 (.bin .neq .int aS0 aC0)] (.cond aT8 (iSr [iQo 2 (.mv aC3)] .ret) .skip)) X1))
def F20.b0:IR:=F20.g0 F20.b1
def F20.res:List RV:=[.t (.of 2)]
def F20:Fn:={ params:=[(.of 0),(.of 1)],res:=F20.res,body:=F20.b0,init:=in18 }
theorem F20.ok:fnA Tryz.prog Tryz.f20 [0,1,4,5,6,7,8,9,12,15,18,22,32,37,50,54,60,74]=some F20:=by kernel_rfl
abbrev F21.fr:=fr20
def F21.b11:IR:=(.reg [iWl 9 (.alloc [.zh,(.bool false)]),.w .none none (.store 2 aT9 aT18)])
def F21.b13:IR:=(iSr [.s (.zn 0 aT9),.s (.load aS0),.s (.load aT7),.s (.zu 1 aS1 aS0),.s (.load aS0),iQm 10 0] (iSr [.s (.load aT6),iSm 10,.s (.zu 1 aS1 aS0),.s (.load aS0),iQo 19 (.not aS0)] (.cond aT19 (iSr [.s (.load aT6),iSm 10,.s (.zu 1 aS1 aS0),.w .none none (.store 1 aS0 (.c (.bool true)))] (.reg [.s (.load aT8),iSm 10,.w .push none (.yc 1 1 [(I 0)] [(0,1,aS0)]),.w .push none (.app 1 8 aS2 aS0),.w .none none (.store 1 aT8 aS0)])) .skip)))
def F21.g12 (X13:IR):IR:=(.block 3 X13)
def F21.b12:IR:=F21.g12 F21.b13
def F21.g10 (X11 X12:IR):IR:=(.rf aO [(.of 17),(.of 18)] X11 X12)
def F21.b10:IR:=F21.g10 F21.b11 F21.b12
def F21.g9 (X10:IR):IR:=(.block 2 X10)
def F21.b9:IR:=F21.g9 F21.b10
def F21.b14:IR:=(iSr [.s (.load aT8),iCa 91 [aS0]] (.reg [iSm 5,.s (.load aT8),.w .push none (.yc 1 1 [.zh] [(0,1,aS0)]),.w .push none (.app 1 24 aS2 aS0),iQm 5 0]))
def F21.g8 (X9 X14:IR):IR:=(iSr [iWl 8 (.alloc [.zh])] (.seq (iSr [iSm 0,iWl 16 (.call (.c (.fn 90 (.of 90) [])) [aS0])] X9) X14))
def F21.b8:IR:=F21.g8 F21.b9 F21.b14
def F21.g7 (X8:IR):IR:=(iSr [iSm 13,iWl 7 (.alloc [(I 0)]),.w .none none (.store 1 aT7 aS0)] (.seq (iSr [.s (.load aT6),.s (.load aT7),.s (.zu 1 aS1 aS0),iQo 15 (.load aS0)] (.cond oI (.exit 1) .skip)) X8))
def F21.b7:IR:=F21.g7 F21.b8
def F21.g6 (X7:IR):IR:=(.block 1 X7)
def F21.b6:IR:=F21.g6 F21.b7
def F21.b15:IR:=(.reg [.s (.bin .add .int fF aC1),iQm 13 0])
def F21.g5 (X6 X15:IR):IR:=(.seq X6 X15)
def F21.b5:IR:=F21.g5 F21.b6 F21.b15
def F21.g4 (X5:IR):IR:=(iSr [iQo 14 (.bin .lss .int fF rE)] (.seq (.cond tN .skip (.exit 0)) X5))
def F21.b4:IR:=F21.g4 F21.b5
def F21.g3 (X4:IR):IR:=(.loop X4)
def F21.b3:IR:=F21.g3 F21.b4
def F21.g2 (X3:IR):IR:=(.block 0 X3)
def F21.b2:IR:=F21.g2 F21.b3
def F21.b16:IR:=(iSr [iSm 5,iQm 2 0,iQo 3 (.mv aC0)] .ret)
def F21.g1 (X2 X16:IR):IR:=(iSr [iQo 5 (.mv (.c .zh))] (iSr [iSm 1,.w .push none (.gu 1 1 [(.bool false)] aS0 aS0),iWl 6 (.alloc [.zh]),.w .none none (.store 1 aT6 aS0)] (.seq (iSr [iQo 12 (.mv aT1),iQo 13 (.mv aC0)] X2) X16)))
def F21.b1:IR:=F21.g1 F21.b2 F21.b16
def F21.g0 (X1:IR):IR:=(iSr [iQo 2 (.mv (.c .zh)),iQo 3 (.mv aC0)] (.seq (iSr [iSm 0,iSm 1,iCa 22 [aS1,aS0],iQm 4 0] (iSr [iSm 4,iQo 11 (.bin .neq .int aS0 aC0)] (.cond ni (iSr [iSm 4,iQo 2 (.mv (.c .zh)),iQm 3 0] .ret) .skip))) X1))
def F21.b0:IR:=F21.g0 F21.b1
def F21.res:List RV:=[.t (.of 2),.t (.of 3)]
def F21:Fn:={ params:=[(.of 0),(.of 1)],res:=F21.res,body:=F21.b0,init:=in20 }
theorem F21.ok:fnA Tryz.prog Tryz.f21 [0,1,4,5,6,7,8,9,10,12,13,18,22,23,24,29,31,32,33,43]=some F21:=by kernel_rfl
abbrev F22.fr:=fr4
def F22.b0:IR:=(iSr [iQo 2 (.mv aC0)] (iSr [iSm 0,iSm 1,iCa 92 [aS1,aS0],.s (.mv aS0),.s (.ext 0 aS0),.s (.ext 1 aS1),.s (.ext 2 aS2),.s (.mv aS2),.s (.mv aS2),iQm 3 2] (iSr [iSm 3,iQm 2 0] .ret)))
def F22.res:List RV:=[.t (.of 2)]
def F22:Fn:={ params:=[(.of 0),(.of 1)],res:=F22.res,body:=F22.b0,init:=in4 }
theorem F22.ok:fnA Tryz.prog Tryz.f22 [0,1,4,7]=some F22:=by kernel_rfl
abbrev F25.fr:=fr3
def F25.b1:IR:=(iSr [iQo 1 (.mv aC0)] .ret)
def F25.g0 (X1:IR):IR:=(iSr [iQo 1 (.mv aC0)] (.seq (iSr [iSm 0,.s (.bin .lss .int aS0 aC0),.s (.mv aS0),iPf 0 (.mv aT0),iPf 1 (.bin .gtr .int aS0 m9),iQo 2 (.pick aS2 (.c (.bool true)) aS0)] (.cond aT2 (iSr [iQo 1 (.mv aC3)] .ret) .skip)) X1))
def F25.b0:IR:=F25.g0 F25.b1
def F25.res:List RV:=[.t (.of 1)]
def F25:Fn:={ params:=[(.of 0)],res:=F25.res,body:=F25.b0,init:=in3 }
theorem F25.ok:fnA Tryz.prog Tryz.f25 [0,2,8]=some F25:=by kernel_rfl
abbrev F26.fr:=fr6
def F26.b2:IR:=(iSr [.s (.zn 0 aT2),.s (.load aS0),iCa 93 [aS0],iQm 3 0] .ret)
def F26.g1 (X2:IR):IR:=(.seq (iSr [.s (.zn 0 aT2),.s (.load aS0),.s (.len aS0),iSm 1,iQo 5 (.bin .neq .int aS1 aS0)] (.cond aT5 (iSr [iQo 3 (.mv aC2)] .ret) .skip)) X2)
def F26.b1:IR:=F26.g1 F26.b2
def F26.g0 (X1:IR):IR:=(iSr [iWl 2 (.box aT0),iQo 3 (.mv aC0)] (.seq (iSr [iSm 1,iCa 25 [aS0],iQo 4 (.bin .neq .int aS0 aC0)] (.cond aT4 (iSr [iQo 3 (.mv aC3)] .ret) .skip)) X1))
def F26.b0:IR:=F26.g0 F26.b1
def F26.res:List RV:=[.t (.of 3)]
def F26:Fn:={ params:=[(.of 0),(.of 1)],res:=F26.res,body:=F26.b0,init:=in6 }
theorem F26.ok:fnA Tryz.prog Tryz.f26 [0,1,2,4,7,12]=some F26:=by kernel_rfl
abbrev F27.fr:=fr11
def F27.b3:IR:=(iSr [iSm 6,iCa 99 [aS0],iQm 2 0,iQo 3 (.mv aC0)] .ret)
def F27.g2 (X3:IR):IR:=(iSr [iSm 0,iSm 1,iCa 98 [aS1,aS0,zee],.s (.mv aS0),.s (.ext 0 aS0),.s (.ext 1 aS1),.s (.ext 2 aS2),iQm 6 2,.s (.mv aS1),iQm 7 1] (.seq (iSr [iSm 7,iQo 10 (.not aS0)] (.cond bW (iSr [iQo 2 (.mv (.c .zh)),iQo 3 (.mv aC20)] .ret) .skip)) X3))
def F27.b2:IR:=F27.g2 F27.b3
def F27.g1 (X2:IR):IR:=(.seq (iSr [iSm 0,iSm 1,iCa 97 [aS1,aS0],iQm 5 0] (iSr [iSm 5,iQo 9 (.bin .neq .int aS0 aC0)] (.cond aT9 (iSr [iSm 5,iQo 2 (.mv (.c .zh)),iQm 3 0] .ret) .skip))) X2)
def F27.b1:IR:=F27.g1 F27.b2
def F27.g0 (X1:IR):IR:=(iSr [iQo 2 (.mv (.c .zh)),iQo 3 (.mv aC0)] (.seq (iSr [iSm 1,iCa 95 [aS0],iSm 0,.s (.len aS0),.s (.bin .gtr .int aS0 m9),iCa 96 [aS0,aC5],.w .push none (.yc 1 2 [(I 0)] [(0,1,aS4),(1,1,aS0)]),iCa 94 [aS0],iQm 4 0] (iSr [iSm 4,iQo 8 (.bin .neq .int aS0 aC0)] (.cond aT8 (iSr [iSm 4,iQo 2 (.mv (.c .zh)),iQm 3 0] .ret) .skip))) X1))
def F27.b0:IR:=F27.g0 F27.b1
def F27.res:List RV:=[.t (.of 2),.t (.of 3)]
def F27:Fn:={ params:=[(.of 0),(.of 1)],res:=F27.res,body:=F27.b0,init:=in11 }
theorem F27.ok:fnA Tryz.prog Tryz.f27 [0,1,4,5,6,7,8,10,20,26,36]=some F27:=by kernel_rfl
abbrev F30.fr:=fr5
def F30.b0:IR:=(iSr [iWl 2 (.box aT0),iWl 3 (.box aT1),iQo 4 (.mv (.c (.bool false)))] (iSr [.s (.zn 1 aT2),.s (.load aS0),.s (.zn 1 aT3),.s (.load aS0),.s (.bin .eql .bool aS2 aS0),.s (.mv aS0),iPt 0 (.zn 0 aT2),iPt 1 (.load aS0),iPt 2 (.zn 0 aT3),iPt 3 (.load aS0),.w .push (some (aS4,true)) (.call (.c (.fn 82 (.of 82) [])) [aS2,aS0]),.s (.pick aS5 aS0 (.c (.bool false))),iQm 4 0] .ret))
def F30.res:List RV:=[.t (.of 4)]
def F30:Fn:={ params:=[(.of 0),(.of 1)],res:=F30.res,body:=F30.b0,init:=in5 }
theorem F30.ok:fnA Tryz.prog Tryz.f30 [0,1,2,3,4]=some F30:=by kernel_rfl
abbrev F32.fr:=fr9
def F32.b7:IR:=(iSr [.s (.zn 1 aT3),.s (.load aS0),iSm 5,.s (.zu 1 aS1 aS0),.s (.load aS0),.s (.len aS0),iSm 1,iQo 8 (.bin .gtr .int aS1 aS0)] (.cond aT8 (iSr [iQo 4 (.mv (.c (.bool false)))] .ret) .skip))
def F32.g6 (X7:IR):IR:=(.block 1 X7)
def F32.b6:IR:=F32.g6 F32.b7
def F32.b8:IR:=(.reg [iSm 5,.s (.bin .add .int aS0 aC1),iQm 5 0])
def F32.g5 (X6 X8:IR):IR:=(.seq X6 X8)
def F32.b5:IR:=F32.g5 F32.b6 F32.b8
def F32.g4 (X5:IR):IR:=(.seq (iSr [iSm 5,.s (.zn 1 aT3),.s (.load aS0),.s (.len aS0),iQo 7 (.bin .lss .int aS3 aS0)] (.cond aT7 .skip (.exit 0))) X5)
def F32.b4:IR:=F32.g4 F32.b5
def F32.g3 (X4:IR):IR:=(.loop X4)
def F32.b3:IR:=F32.g3 F32.b4
def F32.g2 (X3:IR):IR:=(.block 0 X3)
def F32.b2:IR:=F32.g2 F32.b3
def F32.b9:IR:=(iSr [iQo 4 (.mv (.c (.bool true)))] .ret)
def F32.g1 (X2 X9:IR):IR:=(.seq (iSr [iQo 5 (.mv aC0)] X2) X9)
def F32.b1:IR:=F32.g1 F32.b2 F32.b9
def F32.g0 (X1:IR):IR:=(iSr [iWl 3 (.box aT0),iQo 4 (.mv (.c (.bool false)))] (.seq (iSr [.s (.zn 1 aT3),.s (.load aS0),.s (.len aS0),iSm 2,iQo 6 (.bin .gtr .int aS1 aS0)] (.cond aT6 (iSr [iQo 4 (.mv (.c (.bool false)))] .ret) .skip)) X1))
def F32.b0:IR:=F32.g0 F32.b1
def F32.res:List RV:=[.t (.of 4)]
def F32:Fn:={ params:=[(.of 0),(.of 1),(.of 2)],res:=F32.res,body:=F32.b0,init:=in9 }
theorem F32.ok:fnA Tryz.prog Tryz.f32 [0,1,2,3,6,7,12,17,27]=some F32:=by kernel_rfl
abbrev F33.fr:=fr14
def F33.b16:IR:=(.seq (.yt [] [(iSm 5,0,[]),(.s (.bin .gtr .int aS0 aC0),0,[]),(.s (.mv aS0),0,[]),(iPt 0 (.mv aT4),0,[]),(iPt 1 (.mv aT5),0,[]),(iPt 2 (.zu 1 aS1 aS0),0,[]),(iPt 3 (.load aS0),0,[]),(iPt 4 (.mv aT4),0,[]),(iPt 5 (.mv aT5),0,[]),(iPt 6 (.bin .sub .int aS0 aC1),0,[]),(iPt 7 (.zu 1 aS2 aS0),0,[]),(iPt 8 (.load aS0),0,[]),(iPt 9 (.bin .leq .int aS5 aS0),0,[]),(iQo 12 (.pick aS10 aS0 (.c (.bool false))),0,[])]) (.cond rE (iSr [iQo 2 (.mv aC11)] .ret) .skip))
def F33.g15 (X16:IR):IR:=(.seq (.seq (.yt [] [(iSm 4,0,[]),(iSm 5,0,[]),(.s (.zu 1 aS1 aS0),0,[]),(.s (.load aS0),0,[]),(.s (.bin .lss .int aS0 aC0),0,[]),(.s (.mv aS0),0,[]),(iPf 0 (.mv aT4),0,[]),(iPf 1 (.mv aT5),0,[]),(iPf 2 (.zu 1 aS1 aS0),0,[]),(iPf 3 (.load aS0),0,[]),(iPf 4 (.zn 0 aT1),0,[]),(iPf 5 (.load aS0),0,[]),(iPf 6 (.bin .geq .int aS2 aS0),0,[]),(iQo 11 (.pick aS7 (.c (.bool true)) aS0),0,[])]) (.cond ni (iSr [iQo 2 (.mv aC10)] .ret) .skip)) X16)
def F33.b15:IR:=F33.g15 F33.b16
def F33.g14 (X15:IR):IR:=(.block 3 X15)
def F33.b14:IR:=F33.g14 F33.b15
def F33.b17:IR:=(.reg [iSm 5,.s (.bin .add .int aS0 aC1),iQm 5 0])
def F33.g13 (X14 X17:IR):IR:=(.seq X14 X17)
def F33.b13:IR:=F33.g13 F33.b14 F33.b17
def F33.g12 (X13:IR):IR:=(.seq (iSr [iSm 5,iSm 4,.s (.len aS0),iQo 10 (.bin .lss .int aS2 aS0)] (.cond bW .skip (.exit 2))) X13)
def F33.b12:IR:=F33.g12 F33.b13
def F33.g11 (X12:IR):IR:=(.loop X12)
def F33.b11:IR:=F33.g11 F33.b12
def F33.g10 (X11:IR):IR:=(.block 2 X11)
def F33.b10:IR:=F33.g10 F33.b11
def F33.b18:IR:=(iSr [.s (.zn 1 aT1),.s (.load aS0),iSm 3,.s (.slice 1 aS1 none (some aS0) none),iSm 4,iWl 13 (.call (.c (.fn 102 (.of 102) [])) [aS1,aS0])] (.cond fF (iSr [iQo 2 (.mv aC9)] .ret) .skip))
def F33.g9 (X10 X18:IR):IR:=(.seq (iSr [iQo 5 (.mv aC0)] X10) X18)
def F33.b9:IR:=F33.g9 F33.b10 F33.b18
def F33.g8 (X9:IR):IR:=(iSr [.s (.zn 1 aT1),.s (.load aS0),iSm 3,.s (.zu 1 aS1 aS0),.s (.load aS0),iQm 4 0] (.seq (iSr [iSm 4,.s (.len aS0),iQo 9 (.bin .eql .int aS0 aC0)] (.cond aT9 (iSr [iQo 2 (.mv aC12)] .ret) .skip)) X9))
def F33.b8:IR:=F33.g8 F33.b9
def F33.g7 (X8:IR):IR:=(.block 1 X8)
def F33.b7:IR:=F33.g7 F33.b8
def F33.b19:IR:=(.reg [iSm 3,.s (.bin .add .int aS0 aC1),iQm 3 0])
def F33.g6 (X7 X19:IR):IR:=(.seq X7 X19)
def F33.b6:IR:=F33.g6 F33.b7 F33.b19
def F33.g5 (X6:IR):IR:=(.seq (iSr [iSm 3,.s (.zn 1 aT1),.s (.load aS0),.s (.len aS0),iQo 8 (.bin .lss .int aS3 aS0)] (.cond aT8 .skip (.exit 0))) X6)
def F33.b5:IR:=F33.g5 F33.b6
def F33.g4 (X5:IR):IR:=(.loop X5)
def F33.b4:IR:=F33.g4 F33.b5
def F33.g3 (X4:IR):IR:=(.block 0 X4)
def F33.b3:IR:=F33.g3 F33.b4
def F33.b20:IR:=(iSr [iQo 2 (.mv aC0)] .ret)
def F33.g2 (X3 X20:IR):IR:=(.seq (iSr [iQo 3 (.mv aC0)] X3) X20)
def F33.b2:IR:=F33.g2 F33.b3 F33.b20
def F33.g1 (X2:IR):IR:=(.seq (iSr [.s (.zn 1 aT1),.s (.load aS0),.s (.len aS0),iQo 7 (.bin .gtr .int aS0 zrm)] (.cond aT7 (iSr [iQo 2 (.mv aC5)] .ret) .skip)) X2)
def F33.b1:IR:=F33.g1 F33.b2
def F33.g0 (X1:IR):IR:=(iSr [iWl 1 (.box aT0),iQo 2 (.mv aC0)] (.seq (iSr [.s (.zn 0 aT1),.s (.load aS0),.s (.bin .lss .int aS0 aC1),.s (.mv aS0),iPf 0 (.zn 0 aT1),iPf 1 (.load aS0),iPf 2 (.bin .gtr .int aS0 m9),iQo 6 (.pick aS3 (.c (.bool true)) aS0)] (.cond aT6 (iSr [iQo 2 (.mv aC3)] .ret) .skip)) X1))
def F33.b0:IR:=F33.g0 F33.b1
def F33.res:List RV:=[.t (.of 2)]
def F33:Fn:={ params:=[(.of 0)],res:=F33.res,body:=F33.b0,init:=in14 }
theorem F33.ok:fnA Tryz.prog Tryz.f33 [0,1,2,3,4,5,13,17,22,32,36,52,66,72]=some F33:=by kernel_rfl
abbrev F34.fr:=fr19
def F34.b7:IR:=(iSr [.s (.zu 1 tN aO),.s (.load aS0),iQm 7 0] (iSr [iSm 7,iSm 7,.s (.len aS0),.s (.bin .sub .int aS0 aC1),.s (.zu 1 aS3 aS0),.s (.load aS0),iQm 8 0] (.yt [] [(.s (.load aT6),2,[]),(iSm 8,2,[]),(.s (.load aT6),1,[]),(iSm 8,1,[]),(.s (.zu 1 aS1 aS0),1,[]),(.s (.load aS0),1,[]),(iSm 7,0,[]),(.w .push none (.yc 1 1 [.zh] [(0,1,aS0)]),0,[]),(.w .push none (.app 1 24 aS2 aS0),0,[]),(.s (.zu 1 aS8 aS7),0,[]),(.w .none none (.store 1 aS0 aS1),0,[])])))
def F34.g6 (X7:IR):IR:=(.block 1 X7)
def F34.b6:IR:=F34.g6 F34.b7
def F34.b8:IR:=(.reg [.s (.bin .add .int aO aC1),iQm 16 0])
def F34.g5 (X6 X8:IR):IR:=(.seq X6 X8)
def F34.b5:IR:=F34.g5 F34.b6 F34.b8
def F34.g4 (X5:IR):IR:=(iSr [iQo 17 (.bin .lss .int aO oI)] (.seq (.cond aP .skip (.exit 0)) X5))
def F34.b4:IR:=F34.g4 F34.b5
def F34.g3 (X4:IR):IR:=(.loop X4)
def F34.b3:IR:=F34.g3 F34.b4
def F34.g2 (X3:IR):IR:=(.block 0 X3)
def F34.b2:IR:=F34.g2 F34.b3
def F34.b10:IR:=(iSr [.s (.load aT9),iQm 2 0,iQo 3 (.mv aC0)] .ret)
def F34.g9 (X10:IR):IR:=(iSr [iWl 9 (.alloc [.zh])] (iSr [.s (.zn 0 aT1),.s (.load aS0),.w .push none (.gu 1 8 [(I 0)] aS0 aS0),iWl 10 (.alloc [.zh]),.w .none none (.store 1 bW aS0)] (iSr [.s (.zn 0 aT1),.s (.load aS0),.w .push none (.gu 1 1 [(.bool false)] aS0 aS0),iWl 11 (.alloc [.zh]),.w .none none (.store 1 ni aS0)] (iSr [iWl 12 (.alloc [.fK])] (iSr [.s (.fn 105 (.of 105) [aT1,aT9,bW,ni,aT6,aT5,rE]),.w .none none (.store 1 rE aS0)] (.seq (iSr [.s (.load rE),.w .push none (.call aS0 [aC0]),iQo 18 (.not aS0)] (.cond aT18 (iSr [iQo 2 (.mv (.c .zh)),iQo 3 (.mv aC5)] .ret) .skip)) X10))))))
def F34.b9:IR:=F34.g9 F34.b10
def F34.g1 (X2 X9:IR):IR:=(iSr [.s (.zi 2 aT1),iCa 104 [aS0],iWl 5 (.alloc [.fK]),.w .none none (.store 1 aT5 aS0)] (iSr [.s (.zn 0 aT1),.s (.load aS0),.w .push none (.gu 1 24 [.zh] aS0 aS0),iWl 6 (.alloc [.zh]),.w .none none (.store 1 aT6 aS0)] (.seq (iSr [.s (.zn 1 aT1),iQo 14 (.load aS0),iQo 15 (.len tN),iQo 16 (.mv aC0)] X2) X9)))
def F34.b1:IR:=F34.g1 F34.b2 F34.b9
def F34.g0 (X1:IR):IR:=(iSr [iWl 1 (.box aT0),iQo 2 (.mv (.c .zh)),iQo 3 (.mv aC0)] (.seq (.seq (.yt [] [(.s (.zi 2 aT1),0,[]),(.s (.zn 0 aT1),1,[]),(.s (.load aS0),1,[]),(.s (.bin .gtr .int aS0 aC9),1,[]),(iCa 103 [aS3],0,[]),(iCa 96 [aS1,aC20],0,[]),(.w .push none (.yc 1 2 [(I 0)] [(0,1,aS1),(1,1,aS0)]),0,[]),(iCa 94 [aS0],0,[]),(iQm 4 0,0,[])]) (iSr [iSm 4,iQo 13 (.bin .neq .int aS0 aC0)] (.cond fF (iSr [iSm 4,iQo 2 (.mv (.c .zh)),iQm 3 0] .ret) .skip))) X1))
def F34.b0:IR:=F34.g0 F34.b1
def F34.res:List RV:=[.t (.of 2),.t (.of 3)]
def F34:Fn:={ params:=[(.of 0)],res:=F34.res,body:=F34.b0,init:=in19 }
theorem F34.ok:fnA Tryz.prog Tryz.f34 [0,1,2,3,4,5,6,8,9,10,11,12,13,23,31,32,33,34,63]=some F34:=by kernel_rfl
abbrev F36.fr:=fr15
def F36.b4:IR:=(.reg [iWl 8 (.alloc [.zh,(.bool false)]),.w .none none (.store 2 aT8 fF)])
def F36.b6:IR:=(.yt [] [(.s (.zi 2 aT7),1,[]),(.s (.zi 2 aT8),0,[]),(.s (.load aT3),0,[]),(iCa 112 [aS1,aS0],0,[]),(iCa 111 [aS3,aS0],0,[]),(.w .none none (.store 2 aT7 aS0),0,[])])
def F36.g5 (X6:IR):IR:=(.block 1 X6)
def F36.b5:IR:=F36.g5 F36.b6
def F36.g3 (X4 X5:IR):IR:=(.rf ni [(.of 12),(.of 13)] X4 X5)
def F36.b3:IR:=F36.g3 F36.b4 F36.b5
def F36.g2 (X3:IR):IR:=(.block 0 X3)
def F36.b2:IR:=F36.g2 F36.b3
def F36.b8:IR:=(iSr [.s (.zi 4 aT9),iCa 116 [aS0],iQm 4 0,iQo 5 (.mv aC0)] .ret)
def F36.g7 (X8:IR):IR:=(.seq (.yt [(.alloc [(I 0),.zh,(I 0),.zh])] [(.s (.zi 2 aT7),4,[]),(iSm 0,4,[]),(.s (.len aS0),4,[]),(iCa 110 [aS0],0,[]),(iCa 114 [aS3,aS0],0,[]),(iCa 113 [aS0],0,[]),(iWl 9 (.alloc [(I 0),.zh,(I 0),.zh]),0,[]),(.w .none none (.store 4 aT9 aS0),0,[])]) (.seq (iSr [.s (.zi 4 aT9),iWl 14 (.call (.c (.fn 115 (.of 115) [])) [aS0])] (.cond tN (iSr [iQo 4 (.mv (.c (.str []))),iQo 5 (.mv aC4)] .ret) .skip)) X8))
def F36.b7:IR:=F36.g7 F36.b8
def F36.g1 (X2 X7:IR):IR:=(iSr [iCa 110 [aC0],iWl 7 (.alloc [(I 0),.zh]),.w .none none (.store 2 aT7 aS0)] (.seq (iSr [iSm 0,iWl 11 (.call (.c (.fn 90 (.of 90) [])) [aS0])] X2) X7))
def F36.b1:IR:=F36.g1 F36.b2 F36.b7
def F36.g0 (X1:IR):IR:=(iSr [iWl 3 (.box aT2),iQo 4 (.mv (.c (.str []))),iQo 5 (.mv aC0)] (.seq (.seq (.yt [] [(iSm 0,0,[]),(iSm 1,0,[]),(.s (.load aT3),1,[]),(.s (.bin .lss .int aS0 aC0),1,[]),(iCa 22 [aS3,aS2],0,[]),(.s (.mv aS1),0,[]),(iPf 0 (.load aT3),0,[]),(iPf 1 (.bin .gtr .int aS0 m8),0,[]),(.s (.pick aS2 (.c (.bool true)) aS0),0,[]),(iCa 96 [aS0,aC3],0,[]),(.w .push none (.yc 1 2 [(I 0)] [(0,1,aS5),(1,1,aS0)]),0,[]),(iCa 94 [aS0],0,[]),(iQm 6 0,0,[])]) (iSr [iSm 6,iQo 10 (.bin .neq .int aS0 aC0)] (.cond bW (iSr [iSm 6,iQo 4 (.mv (.c (.str []))),iQm 5 0] .ret) .skip))) X1))
def F36.b0:IR:=F36.g0 F36.b1
def F36.res:List RV:=[.t (.of 4),.t (.of 5)]
def F36:Fn:={ params:=[(.of 0),(.of 1),(.of 2)],res:=F36.res,body:=F36.b0,init:=in15 }
theorem F36.ok:fnA Tryz.prog Tryz.f36 [0,1,2,5,6,7,8,9,11,12,26,30,31,32,45]=some F36:=by kernel_rfl
abbrev F39.fr:=fr20
def F39.b4:IR:=(.reg [iWl 9 (.alloc [.zh,(.bool false)]),.w .none none (.store 2 aT9 oI)])
def F39.b10:IR:=(.reg [iWl 10 (.alloc [.zh,(.bool false)]),.w .none none (.store 2 bW aT19)])
def F39.b12:IR:=(iSr [.s (.zi 2 aT9),.s (.zi 2 bW),iCa 122 [aS1,aS0],iWl 11 (.alloc [.zh,(.bool false)]),.w .none none (.store 2 ni aS0)] (.yt [] [(.s (.load aT7),1,[]),(.s (.zi 2 ni),0,[]),(.s (.zi 2 ni),1,[]),(iCa 123 [aS1],0,[]),(.w .none none (.aT .str aS3 aS0 aS1),0,[])]))
def F39.g11 (X12:IR):IR:=(.block 3 X12)
def F39.b11:IR:=F39.g11 F39.b12
def F39.g9 (X10 X11:IR):IR:=(.rf aP [(.of 18),(.of 19)] X10 X11)
def F39.b9:IR:=F39.g9 F39.b10 F39.b11
def F39.g8 (X9:IR):IR:=(.block 2 X9)
def F39.b8:IR:=F39.g8 F39.b9
def F39.b13:IR:=(.yt [] [(.s (.load aT8),2,[]),(.s (.zn 0 aT9),0,[]),(.s (.load aS0),0,[]),(.s (.zn 1 aT9),1,[]),(.s (.load aS0),1,[]),(iCa 106 [aS2],0,[]),(.s (.build [.zh,(.bool false)] [(0,1,aS0),(1,1,aS1)]),0,[]),(.w .push none (.yc 2 1 [.zh,(.bool false)] [(0,2,aS0)]),0,[]),(.w .push none (.appq 2 32 aS7 aS0),0,[]),(.w .none none (.store 1 aT8 aS0),0,[])])
def F39.g7 (X8 X13:IR):IR:=(.seq (iSr [.s (.load aT3),iWl 17 (.call (.c (.fn 90 (.of 90) [])) [aS0])] X8) X13)
def F39.b7:IR:=F39.g7 F39.b8 F39.b13
def F39.g6 (X7:IR):IR:=(.seq (iSr [.s (.load aT7),.s (.zi 2 aT9),iWl 16 (.call (.c (.fn 121 (.of 121) [])) [aS1,aS0])] (.cond aO (.exit 1) .skip)) X7)
def F39.b6:IR:=F39.g6 F39.b7
def F39.g5 (X6:IR):IR:=(.block 1 X6)
def F39.b5:IR:=F39.g5 F39.b6
def F39.g3 (X4 X5:IR):IR:=(.rf fF [(.of 14),(.of 15)] X4 X5)
def F39.b3:IR:=F39.g3 F39.b4 F39.b5
def F39.g2 (X3:IR):IR:=(.block 0 X3)
def F39.b2:IR:=F39.g2 F39.b3
def F39.b14:IR:=(iSr [.s (.load aT8),iQm 4 0,iQo 5 (.mv aC0)] .ret)
def F39.g1 (X2 X14:IR):IR:=(iSr [.w .push none .fP,iWl 7 (.alloc [.jm]),.w .none none (.store 1 aT7 aS0)] (iSr [iWl 8 (.alloc [.zh])] (.seq (iSr [iSm 0,iWl 13 (.call (.c (.fn 90 (.of 90) [])) [aS0])] X2) X14)))
def F39.b1:IR:=F39.g1 F39.b2 F39.b14
def F39.g0 (X1:IR):IR:=(iSr [iWl 3 (.box aT1),iQo 4 (.mv (.c .zh)),iQo 5 (.mv aC0)] (.seq (iSr [iSm 0,.s (.load aT3),iSm 2,iCa 120 [aS2,aS1,aS0],.s (.mv aS0),.s (.ext 0 aS0),.s (.ext 1 aS1),.s (.ext 2 aS2),.w .push none (.alloc [.zh,.zh]),.s (.mv aS3),.w .none none (.store 2 aS1 aS3),iQm 6 2] (iSr [iSm 6,iQo 12 (.bin .neq .int aS0 aC0)] (.cond rE (iSr [iSm 6,iQo 4 (.mv (.c .zh)),iQm 5 0] .ret) .skip))) X1))
def F39.b0:IR:=F39.g0 F39.b1
def F39.res:List RV:=[.t (.of 4),.t (.of 5)]
def F39:Fn:={ params:=[(.of 0),(.of 1),(.of 2)],res:=F39.res,body:=F39.b0,init:=in20 }
theorem F39.ok:fnA Tryz.prog Tryz.f39 [0,1,2,4,6,7,10,11,12,14,16,17,27,31,32,33,36,38,39,40]=some F39:=by kernel_rfl
abbrev F40.fr:=fr20
def F40.b13:IR:=(iSr [.s (.zu 2 oI aP),.s (.zi 2 aS0),iWl 9 (.alloc [.zh,(.bool false)]),.w .none none (.store 2 aT9 aS0)] (.seq (.yt [] [(iSm 5,3,[]),(.s (.zi 2 aT8),0,[]),(.s (.zi 2 aT9),0,[]),(.s (.zi 2 aT8),1,[]),(iCa 122 [aS2,aS1],0,[]),(iCa 124 [aS1],0,[]),(iCa 122 [aS1,aS0],0,[]),(iCa 121 [aS6,aS0],0,[]),(iQo 19 (.not aS0),0,[])]) (.cond aT19 (iSr [iQo 3 (.mv (.c (.bool false))),iQo 4 (.mv aC0)] .ret) .skip)))
def F40.g12 (X13:IR):IR:=(.block 3 X13)
def F40.b12:IR:=F40.g12 F40.b13
def F40.b14:IR:=(.reg [.s (.bin .add .int aP aC1),iQm 17 0])
def F40.g11 (X12 X14:IR):IR:=(.seq X12 X14)
def F40.b11:IR:=F40.g11 F40.b12 F40.b14
def F40.g10 (X11:IR):IR:=(iSr [iQo 18 (.bin .lss .int aP aO)] (.seq (.cond aT18 .skip (.exit 2)) X11))
def F40.b10:IR:=F40.g10 F40.b11
def F40.g9 (X10:IR):IR:=(.loop X10)
def F40.b9:IR:=F40.g9 F40.b10
def F40.g8 (X9:IR):IR:=(.block 2 X9)
def F40.b8:IR:=F40.g8 F40.b9
def F40.g7 (X8:IR):IR:=(iSr [.s (.zu 2 ni fF),.s (.zi 2 aS0),iWl 8 (.alloc [.zh,(.bool false)]),.w .none none (.store 2 aT8 aS0)] (iSr [.s (.tV 1 2 aT6 aC1),iQo 15 (.load aS0),iQo 16 (.len oI),iQo 17 (.mv aC0)] X8))
def F40.b7:IR:=F40.g7 F40.b8
def F40.g6 (X7:IR):IR:=(.block 1 X7)
def F40.b6:IR:=F40.g6 F40.b7
def F40.b15:IR:=(.reg [.s (.bin .add .int fF aC1),iQm 13 0])
def F40.g5 (X6 X15:IR):IR:=(.seq X6 X15)
def F40.b5:IR:=F40.g5 F40.b6 F40.b15
def F40.g4 (X5:IR):IR:=(iSr [iQo 14 (.bin .lss .int fF rE)] (.seq (.cond tN .skip (.exit 0)) X5))
def F40.b4:IR:=F40.g4 F40.b5
def F40.g3 (X4:IR):IR:=(.loop X4)
def F40.b3:IR:=F40.g3 F40.b4
def F40.g2 (X3:IR):IR:=(.block 0 X3)
def F40.b2:IR:=F40.g2 F40.b3
def F40.b16:IR:=(iSr [iQo 3 (.mv (.c (.bool true))),iQo 4 (.mv aC0)] .ret)
def F40.g1 (X2 X16:IR):IR:=(.seq (iSr [.s (.tV 1 2 aT6 aC0),iQo 11 (.load aS0),iQo 12 (.len ni),iQo 13 (.mv aC0)] X2) X16)
def F40.b1:IR:=F40.g1 F40.b2 F40.b16
def F40.g0 (X1:IR):IR:=(iSr [iQo 3 (.mv (.c (.bool false))),iQo 4 (.mv aC0)] (iSr [iSm 0,iSm 1,iSm 2,iCa 120 [aS2,aS1,aS0],.s (.mv aS0),.s (.ext 0 aS0),.s (.ext 1 aS1),.s (.ext 2 aS2),iWl 6 (.alloc [.zh,.zh]),iQm 5 2,.w .none none (.store 2 aT6 aS1),iQm 7 0] (.seq (iSr [iSm 7,iQo 10 (.bin .neq .int aS0 aC0)] (.cond bW (iSr [iSm 7,iQo 3 (.mv (.c (.bool false))),iQm 4 0] .ret) .skip)) X1)))
def F40.b0:IR:=F40.g0 F40.b1
def F40.res:List RV:=[.t (.of 3),.t (.of 4)]
def F40:Fn:={ params:=[(.of 0),(.of 1),(.of 2)],res:=F40.res,body:=F40.b0,init:=in20 }
theorem F40.ok:fnA Tryz.prog Tryz.f40 [0,1,2,6,7,8,9,10,12,14,24,27,28,29,30,34,35,36,37,48]=some F40:=by kernel_rfl
abbrev F47.fr:=fr7
def F47.b1:IR:=(iSr [iSm 4,.s (.zu 1 aS0 aC0),.s (.load aS0),iQm 2 0,iQo 3 (.mv aC0)] .ret)
def F47.g0 (X1:IR):IR:=(iSr [iQo 2 (.mv (.c .zh)),iQo 3 (.mv aC0)] (iSr [iSm 0,iSm 1,iCa 75 [aS1,aS0],.s (.mv aS0),.s (.ext 0 aS0),.s (.ext 1 aS1),iQm 4 1,iQm 5 0] (.seq (iSr [iSm 5,iQo 6 (.bin .neq .int aS0 aC0)] (.cond aT6 (iSr [iSm 5,iQo 2 (.mv (.c .zh)),iQm 3 0] .ret) .skip)) X1)))
def F47.b0:IR:=F47.g0 F47.b1
def F47.res:List RV:=[.t (.of 2),.t (.of 3)]
def F47:Fn:={ params:=[(.of 0),(.of 1)],res:=F47.res,body:=F47.b0,init:=in7 }
theorem F47.ok:fnA Tryz.prog Tryz.f47 [0,1,4,5,6,7,15]=some F47:=by kernel_rfl
abbrev F52.fr:=fr11
def F52.b3:IR:=(iSr [iSm 7,iQm 3 0,iQo 4 (.mv aC0)] .ret)
def F52.g2 (X3:IR):IR:=(iSr [.s (.zi 2 aT2),iSm 1,iCa 135 [aS1,aS0],iQm 7 0] (.seq (iSr [iSm 7,iWl 10 (.call (.c (.fn 136 (.of 136) [])) [aS0,(.c (.fn 137 (.of 137) []))])] (.cond bW (iSr [iQo 3 (.mv (.c .zh)),iQo 4 (.mv aC3)] .ret) .skip)) X3))
def F52.b2:IR:=F52.g2 F52.b3
def F52.g1 (X2:IR):IR:=(.seq (iSr [.s (.zi 2 aT2),iSm 1,.s (.len aS0),iCa 56 [aS2,aS0],iQm 6 0] (iSr [iSm 6,iQo 9 (.bin .neq .int aS0 aC0)] (.cond aT9 (iSr [iSm 6,iQo 3 (.mv (.c .zh)),iQm 4 0] .ret) .skip))) X2)
def F52.b1:IR:=F52.g1 F52.b2
def F52.g0 (X1:IR):IR:=(iSr [iWl 2 (.box aT0),iQo 3 (.mv (.c .zh)),iQo 4 (.mv aC0)] (.seq (iSr [iSm 1,iCa 134 [aS0],iQm 5 0] (iSr [iSm 5,iQo 8 (.bin .neq .int aS0 aC0)] (.cond aT8 (iSr [iSm 5,iQo 3 (.mv (.c .zh)),iQm 4 0] .ret) .skip))) X1))
def F52.b0:IR:=F52.g0 F52.b1
def F52.res:List RV:=[.t (.of 3),.t (.of 4)]
def F52:Fn:={ params:=[(.of 0),(.of 1)],res:=F52.res,body:=F52.b0,init:=in11 }
theorem F52.ok:fnA Tryz.prog Tryz.f52 [0,1,2,4,5,6,7,8,12,19,25]=some F52:=by kernel_rfl
abbrev F55.fr:=fr14
def F55.b8:IR:=(iSr [.s (.zu 1 bW rE),.s (.load aS0),iQm 7 0] (.reg [iSm 6,iSm 6,iSm 7,iCa 139 [aS1,aS0],.s (.bin .quo .int aS3 aS0),iSm 7,.s (.bin .mul .int aS1 aS0),iQm 6 0]))
def F55.g7 (X8:IR):IR:=(.block 1 X8)
def F55.b7:IR:=F55.g7 F55.b8
def F55.b9:IR:=(.reg [.s (.bin .add .int rE aC1),iQm 12 0])
def F55.g6 (X7 X9:IR):IR:=(.seq X7 X9)
def F55.b6:IR:=F55.g6 F55.b7 F55.b9
def F55.g5 (X6:IR):IR:=(iSr [iQo 13 (.bin .lss .int rE ni)] (.seq (.cond fF .skip (.exit 0)) X6))
def F55.b5:IR:=F55.g5 F55.b6
def F55.g4 (X5:IR):IR:=(.loop X5)
def F55.b4:IR:=F55.g4 F55.b5
def F55.g3 (X4:IR):IR:=(.block 0 X4)
def F55.b3:IR:=F55.g3 F55.b4
def F55.b10:IR:=(iSr [iSm 6,iQm 2 0,iQo 3 (.mv aC0)] .ret)
def F55.g2 (X3 X10:IR):IR:=(iSr [iQo 6 (.mv aC1)] (.seq (iSr [iQo 10 (.mv aT5),iQo 11 (.len bW),iQo 12 (.mv aC0)] X3) X10))
def F55.b2:IR:=F55.g2 F55.b3 F55.b10
def F55.g1 (X2:IR):IR:=(iSr [.s (.zi 2 aT1),iCa 138 [aS0],iQm 5 0] (.seq (iSr [.s (.zn 1 aT1),iQo 9 (.load aS0)] (.cond aT9 (.reg [iSm 5,.w .push none (.yc 1 1 [(I 0)] [(0,1,aC2)]),.w .push none (.app 1 8 aS1 aS0),iQm 5 0]) .skip)) X2))
def F55.b1:IR:=F55.g1 F55.b2
def F55.g0 (X1:IR):IR:=(iSr [iWl 1 (.box aT0),iQo 2 (.mv aC0),iQo 3 (.mv aC0)] (.seq (iSr [.s (.zi 2 aT1),.s (.zn 0 aT1),.s (.load aS0),.s (.len aS0),iCa 56 [aS3,aS0],iQm 4 0] (iSr [iSm 4,iQo 8 (.bin .neq .int aS0 aC0)] (.cond aT8 (iSr [iSm 4,iQo 2 (.mv aC0),iQm 3 0] .ret) .skip))) X1))
def F55.b0:IR:=F55.g0 F55.b1
def F55.res:List RV:=[.t (.of 2),.t (.of 3)]
def F55:Fn:={ params:=[(.of 0)],res:=F55.res,body:=F55.b0,init:=in14 }
theorem F55.ok:fnA Tryz.prog Tryz.f55 [0,1,2,3,4,5,6,8,15,20,24,25,26,27]=some F55:=by kernel_rfl
abbrev F56.fr:=fr4
def F56.b0:IR:=(iSr [iWl 2 (.box aT0),iQo 3 (.mv aC0)] (.seq (.yt [] [(iSm 1,0,[]),(.s (.zn 0 aT2),1,[]),(.s (.load aS0),1,[]),(.s (.len aS0),1,[]),(iSm 1,1,[]),(.s (.bin .neq .int aS1 aS0),1,[]),(.s (.zn 0 aT2),2,[]),(.s (.load aS0),2,[]),(iCa 95 [aS7],0,[]),(iCa 96 [aS3,aC2],0,[]),(iCa 140 [aS2],0,[]),(.s (.not aS0),0,[]),(iCa 96 [aS0,aC14],0,[]),(.w .push none (.yc 1 3 [(I 0)] [(0,1,aS4),(1,1,aS3),(2,1,aS0)]),0,[]),(iCa 94 [aS0],0,[]),(iQm 3 0,0,[])]) .ret))
def F56.res:List RV:=[.t (.of 3)]
def F56:Fn:={ params:=[(.of 0),(.of 1)],res:=F56.res,body:=F56.b0,init:=in4 }
theorem F56.ok:fnA Tryz.prog Tryz.f56 [0,1,2,4]=some F56:=by kernel_rfl
abbrev F65.fr:=fr5
def F65.b0:IR:=(iSr [iWl 2 (.box aT0),iWl 3 (.box aT1),iWl 4 (.alloc [.zh,(.bool false)])] (.seq (.yt [] [(.s (.zn 0 aT2),0,[]),(.s (.load aS0),0,[]),(.s (.zn 0 aT3),0,[]),(.s (.load aS0),0,[]),(.s (.zn 1 aT2),1,[]),(.s (.load aS0),1,[]),(.s (.zn 1 aT3),1,[]),(.s (.load aS0),1,[]),(.s (.bin .neq .bool aS2 aS0),1,[]),(iCa 144 [aS7,aS5],0,[]),(.s (.build [.zh,(.bool false)] [(0,1,aS0),(1,1,aS1)]),0,[]),(.w .none none (.store 2 aT4 aS0),0,[])]) .ret))
def F65.res:List RV:=[.cell (.of 4) (some 2)]
def F65:Fn:={ params:=[(.of 0),(.of 1)],res:=F65.res,body:=F65.b0,init:=in5 }
theorem F65.ok:fnA Tryz.prog Tryz.f65 [0,1,2,3,4]=some F65:=by kernel_rfl
abbrev F66.fr:=fr10
def F66.b7:IR:=(iSr [iSm 8,iWl 6 (.alloc [(I 0)]),.w .none none (.store 1 aT6 aS0)] (.reg [iSm 5,.s (.load aT1),.s (.fn 147 (.of 147) [aT6,aT1]),iCa 146 [aS2,aS1,aS0]]))
def F66.g6 (X7:IR):IR:=(.block 1 X7)
def F66.b6:IR:=F66.g6 F66.b7
def F66.b8:IR:=(.reg [.s (.bin .add .int aT8 aC1),iQm 8 0])
def F66.g5 (X6 X8:IR):IR:=(.seq X6 X8)
def F66.b5:IR:=F66.g5 F66.b6 F66.b8
def F66.g4 (X5:IR):IR:=(iSr [iQo 9 (.bin .lss .int aT8 aC8)] (.seq (.cond aT9 .skip (.exit 0)) X5))
def F66.b4:IR:=F66.g4 F66.b5
def F66.g3 (X4:IR):IR:=(.loop X4)
def F66.b3:IR:=F66.g3 F66.b4
def F66.g2 (X3:IR):IR:=(.block 0 X3)
def F66.b2:IR:=F66.g2 F66.b3
def F66.b9:IR:=(iSr [iSm 5,iCa 99 [aS0],iQm 2 0,iQo 3 (.mv aC0)] .ret)
def F66.g1 (X2 X9:IR):IR:=(iSr [.w .push none .fP,iQm 5 0] (.seq (iSr [iQo 8 (.mv aC0)] X2) X9))
def F66.b1:IR:=F66.g1 F66.b2 F66.b9
def F66.g0 (X1:IR):IR:=(iSr [iWl 1 (.box aT0),iQo 2 (.mv (.c .zh)),iQo 3 (.mv aC0)] (.seq (iSr [.s (.load aT1),iCa 145 [aS0],iQm 4 0] (iSr [iSm 4,iQo 7 (.bin .neq .int aS0 aC0)] (.cond aT7 (iSr [iSm 4,iQo 2 (.mv (.c .zh)),iQm 3 0] .ret) .skip))) X1))
def F66.b0:IR:=F66.g0 F66.b1
def F66.res:List RV:=[.t (.of 2),.t (.of 3)]
def F66:Fn:={ params:=[(.of 0)],res:=F66.res,body:=F66.b0,init:=in10 }
theorem F66.ok:fnA Tryz.prog Tryz.f66 [0,1,2,3,4,5,6,10,13,14]=some F66:=by kernel_rfl
abbrev F68.fr:=fr10
def F68.b1:IR:=(iSr [.w .push none .fP,iWl 5 (.alloc [.jm]),.w .none none (.store 1 aT5 aS0)] (iSr [.s (.load aT1),.w .push none (.gu 1 8 [(I 0)] aS0 aS0),iWl 6 (.alloc [.zh]),.w .none none (.store 1 aT6 aS0)] (iSr [.s (.load aT1),.w .push none (.gu 1 1 [(.bool false)] aS0 aS0),iWl 7 (.alloc [.zh]),.w .none none (.store 1 aT7 aS0)] (iSr [iWl 8 (.alloc [.fK])] (iSr [.s (.fn 149 (.of 149) [aT1,aT5,aT6,aT7,aT8]),.w .none none (.store 1 aT8 aS0)] (iSr [.s (.load aT8),.w .push none (.call aS0 [aC0])] (iSr [.s (.load aT5),iCa 99 [aS0],iQm 2 0,iQo 3 (.mv aC0)] .ret)))))))
def F68.g0 (X1:IR):IR:=(iSr [iWl 1 (.box aT0),iQo 2 (.mv (.c .zh)),iQo 3 (.mv aC0)] (.seq (.seq (.yt [] [(.s (.load aT1),0,[]),(.s (.load aT1),1,[]),(.s (.bin .geq .int aS0 aC10),1,[]),(iCa 145 [aS2],0,[]),(iCa 96 [aS1,aC5],0,[]),(.w .push none (.yc 1 2 [(I 0)] [(0,1,aS1),(1,1,aS0)]),0,[]),(iCa 94 [aS0],0,[]),(iQm 4 0,0,[])]) (iSr [iSm 4,iQo 9 (.bin .neq .int aS0 aC0)] (.cond aT9 (iSr [iSm 4,iQo 2 (.mv (.c .zh)),iQm 3 0] .ret) .skip))) X1))
def F68.b0:IR:=F68.g0 F68.b1
def F68.res:List RV:=[.t (.of 2),.t (.of 3)]
def F68:Fn:={ params:=[(.of 0)],res:=F68.res,body:=F68.b0,init:=in10 }
theorem F68.ok:fnA Tryz.prog Tryz.f68 [0,1,2,3,4,5,6,7,8,17]=some F68:=by kernel_rfl
abbrev F69.fr:=fr7
def F69.b7:IR:=(.seq (.yt [] [(iSm 0,0,[]),(iSm 3,0,[]),(.s (.zu 2 aS1 aS0),0,[]),(.s (.zi 2 aS0),0,[]),(iSm 1,0,[]),(iSm 3,0,[]),(.s (.zu 2 aS1 aS0),0,[]),(.s (.zi 2 aS0),0,[]),(iCa 30 [aS4,aS0],0,[]),(iQo 6 (.not aS0),0,[])]) (.cond aT6 (iSr [iQo 2 (.mv (.c (.bool false)))] .ret) .skip))
def F69.g6 (X7:IR):IR:=(.block 1 X7)
def F69.b6:IR:=F69.g6 F69.b7
def F69.b8:IR:=(.reg [iSm 3,.s (.bin .add .int aS0 aC1),iQm 3 0])
def F69.g5 (X6 X8:IR):IR:=(.seq X6 X8)
def F69.b5:IR:=F69.g5 F69.b6 F69.b8
def F69.g4 (X5:IR):IR:=(.seq (iSr [iSm 3,iSm 0,.s (.len aS0),iQo 5 (.bin .lss .int aS2 aS0)] (.cond aT5 .skip (.exit 0))) X5)
def F69.b4:IR:=F69.g4 F69.b5
def F69.g3 (X4:IR):IR:=(.loop X4)
def F69.b3:IR:=F69.g3 F69.b4
def F69.g2 (X3:IR):IR:=(.block 0 X3)
def F69.b2:IR:=F69.g2 F69.b3
def F69.b9:IR:=(iSr [iQo 2 (.mv (.c (.bool true)))] .ret)
def F69.g1 (X2 X9:IR):IR:=(.seq (iSr [iQo 3 (.mv aC0)] X2) X9)
def F69.b1:IR:=F69.g1 F69.b2 F69.b9
def F69.g0 (X1:IR):IR:=(iSr [iQo 2 (.mv (.c (.bool false)))] (.seq (iSr [iSm 0,.s (.len aS0),iSm 1,.s (.len aS0),iQo 4 (.bin .neq .int aS2 aS0)] (.cond aT4 (iSr [iQo 2 (.mv (.c (.bool false)))] .ret) .skip)) X1))
def F69.b0:IR:=F69.g0 F69.b1
def F69.res:List RV:=[.t (.of 2)]
def F69:Fn:={ params:=[(.of 0),(.of 1)],res:=F69.res,body:=F69.b0,init:=in7 }
theorem F69.ok:fnA Tryz.prog Tryz.f69 [0,1,4,5,10,14,26]=some F69:=by kernel_rfl
abbrev F73.fr:=fr15
def F73.b7:IR:=(iSr [.s (.zu 1 bW rE),.s (.load aS0),iQm 8 0] (iSr [iSm 7,.s (.zn 0 aT3),.s (.load aS0),iSm 8,.w .push none (.call aS3 [aS1,aS0]),iQo 14 (.not aS0)] (.cond tN (iSr [iQo 4 (.mv (.c (.bool false))),iQo 5 (.mv aC0)] .ret) .skip)))
def F73.g6 (X7:IR):IR:=(.block 1 X7)
def F73.b6:IR:=F73.g6 F73.b7
def F73.b8:IR:=(.reg [.s (.bin .add .int rE aC1),iQm 12 0])
def F73.g5 (X6 X8:IR):IR:=(.seq X6 X8)
def F73.b5:IR:=F73.g5 F73.b6 F73.b8
def F73.g4 (X5:IR):IR:=(iSr [iQo 13 (.bin .lss .int rE ni)] (.seq (.cond fF .skip (.exit 0)) X5))
def F73.b4:IR:=F73.g4 F73.b5
def F73.g3 (X4:IR):IR:=(.loop X4)
def F73.b3:IR:=F73.g3 F73.b4
def F73.g2 (X3:IR):IR:=(.block 0 X3)
def F73.b2:IR:=F73.g2 F73.b3
def F73.b9:IR:=(iSr [iQo 4 (.mv (.c (.bool true))),iQo 5 (.mv aC0)] .ret)
def F73.g1 (X2 X9:IR):IR:=(iSr [.s (.zi 2 aT2),iCa 104 [aS0],iQm 7 0] (.seq (iSr [.s (.zn 1 aT2),iQo 10 (.load aS0),iQo 11 (.len bW),iQo 12 (.mv aC0)] X2) X9))
def F73.b1:IR:=F73.g1 F73.b2 F73.b9
def F73.g0 (X1:IR):IR:=(iSr [iWl 2 (.box aT0),iWl 3 (.box aT1),iQo 4 (.mv (.c (.bool false))),iQo 5 (.mv aC0)] (.seq (.seq (.yt [] [(.s (.zi 2 aT2),0,[]),(.s (.zi 2 aT3),1,[]),(.s (.zn 0 aT2),1,[]),(.s (.load aS0),1,[]),(iCa 103 [aS3],0,[]),(iCa 56 [aS3,aS1],0,[]),(.w .push none (.yc 1 2 [(I 0)] [(0,1,aS1),(1,1,aS0)]),0,[]),(iCa 94 [aS0],0,[]),(iQm 6 0,0,[])]) (iSr [iSm 6,iQo 9 (.bin .neq .int aS0 aC0)] (.cond aT9 (iSr [iSm 6,iQo 4 (.mv (.c (.bool false))),iQm 5 0] .ret) .skip))) X1))
def F73.b0:IR:=F73.g0 F73.b1
def F73.res:List RV:=[.t (.of 4),.t (.of 5)]
def F73:Fn:={ params:=[(.of 0),(.of 1)],res:=F73.res,body:=F73.b0,init:=in15 }
theorem F73.ok:fnA Tryz.prog Tryz.f73 [0,1,2,3,4,5,6,7,9,19,24,25,26,27,35]=some F73:=by kernel_rfl
abbrev F75.fr:=fr6
def F75.b1:IR:=(iSr [iSm 0,iSm 1,iCa 157 [aS1,aS0],.s (.ext 0 aS0),.s (.ext 1 aS1),iQm 2 1,iQm 3 0] .ret)
def F75.g0 (X1:IR):IR:=(iSr [iQo 2 (.mv (.c .zh)),iQo 3 (.mv aC0)] (.seq (iSr [iSm 0,iSm 1,iCa 156 [aS1,aS0],iQm 4 0] (iSr [iSm 4,iQo 5 (.bin .neq .int aS0 aC0)] (.cond aT5 (iSr [iSm 4,iQo 2 (.mv (.c .zh)),iQm 3 0] .ret) .skip))) X1))
def F75.b0:IR:=F75.g0 F75.b1
def F75.res:List RV:=[.t (.of 2),.t (.of 3)]
def F75:Fn:={ params:=[(.of 0),(.of 1)],res:=F75.res,body:=F75.b0,init:=in6 }
theorem F75.ok:fnA Tryz.prog Tryz.f75 [0,1,4,5,6,11]=some F75:=by kernel_rfl
abbrev F81.fr:=fr7
def F81.b7:IR:=(.seq (.yt [] [(iSm 0,0,[]),(iSm 3,0,[]),(.s (.zu 1 aS1 aS0),0,[]),(.s (.load aS0),0,[]),(iSm 1,0,[]),(iSm 3,0,[]),(.s (.zu 1 aS1 aS0),0,[]),(.s (.load aS0),0,[]),(iCa 82 [aS4,aS0],0,[]),(iQo 6 (.not aS0),0,[])]) (.cond aT6 (iSr [iQo 2 (.mv (.c (.bool false)))] .ret) .skip))
def F81.g6 (X7:IR):IR:=(.block 1 X7)
def F81.b6:IR:=F81.g6 F81.b7
def F81.b8:IR:=(.reg [iSm 3,.s (.bin .add .int aS0 aC1),iQm 3 0])
def F81.g5 (X6 X8:IR):IR:=(.seq X6 X8)
def F81.b5:IR:=F81.g5 F81.b6 F81.b8
def F81.g4 (X5:IR):IR:=(.seq (iSr [iSm 3,iSm 0,.s (.len aS0),iQo 5 (.bin .lss .int aS2 aS0)] (.cond aT5 .skip (.exit 0))) X5)
def F81.b4:IR:=F81.g4 F81.b5
def F81.g3 (X4:IR):IR:=(.loop X4)
def F81.b3:IR:=F81.g3 F81.b4
def F81.g2 (X3:IR):IR:=(.block 0 X3)
def F81.b2:IR:=F81.g2 F81.b3
def F81.b9:IR:=(iSr [iQo 2 (.mv (.c (.bool true)))] .ret)
def F81.g1 (X2 X9:IR):IR:=(.seq (iSr [iQo 3 (.mv aC0)] X2) X9)
def F81.b1:IR:=F81.g1 F81.b2 F81.b9
def F81.g0 (X1:IR):IR:=(iSr [iQo 2 (.mv (.c (.bool false)))] (.seq (iSr [iSm 0,.s (.len aS0),iSm 1,.s (.len aS0),iQo 4 (.bin .neq .int aS2 aS0)] (.cond aT4 (iSr [iQo 2 (.mv (.c (.bool false)))] .ret) .skip)) X1))
def F81.b0:IR:=F81.g0 F81.b1
def F81.res:List RV:=[.t (.of 2)]
def F81:Fn:={ params:=[(.of 0),(.of 1)],res:=F81.res,body:=F81.b0,init:=in7 }
theorem F81.ok:fnA Tryz.prog Tryz.f81 [0,1,4,5,10,14,26]=some F81:=by kernel_rfl
abbrev F82.fr:=fr7
def F82.b7:IR:=(.seq (.yt [] [(iSm 0,0,[]),(iSm 3,0,[]),(.s (.zu 1 aS1 aS0),0,[]),(.s (.load aS0),0,[]),(iSm 1,0,[]),(iSm 3,0,[]),(.s (.zu 1 aS1 aS0),0,[]),(.s (.load aS0),0,[]),(iQo 6 (.bin .neq .int aS4 aS0),0,[])]) (.cond aT6 (iSr [iQo 2 (.mv (.c (.bool false)))] .ret) .skip))
def F82.g6 (X7:IR):IR:=(.block 1 X7)
def F82.b6:IR:=F82.g6 F82.b7
def F82.b8:IR:=(.reg [iSm 3,.s (.bin .add .int aS0 aC1),iQm 3 0])
def F82.g5 (X6 X8:IR):IR:=(.seq X6 X8)
def F82.b5:IR:=F82.g5 F82.b6 F82.b8
def F82.g4 (X5:IR):IR:=(.seq (iSr [iSm 3,iSm 0,.s (.len aS0),iQo 5 (.bin .lss .int aS2 aS0)] (.cond aT5 .skip (.exit 0))) X5)
def F82.b4:IR:=F82.g4 F82.b5
def F82.g3 (X4:IR):IR:=(.loop X4)
def F82.b3:IR:=F82.g3 F82.b4
def F82.g2 (X3:IR):IR:=(.block 0 X3)
def F82.b2:IR:=F82.g2 F82.b3
def F82.b9:IR:=(iSr [iQo 2 (.mv (.c (.bool true)))] .ret)
def F82.g1 (X2 X9:IR):IR:=(.seq (iSr [iQo 3 (.mv aC0)] X2) X9)
def F82.b1:IR:=F82.g1 F82.b2 F82.b9
def F82.g0 (X1:IR):IR:=(iSr [iQo 2 (.mv (.c (.bool false)))] (.seq (iSr [iSm 0,.s (.len aS0),iSm 1,.s (.len aS0),iQo 4 (.bin .neq .int aS2 aS0)] (.cond aT4 (iSr [iQo 2 (.mv (.c (.bool false)))] .ret) .skip)) X1))
def F82.b0:IR:=F82.g0 F82.b1
def F82.res:List RV:=[.t (.of 2)]
def F82:Fn:={ params:=[(.of 0),(.of 1)],res:=F82.res,body:=F82.b0,init:=in7 }
theorem F82.ok:fnA Tryz.prog Tryz.f82 [0,1,4,5,10,14,25]=some F82:=by kernel_rfl
abbrev F83.fr:=fr5
def F83.b0:IR:=(iSr [iWl 3 (.box aT0),iQo 4 (.mv (.c (.bool false)))] (iSr [.s (.zi 2 aT3),iSm 1,iSm 2,iCa 32 [aS2,aS1,aS0],.s (.mv aS0),iPt 0 (.zi 2 aT3),.w .push (some (aS1,true)) (.call (.c (.fn 33 (.of 33) [])) [aS0]),iPt 2 (.bin .eql .int aS0 aC0),.s (.pick aS3 aS0 (.c (.bool false))),.s (.mv aS0),iPt 0 (.zn 0 aT3),iPt 1 (.load aS0),iPt 2 (.mv aT1),iPt 3 (.bin .leq .int aS1 aS0),.s (.pick aS4 aS0 (.c (.bool false))),iQm 4 0] .ret))
def F83.res:List RV:=[.t (.of 4)]
def F83:Fn:={ params:=[(.of 0),(.of 1),(.of 2)],res:=F83.res,body:=F83.b0,init:=in5 }
theorem F83.ok:fnA Tryz.prog Tryz.f83 [0,1,2,3,6]=some F83:=by kernel_rfl
abbrev F84.fr:=fr7
def F84.b6:IR:=(.seq (.yt [] [(iSm 0,0,[]),(iSm 4,0,[]),(.s (.zu 2 aS1 aS0),0,[]),(.s (.zi 2 aS0),0,[]),(.s (.zi 2 aT2),0,[]),(iWl 6 (.call (.c (.fn 30 (.of 30) [])) [aS1,aS0]),0,[])]) (.cond aT6 (iSr [iSm 4,iQm 3 0] .ret) .skip))
def F84.g5 (X6:IR):IR:=(.block 1 X6)
def F84.b5:IR:=F84.g5 F84.b6
def F84.b7:IR:=(.reg [iSm 4,.s (.bin .add .int aS0 aC1),iQm 4 0])
def F84.g4 (X5 X7:IR):IR:=(.seq X5 X7)
def F84.b4:IR:=F84.g4 F84.b5 F84.b7
def F84.g3 (X4:IR):IR:=(.seq (iSr [iSm 4,iSm 0,.s (.len aS0),iQo 5 (.bin .lss .int aS2 aS0)] (.cond aT5 .skip (.exit 0))) X4)
def F84.b3:IR:=F84.g3 F84.b4
def F84.g2 (X3:IR):IR:=(.loop X3)
def F84.b2:IR:=F84.g2 F84.b3
def F84.g1 (X2:IR):IR:=(.block 0 X2)
def F84.b1:IR:=F84.g1 F84.b2
def F84.b8:IR:=(iSr [iQo 3 (.mv (.c (I (-1))))] .ret)
def F84.g0 (X1 X8:IR):IR:=(iSr [iWl 2 (.box aT1),iQo 3 (.mv aC0)] (.seq (iSr [iQo 4 (.mv aC0)] X1) X8))
def F84.b0:IR:=F84.g0 F84.b1 F84.b8
def F84.res:List RV:=[.t (.of 3)]
def F84:Fn:={ params:=[(.of 0),(.of 1)],res:=F84.res,body:=F84.b0,init:=in7 }
theorem F84.ok:fnA Tryz.prog Tryz.f84 [0,1,3,4,5,9,17]=some F84:=by kernel_rfl
end
end Go.Ev
