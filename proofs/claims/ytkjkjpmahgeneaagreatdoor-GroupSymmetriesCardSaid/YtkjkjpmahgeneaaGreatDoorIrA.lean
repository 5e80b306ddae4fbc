import Derived.Test.YtkjkjpmahgeneaaGreatDoorEvC
import Derived.Test.YtkjkjpmahgeneaaGreatDoorProg
import Derived.KernelRfl
set_option linter.unusedSimpArgs false
set_option linter.unusedVariables false
namespace Go.Ev
open Go Go.Proofs
set_option maxRecDepth 100000
noncomputable section
abbrev zU:List AV:=[(.int .u8 0),(.int .u8 0),(.int .u8 0),(.int .u8 0),(.int .u8 0),(.int .u8 0),(.int .u8 0),(.int .u8 0),(.int .u8 0),(.int .u8 0),(.int .u8 0),(.int .u8 0),(.int .u8 0),(.int .u8 0),(.int .u8 0),(.int .u8 0),(.int .u8 0),(.int .u8 0),(.int .u8 0),(.int .u8 0),(.int .u8 0),(.int .u8 0),(.int .u8 0),(.int .u8 0),(.int .u8 0),(.int .u8 0),(.int .u8 0),(.int .u8 0),(.int .u8 0),(.int .u8 0),(.int .u8 0),(.int .u8 0),(.int .u8 0),(.int .u8 0),(.int .u8 0),(.int .u8 0),(.int .u8 0),(.int .u8 0),(.int .u8 0),(.int .u8 0),(.int .u8 0),(.int .u8 0),(.int .u8 0),(.int .u8 0),(.int .u8 0),(.int .u8 0),(.int .u8 0),(.int .u8 0),(.int .u8 0),(.int .u8 0),(.int .u8 0),(.int .u8 0),(.int .u8 0),(.int .u8 0),(.int .u8 0),(.int .u8 0),(.int .u8 0),(.int .u8 0),(.int .u8 0),(.int .u8 0),(.int .u8 0),(.int .u8 0),(.int .u8 0),(.int .u8 0),(.int .u8 0),(.int .u8 0),(.int .u8 0),(.int .u8 0),(.int .u8 0),(.int .u8 0),(.int .u8 0),(.int .u8 0),(.int .u8 0),(.int .u8 0),(.int .u8 0),(.int .u8 0),(.int .u8 0),(.int .u8 0),(.int .u8 0),(.int .u8 0),(.int .u8 0),(.int .u8 0),(.int .u8 0),(.int .u8 0),(.int .u8 0),(.int .u8 0),(.int .u8 0),(.int .u8 0),(.int .u8 0),(.int .u8 0),(.int .u8 0),(.int .u8 0),(.int .u8 0),(.int .u8 0),(.int .u8 0),(.int .u8 0),(.int .u8 0),(.int .u8 0),(.int .u8 0),(.int .u8 0),(.int .u8 0),(.int .u8 0),(.int .u8 0),(.int .u8 0),(.int .u8 0),(.int .u8 0),(.int .u8 0),(.int .u8 0),(.int .u8 0),(.int .u8 0),(.int .u8 0),(.int .u8 0),(.int .u8 0),(.int .u8 0),(.int .u8 0),(.int .u8 0),(.int .u8 0),(.int .u8 0),(.int .u8 0),(.int .u8 0),(.int .u8 0),(.int .u8 0),(.int .u8 0),(.int .u8 0),(.int .u8 0),(.int .u8 0),(.int .u8 0),(.int .u8 0)]
abbrev iSm (n:Nat):RO:=.s (.mv (.t (.of n)))
abbrev iQm (n m:Nat):RO:=.q (.of n) (.mv (.s m))
abbrev iQo (n:Nat) (o:PO):RO:=.q (.of n) o
abbrev iPf (n:Nat) (o:PO):RO:=.p .push (some (.s n,false)) o
abbrev iPt (n:Nat) (o:PO):RO:=.p .push (some (.s n,true)) o
abbrev iCa (n:Nat) (l:List Arg):RO:=.w .push none (.call (.c (.fn n (.of n) [])) l)
abbrev iWl (n:Nat) (o:WO):RO:=.w (.loc (.of n)) none o
abbrev iSr (l:List RO) (c:IR):IR:=.seq (.reg l) c
def fr1 (x0:AV):T AV:=(.n .e x0 .e)
def fr2 (x0 x1:AV):T AV:=(.n (.n .e x1 .e) x0 .e)
def fr3 (x0 x1 x2:AV):T AV:=(.n (.n .e x1 .e) x0 (.n .e x2 .e))
def fr4 (x0 x1 x2 x3:AV):T AV:=(.n (.n (.n .e x3 .e) x1 .e) x0 (.n .e x2 .e))
def fr5 (x0 x1 x2 x3 x4:AV):T AV:=(.n (.n (.n .e x3 .e) x1 .e) x0 (.n (.n .e x4 .e) x2 .e))
def fr6 (x0 x1 x2 x3 x4 x5:AV):T AV:=(.n (.n (.n .e x3 .e) x1 (.n .e x5 .e)) x0 (.n (.n .e x4 .e) x2 .e))
def fr7 (x0 x1 x2 x3 x4 x5 x6:AV):T AV:=(.n (.n (.n .e x3 .e) x1 (.n .e x5 .e)) x0 (.n (.n .e x4 .e) x2 (.n .e x6 .e)))
def fr8 (x0 x1 x2 x3 x4 x5 x6 x7:AV):T AV:=(.n (.n (.n (.n .e x7 .e) x3 .e) x1 (.n .e x5 .e)) x0 (.n (.n .e x4 .e) x2 (.n .e x6 .e)))
def fr9 (x0 x1 x2 x3 x4 x5 x6 x7 x8:AV):T AV:=(.n (.n (.n (.n .e x7 .e) x3 .e) x1 (.n .e x5 .e)) x0 (.n (.n (.n .e x8 .e) x4 .e) x2 (.n .e x6 .e)))
def fr10 (x0 x1 x2 x3 x4 x5 x6 x7 x8 x9:AV):T AV:=(.n (.n (.n (.n .e x7 .e) x3 .e) x1 (.n (.n .e x9 .e) x5 .e)) x0 (.n (.n (.n .e x8 .e) x4 .e) x2 (.n .e x6 .e)))
def fr11 (x0 x1 x2 x3 x4 x5 x6 x7 x8 x9 x10:AV):T AV:=(.n (.n (.n (.n .e x7 .e) x3 .e) x1 (.n (.n .e x9 .e) x5 .e)) x0 (.n (.n (.n .e x8 .e) x4 .e) x2 (.n (.n .e x10 .e) x6 .e)))
def fr12 (x0 x1 x2 x3 x4 x5 x6 x7 x8 x9 x10 x11:AV):T AV:=(.n (.n (.n (.n .e x7 .e) x3 (.n .e x11 .e)) x1 (.n (.n .e x9 .e) x5 .e)) x0 (.n (.n (.n .e x8 .e) x4 .e) x2 (.n (.n .e x10 .e) x6 .e)))
def fr13 (x0 x1 x2 x3 x4 x5 x6 x7 x8 x9 x10 x11 x12:AV):T AV:=(.n (.n (.n (.n .e x7 .e) x3 (.n .e x11 .e)) x1 (.n (.n .e x9 .e) x5 .e)) x0 (.n (.n (.n .e x8 .e) x4 (.n .e x12 .e)) x2 (.n (.n .e x10 .e) x6 .e)))
def fr14 (x0 x1 x2 x3 x4 x5 x6 x7 x8 x9 x10 x11 x12 x13:AV):T AV:=(.n (.n (.n (.n .e x7 .e) x3 (.n .e x11 .e)) x1 (.n (.n .e x9 .e) x5 (.n .e x13 .e))) x0 (.n (.n (.n .e x8 .e) x4 (.n .e x12 .e)) x2 (.n (.n .e x10 .e) x6 .e)))
def fr15 (x0 x1 x2 x3 x4 x5 x6 x7 x8 x9 x10 x11 x12 x13 x14:AV):T AV:=(.n (.n (.n (.n .e x7 .e) x3 (.n .e x11 .e)) x1 (.n (.n .e x9 .e) x5 (.n .e x13 .e))) x0 (.n (.n (.n .e x8 .e) x4 (.n .e x12 .e)) x2 (.n (.n .e x10 .e) x6 (.n .e x14 .e))))
def fr18 (x0 x1 x2 x3 x4 x5 x6 x7 x8 x9 x10 x11 x12 x13 x14 x15 x16 x17:AV):T AV:=(.n (.n (.n (.n (.n .e x15 .e) x7 .e) x3 (.n .e x11 .e)) x1 (.n (.n (.n .e x17 .e) x9 .e) x5 (.n .e x13 .e))) x0 (.n (.n (.n (.n .e x16 .e) x8 .e) x4 (.n .e x12 .e)) x2 (.n (.n .e x10 .e) x6 (.n .e x14 .e))))
def fr19 (x0 x1 x2 x3 x4 x5 x6 x7 x8 x9 x10 x11 x12 x13 x14 x15 x16 x17 x18:AV):T AV:=(.n (.n (.n (.n (.n .e x15 .e) x7 .e) x3 (.n .e x11 .e)) x1 (.n (.n (.n .e x17 .e) x9 .e) x5 (.n .e x13 .e))) x0 (.n (.n (.n (.n .e x16 .e) x8 .e) x4 (.n .e x12 .e)) x2 (.n (.n (.n .e x18 .e) x10 .e) x6 (.n .e x14 .e))))
def fr20 (x0 x1 x2 x3 x4 x5 x6 x7 x8 x9 x10 x11 x12 x13 x14 x15 x16 x17 x18 x19:AV):T AV:=(.n (.n (.n (.n (.n .e x15 .e) x7 .e) x3 (.n (.n .e x19 .e) x11 .e)) x1 (.n (.n (.n .e x17 .e) x9 .e) x5 (.n .e x13 .e))) x0 (.n (.n (.n (.n .e x16 .e) x8 .e) x4 (.n .e x12 .e)) x2 (.n (.n (.n .e x18 .e) x10 .e) x6 (.n .e x14 .e))))
def fr23 (x0 x1 x2 x3 x4 x5 x6 x7 x8 x9 x10 x11 x12 x13 x14 x15 x16 x17 x18 x19 x20 x21 x22:AV):T AV:=(.n (.n (.n (.n (.n .e x15 .e) x7 .e) x3 (.n (.n .e x19 .e) x11 .e)) x1 (.n (.n (.n .e x17 .e) x9 .e) x5 (.n (.n .e x21 .e) x13 .e))) x0 (.n (.n (.n (.n .e x16 .e) x8 .e) x4 (.n (.n .e x20 .e) x12 .e)) x2 (.n (.n (.n .e x18 .e) x10 .e) x6 (.n (.n .e x22 .e) x14 .e))))
def fr24 (x0 x1 x2 x3 x4 x5 x6 x7 x8 x9 x10 x11 x12 x13 x14 x15 x16 x17 x18 x19 x20 x21 x22 x23:AV):T AV:=(.n (.n (.n (.n (.n .e x15 .e) x7 (.n .e x23 .e)) x3 (.n (.n .e x19 .e) x11 .e)) x1 (.n (.n (.n .e x17 .e) x9 .e) x5 (.n (.n .e x21 .e) x13 .e))) x0 (.n (.n (.n (.n .e x16 .e) x8 .e) x4 (.n (.n .e x20 .e) x12 .e)) x2 (.n (.n (.n .e x18 .e) x10 .e) x6 (.n (.n .e x22 .e) x14 .e))))
def fr25 (x0 x1 x2 x3 x4 x5 x6 x7 x8 x9 x10 x11 x12 x13 x14 x15 x16 x17 x18 x19 x20 x21 x22 x23 x24:AV):T AV:=(.n (.n (.n (.n (.n .e x15 .e) x7 (.n .e x23 .e)) x3 (.n (.n .e x19 .e) x11 .e)) x1 (.n (.n (.n .e x17 .e) x9 .e) x5 (.n (.n .e x21 .e) x13 .e))) x0 (.n (.n (.n (.n .e x16 .e) x8 (.n .e x24 .e)) x4 (.n (.n .e x20 .e) x12 .e)) x2 (.n (.n (.n .e x18 .e) x10 .e) x6 (.n (.n .e x22 .e) x14 .e))))
def fr32 (x0 x1 x2 x3 x4 x5 x6 x7 x8 x9 x10 x11 x12 x13 x14 x15 x16 x17 x18 x19 x20 x21 x22 x23 x24 x25 x26 x27 x28 x29 x30 x31:AV):T AV:=(.n (.n (.n (.n (.n (.n .e x31 .e) x15 .e) x7 (.n .e x23 .e)) x3 (.n (.n .e x19 .e) x11 (.n .e x27 .e))) x1 (.n (.n (.n .e x17 .e) x9 (.n .e x25 .e)) x5 (.n (.n .e x21 .e) x13 (.n .e x29 .e)))) x0 (.n (.n (.n (.n .e x16 .e) x8 (.n .e x24 .e)) x4 (.n (.n .e x20 .e) x12 (.n .e x28 .e))) x2 (.n (.n (.n .e x18 .e) x10 (.n .e x26 .e)) x6 (.n (.n .e x22 .e) x14 (.n .e x30 .e)))))
abbrev in1:T AV:=fr1 .undef
abbrev in2:T AV:=fr2 .undef .undef
abbrev in3:T AV:=fr3 .undef .undef .undef
abbrev in4:T AV:=fr4 .undef .undef .undef .undef
abbrev in5:T AV:=fr5 .undef .undef .undef .undef .undef
abbrev in6:T AV:=fr6 .undef .undef .undef .undef .undef .undef
abbrev in7:T AV:=fr7 .undef .undef .undef .undef .undef .undef .undef
abbrev in8:T AV:=fr8 .undef .undef .undef .undef .undef .undef .undef .undef
abbrev in9:T AV:=fr9 .undef .undef .undef .undef .undef .undef .undef .undef .undef
abbrev in10:T AV:=fr10 .undef .undef .undef .undef .undef .undef .undef .undef .undef .undef
abbrev in11:T AV:=fr11 .undef .undef .undef .undef .undef .undef .undef .undef .undef .undef .undef
abbrev in12:T AV:=fr12 .undef .undef .undef .undef .undef .undef .undef .undef .undef .undef .undef .undef
abbrev in13:T AV:=fr13 .undef .undef .undef .undef .undef .undef .undef .undef .undef .undef .undef .undef .undef
abbrev in14:T AV:=fr14 .undef .undef .undef .undef .undef .undef .undef .undef .undef .undef .undef .undef .undef .undef
abbrev in15:T AV:=fr15 .undef .undef .undef .undef .undef .undef .undef .undef .undef .undef .undef .undef .undef .undef .undef
abbrev in18:T AV:=fr18 .undef .undef .undef .undef .undef .undef .undef .undef .undef .undef .undef .undef .undef .undef .undef .undef .undef .undef
abbrev in19:T AV:=fr19 .undef .undef .undef .undef .undef .undef .undef .undef .undef .undef .undef .undef .undef .undef .undef .undef .undef .undef .undef
abbrev in20:T AV:=fr20 .undef .undef .undef .undef .undef .undef .undef .undef .undef .undef .undef .undef .undef .undef .undef .undef .undef .undef .undef .undef
abbrev in23:T AV:=fr23 .undef .undef .undef .undef .undef .undef .undef .undef .undef .undef .undef .undef .undef .undef .undef .undef .undef .undef .undef .undef .undef .undef .undef
abbrev in24:T AV:=fr24 .undef .undef .undef .undef .undef .undef .undef .undef .undef .undef .undef .undef .undef .undef .undef .undef .undef .undef .undef .undef .undef .undef .undef .undef
abbrev in25:T AV:=fr25 .undef .undef .undef .undef .undef .undef .undef .undef .undef .undef .undef .undef .undef .undef .undef .undef .undef .undef .undef .undef .undef .undef .undef .undef .undef
abbrev in32:T AV:=fr32 .undef .undef .undef .undef .undef .undef .undef .undef .undef .undef .undef .undef .undef .undef .undef .undef .undef .undef .undef .undef .undef .undef .undef .undef .undef .undef .undef .undef .undef .undef .undef .undef
abbrev aT0:Arg:=.t (.of 0)
abbrev aT1:Arg:=.t (.of 1)
abbrev aT2:Arg:=.t (.of 2)
abbrev aT3:Arg:=.t (.of 3)
abbrev aT4:Arg:=.t (.of 4)
abbrev aT5:Arg:=.t (.of 5)
abbrev aT6:Arg:=.t (.of 6)
abbrev aT7:Arg:=.t (.of 7)
abbrev aT8:Arg:=.t (.of 8)
abbrev aT9:Arg:=.t (.of 9)
abbrev bI:Arg:=.t (.of 10)
abbrev ru:Arg:=.t (.of 11)
abbrev rZ:Arg:=.t (.of 12)
abbrev fK:Arg:=.t (.of 13)
abbrev aj:Arg:=.t (.of 14)
abbrev oW:Arg:=.t (.of 15)
abbrev eX:Arg:=.t (.of 16)
abbrev aO:Arg:=.t (.of 17)
abbrev aT18:Arg:=.t (.of 18)
abbrev aT19:Arg:=.t (.of 19)
abbrev aT20:Arg:=.t (.of 20)
abbrev aT21:Arg:=.t (.of 21)
abbrev aT22:Arg:=.t (.of 22)
abbrev aT23:Arg:=.t (.of 23)
abbrev aT24:Arg:=.t (.of 24)
abbrev aT25:Arg:=.t (.of 25)
abbrev aT26:Arg:=.t (.of 26)
abbrev aT27:Arg:=.t (.of 27)
abbrev aT28:Arg:=.t (.of 28)
abbrev aT29:Arg:=.t (.of 29)
abbrev aT30:Arg:=.t (.of 30)
abbrev aT31:Arg:=.t (.of 31)
abbrev aS0:Arg:=.s 0
abbrev aS1:Arg:=.s 1
abbrev aS2:Arg:=.s 2
abbrev aS3:Arg:=.s 3
abbrev aS4:Arg:=.s 4
abbrev aS5:Arg:=.s 5
abbrev aS6:Arg:=.s 6
abbrev aS7:Arg:=.s 7
abbrev aS8:Arg:=.s 8
abbrev aS9:Arg:=.s 9
abbrev aS10:Arg:=.s 10
abbrev aS11:Arg:=.s 11
abbrev aS12:Arg:=.s 12
abbrev aS13:Arg:=.s 13
abbrev aC0:Arg:=.c (I 0)
abbrev aC1:Arg:=.c (I 1)
abbrev aC2:Arg:=.c (I 2)
abbrev aC3:Arg:=.c (I 3)
abbrev aC4:Arg:=.c (I 4)
abbrev aC5:Arg:=.c (I 5)
abbrev aC6:Arg:=.c (I 6)
abbrev aC7:Arg:=.c (I 7)
abbrev aC8:Arg:=.c (I 8)
abbrev aC9:Arg:=.c (I 9)
abbrev aC10:Arg:=.c (I 10)
abbrev aC11:Arg:=.c (I 11)
abbrev aC12:Arg:=.c (I 12)
abbrev aC14:Arg:=.c (I 14)
abbrev aC16:Arg:=.c (I 16)
abbrev aC18:Arg:=.c (I 18)
abbrev aC20:Arg:=.c (I 20)
abbrev aC28:Arg:=.c (I 28)
abbrev aC32:Arg:=.c (I 32)
abbrev aC64:Arg:=.c (I 64)
abbrev zv5:Arg:=.c (I 100)
abbrev zv6:Arg:=.c (I 128)
abbrev zv7:Arg:=.c (I 250)
abbrev mU:Arg:=.c (I 256)
abbrev zv8:Arg:=.c (I 260)
abbrev zv9:Arg:=.c (I 600)
abbrev zh1:Arg:=.c (I 1536)
abbrev ztj:Arg:=.c (I 1800)
abbrev xZ:Arg:=.c (I 999999999)
abbrev F9.fr:=fr23
def F9.b7:IR:=(.seq (.yw [] [(.s (.zh 2 aT8),1,[]),(iSm 9,1,[]),(.s (.zh 2 aT3),0,[]),(.s (.zh 2 aT4),0,[]),(iCa 65 [aS1,aS0],0,[]),(iCa 62 [aS4,aS3,aC0,aS0],0,[]),(iQm 5 0,0,[])]) .ret)
def F9.g6 (X7:IR):IR:=(.seq (iSr [.s (.zh 2 aT4),.s (.zu 0 aT3),.s (.load aS0),.s (.len aS0),iCa 26 [aS3,aS0],iQm 14 0] (iSr [iSm 14,iQo 22 (.bin .neq .int aS0 aC0)] (.cond aT22 (iSr [.s (.zh 2 aT8),iSm 9,iSm 14,.s (.zh 2 aT8),iCa 62 [aS3,aS2,aS1,aS0],iQm 5 0] .ret) .skip))) X7)
def F9.b6:IR:=F9.g6 F9.b7
def F9.g5 (X6:IR):IR:=(.seq (.seq (.yw [] [(.s (.zh 2 bI),1,[]),(iSm 11,1,[]),(.s (.zh 2 aT3),0,[]),(iCa 63 [aS0],0,[]),(iCa 62 [aS3,aS2,aC0,aS0],0,[]),(.s (.not aS0),0,[]),(.s (.mv aS0),0,[]),(iPf 0 (.mv fK),0,[]),(iPf 1 (.bin .neq .int aS0 aC0),0,[]),(.s (.pick aS2 (.c (.bool true)) aS0),0,[]),(.s (.mv aS0),0,[]),(iPf 0 (.mv rZ),1,[]),(iPf 1 (.zh 2 aT3),0,[]),(.w .push (some (aS2,false)) (.call (.c (.fn 64 (.of 64) [])) [aS0]),0,[]),(iPf 3 (.bin .neq .int aS2 aS0),0,[]),(iQo 21 (.pick aS4 (.c (.bool true)) aS0),0,[])]) (.cond aT21 (iSr [iQo 5 (.mv (.c (.bool false)))] .ret) .skip)) X6)
def F9.b5:IR:=F9.g5 F9.b6
def F9.g4 (X5:IR):IR:=(iSr [.s (.zh 2 aT3),iCa 61 [aS0],iQm 14 0] (.seq (iSr [iSm 14,iQo 20 (.bin .neq .int aS0 aC0)] (.cond aT20 (iSr [.s (.zh 2 aT8),iSm 9,iSm 14,.s (.zh 2 aT8),iCa 62 [aS3,aS2,aS1,aS0],.s (.mv aS0),iPt 0 (.zh 2 bI),iPt 1 (.mv ru),iPt 2 (.mv aj),iPt 3 (.zh 2 bI),.w .push (some (aS4,true)) (.call (.c (.fn 62 (.of 62) [])) [aS3,aS2,aS1,aS0]),.s (.pick aS5 aS0 (.c (.bool false))),.s (.mv aS0),iPt 0 (.mv rZ),iPt 1 (.bin .eql .int aS0 aC0),.s (.pick aS2 aS0 (.c (.bool false))),.s (.mv aS0),iPt 0 (.mv fK),iPt 1 (.mv aj),iPt 2 (.bin .eql .int aS1 aS0),.s (.pick aS3 aS0 (.c (.bool false))),iQm 5 0] .ret) .skip)) X5))
def F9.b4:IR:=F9.g4 F9.b5
def F9.g3 (X4:IR):IR:=(.seq (iSr [iSm 6,iSm 7,iSm 14,iSm 15,iCa 60 [aS3,aS2,aS1,aS0],iQo 19 (.not aS0)] (.cond aT19 (iSr [iQo 5 (.mv (.c (.bool false)))] .ret) .skip)) X4)
def F9.b3:IR:=F9.g3 F9.b4
def F9.g2 (X3:IR):IR:=(.seq (.yw [] [(iSm 2,0,[]),(.s (.zh 2 aT3),1,[]),(iSm 2,1,[]),(.s (.len aS0),1,[]),(iCa 57 [aS3],0,[]),(iCa 26 [aS3,aS1],0,[]),(.w .push none (.yg 1 2 [(I 0)] [(0,1,aS1),(1,1,aS0)]),0,[]),(iCa 41 [aS0],0,[]),(iQm 14 0,0,[])]) (iSr [iQo 15 (.mv (.c .zi))] (.seq (iSr [iSm 14,iQo 18 (.bin .eql .int aS0 aC0)] (.cond aT18 (iSr [.s (.zh 2 aT3),iSm 2,iCa 58 [aS1,aS0],iQm 15 0] (.reg [iSm 15,iCa 59 [aS0],iQm 14 0])) .skip)) X3)))
def F9.b2:IR:=F9.g2 F9.b3
def F9.g1 (X2:IR):IR:=(iSr [.s (.zh 2 aT3),iSm 2,iCa 52 [aS1,aS0],.s (.mv aS0),.s (.ext 0 aS0),.s (.ext 1 aS1),iQm 6 1,iQm 7 0] (iSr [.s (.zh 2 aT3),.s (.zh 2 aT4),iCa 53 [aS1,aS0],.s (.mv aS0),.s (.ext 0 aS0),.s (.ext 1 aS1),iWl 8 (.alloc [.zi,(.bool false)]),.w .none none (.store 2 aT8 aS1),iQm 9 0] (iSr [.s (.zh 2 aT3),iCa 54 [aS0],.s (.mv aS0),.s (.ext 0 aS0),.s (.ext 1 aS1),iWl 10 (.alloc [.zi,(.bool false)]),.w .none none (.store 2 bI aS1),iQm 11 0] (iSr [.s (.zh 2 aT3),iCa 55 [aS0],.s (.mv aS0),.s (.ext 0 aS0),.s (.ext 1 aS1),iQm 12 1,iQm 13 0] (.seq (.seq (.yw [] [(.s (.zh 2 aT3),0,[]),(iSm 2,0,[]),(.s (.len aS0),0,[]),(.s (.zh 2 aT3),1,[]),(iSm 2,1,[]),(.s (.len aS0),1,[]),(iCa 56 [aS5,aS3],0,[]),(iCa 26 [aS3,aS1],0,[]),(iQo 17 (.bin .neq .int aS1 aS0),0,[])]) (.cond aO (iSr [iQo 5 (.mv (.c (.bool false)))] .ret) .skip)) X2)))))
def F9.b1:IR:=F9.g1 F9.b2
def F9.g0 (X1:IR):IR:=(iSr [iWl 3 (.box aT0),iWl 4 (.box aT1),iQo 5 (.mv (.c (.bool false)))] (.seq (iSr [iCa 18 [],.s (.not aS0),.s (.mv aS0),iPf 0 (.zu 0 aT3),iPf 1 (.load aS0),.w .push (some (aS2,false)) (.call (.c (.fn 51 (.of 51) [])) [aS0]),.s (.pick aS3 (.c (.bool true)) aS0),.s (.mv aS0),iPf 0 (.zu 0 aT4),iPf 1 (.load aS0),.w .push (some (aS2,false)) (.call (.c (.fn 51 (.of 51) [])) [aS0]),.s (.pick aS3 (.c (.bool true)) aS0),.s (.mv aS0),iPf 0 (.mv aT2),.w .push (some (aS1,false)) (.call (.c (.fn 51 (.of 51) [])) [aS0]),iQo 16 (.pick aS2 (.c (.bool true)) aS0)] (.cond eX (iSr [iCa 18 [],iQm 5 0] .ret) .skip)) X1))
def F9.b0:IR:=F9.g0 F9.b1
def F9.res:List RV:=[.t (.of 5)]
def F9:Fn:={ params:=[(.of 0),(.of 1),(.of 2)],res:=F9.res,body:=F9.b0,init:=in23 }
theorem F9.ok:fnA Tryz.prog Tryz.f9 [0,1,2,3,4,6,7,8,9,10,11,12,13,14,15,16,32,64,74,85,89,126,133]=some F9:=by kernel_rfl
abbrev F18.fr:=fr32
def F18.b2:IR:=(iSr [iSm 19,.w .push none (.yg 1 4 [(I 0)] [(0,1,aC0),(1,1,aC2),(2,1,aC6),(3,1,aC8)]),.w .push none (.yg 1 4 [(I 0)] [(0,1,aC1),(1,1,aC3),(2,1,aC5),(3,1,aC7)]),.w .push none (.yg 1 1 [(I 0)] [(0,1,aC4)]),.w .push none (.yg 1 3 [.zi] [(0,1,aS2),(1,1,aS1),(2,1,aS0)]),iCa 81 [aS4,aS0],iQm 0 0] .ret)
def F18.g1 (X2:IR):IR:=(.seq (iSr [iSm 3,.w .push none (.yg 1 9 [(I 0)] [(0,1,aC4),(1,1,aC3),(2,1,aC8),(3,1,aC9),(4,1,aC5),(5,1,aC1),(6,1,aC2),(7,1,aC7),(8,1,aC6)]),iCa 82 [aS1,aS0],.s (.not aS0),.s (.mv aS0),iPf 0 (.mv fK),.w .push (some (aS1,false)) (.call (.c (.fn 89 (.of 89) [])) []),.w .push (some (aS2,false)) (.call (.c (.fn 82 (.of 82) [])) [aS1,aS0]),iPf 3 (.not aS0),.s (.pick aS4 (.c (.bool true)) aS0),.s (.mv aS0),iPf 0 (.mv aT9),iPf 1 (.mv aT7),.w .push (some (aS2,false)) (.call (.c (.fn 69 (.of 69) [])) [aS1,aS0]),iPf 3 (.not aS0),.s (.pick aS4 (.c (.bool true)) aS0),.s (.mv aS0),iPf 0 (.mv aT21),iPf 1 (.mv oW),.w .push (some (aS2,false)) (.call (.c (.fn 69 (.of 69) [])) [aS1,aS0]),iPf 3 (.not aS0),iQo 31 (.pick aS4 (.c (.bool true)) aS0)] (.cond aT31 (iSr [iQo 0 (.mv (.c (.bool false)))] .ret) .skip)) X2)
def F18.b1:IR:=F18.g1 F18.b2
def F18.g0 (X1:IR):IR:=(iSr [iQo 0 (.mv (.c (.bool false)))] (iSr [.w .push none (.yg 1 9 [(I 0)] [(0,1,aC2),(1,1,aC1),(2,1,aC0),(3,1,aC5),(4,1,aC4),(5,1,aC3),(6,1,aC8),(7,1,aC7),(8,1,aC6)]),.s (.build [.zi,(.bool false)] [(0,1,aS0),(1,1,(.c (.bool true)))]),iWl 1 (.alloc [.zi,(.bool false)]),.w .none none (.store 2 aT1 aS0)] (iSr [.w .push none (.yg 1 9 [(I 0)] [(0,1,aC2),(1,1,aC5),(2,1,aC8),(3,1,aC1),(4,1,aC4),(5,1,aC7),(6,1,aC0),(7,1,aC3),(8,1,aC6)]),.s (.build [.zi,(.bool false)] [(0,1,aS0)]),iWl 2 (.alloc [.zi,(.bool false)]),.w .none none (.store 2 aT2 aS0)] (.seq (.yw [] [(.s (.zh 2 aT1),1,[]),(iCa 89 [],0,[]),(iCa 52 [aS1,aS0],0,[]),(.s (.mv aS0),0,[]),(.s (.ext 0 aS0),0,[]),(.s (.ext 1 aS1),0,[]),(iQm 3 1,0,[]),(iQm 4 0,0,[])]) (iSr [.s (.zh 2 aT2),iCa 55 [aS0],.s (.mv aS0),.s (.ext 0 aS0),.s (.ext 1 aS1),iQm 5 1,iQm 6 0] (iSr [iCa 66 [aC3],.s (.mv aS0),.s (.ext 0 aS0),.s (.ext 1 aS1),iQm 7 1,iQm 8 0] (iSr [.s (.zh 2 aT2),.s (.zu 0 aT1),.s (.load aS0),.s (.build [.zi,(.bool false)] [(0,1,aS0)]),.w .push none (.yg 2 2 [.zi,(.bool false)] [(0,2,aS3),(2,2,aS0)]),iCa 27 [aS0,aC9],.s (.mv aS0),.s (.ext 0 aS0),.s (.ext 1 aS1),iQm 9 1,iQm 10 0] (iSr [iSm 7,iCa 89 [],iCa 75 [aS1,aS0],.s (.mv aS0),.s (.ext 0 aS0),.s (.ext 1 aS1),iQm 11 1,iQm 12 0] (iSr [iSm 7,.w .push none (.yg 1 9 [(I 0)] [(0,1,aC8),(1,1,aC3),(2,1,aC4),(3,1,aC1),(4,1,aC5),(5,1,aC9),(6,1,aC6),(7,1,aC7),(8,1,aC2)]),iCa 47 [aS1,aS0],.s (.mv aS0),.s (.ext 0 aS0),.s (.ext 1 aS1),iQm 13 1,iQm 14 0] (iSr [iCa 66 [aC2],.s (.mv aS0),.s (.ext 0 aS0),.s (.ext 1 aS1),iQm 15 1,iQm 16 0] (iSr [iSm 15,iCa 36 [aS0,aC4,aC2],.s (.mv aS0),.s (.ext 0 aS0),.s (.ext 1 aS1),iQm 17 1,iQm 18 0] (iSr [iSm 7,iCa 21 [aS0,aC9],.s (.mv aS0),.s (.ext 0 aS0),.s (.ext 1 aS1),iQm 19 1,iQm 20 0] (iSr [.w .push none (.yg 1 2 [(I 0)] [(0,1,aC0),(1,1,aC1)]),.w .push none (.yg 1 2 [(I 0)] [(0,1,aC2),(1,1,aC3)]),.w .push none (.yg 1 2 [(I 0)] [(0,1,aC0),(1,1,aC2)]),.w .push none (.yg 1 2 [(I 0)] [(0,1,aC1),(1,1,aC3)]),.w .push none (.yg 1 4 [.zi] [(0,1,aS3),(1,1,aS2),(2,1,aS1),(3,1,aS0)]),.s (.build [(I 0),.zi] [(0,1,aC4),(1,1,aS0)]),iCa 34 [aS0],.s (.mv aS0),.s (.ext 0 aS0),.s (.ext 1 aS1),iQm 21 1,iQm 22 0] (iSr [.w .push none (.yg 1 9 [(I 0)] [(0,1,aC0),(1,1,aC1),(2,1,aC2),(3,1,aC3),(4,1,aC4),(5,1,aC5),(6,1,aC6),(7,1,aC7),(8,1,aC8)]),.s (.build [.zi,(.bool false)] [(0,1,aS0)]),.w .push none (.yg 1 9 [(I 0)] [(0,1,aC8),(1,1,aC7),(2,1,aC6),(3,1,aC5),(4,1,aC4),(5,1,aC3),(6,1,aC2),(7,1,aC1),(8,1,aC0)]),.s (.build [.zi,(.bool false)] [(0,1,aS0)]),.w .push none (.yg 2 2 [.zi,(.bool false)] [(0,2,aS2),(2,2,aS0)]),iQm 23 0] (iSr [iSm 7,iSm 23,iCa 39 [aS1,aS0,aC9],.s (.mv aS0),.s (.ext 0 aS0),.s (.ext 1 aS1),iQm 24 1,iQm 25 0] (iSr [iSm 7,iSm 23,iCa 40 [aS1,aS0,aC9],.s (.mv aS0),.s (.ext 0 aS0),.s (.ext 1 aS1),iQm 26 1,iQm 27 0] (iSr [iCa 68 [aC4],.s (.mv aS0),.s (.ext 0 aS0),.s (.ext 1 aS1),iQm 28 1,iQm 29 0] (.seq (iSr [iSm 4,iSm 6,.s (.bin .add .int aS1 aS0),iSm 8,.s (.bin .add .int aS1 aS0),iSm 10,.s (.bin .add .int aS1 aS0),iSm 12,.s (.bin .add .int aS1 aS0),iSm 14,.s (.bin .add .int aS1 aS0),iSm 16,.s (.bin .add .int aS1 aS0),iSm 18,.s (.bin .add .int aS1 aS0),iSm 20,.s (.bin .add .int aS1 aS0),iSm 22,.s (.bin .add .int aS1 aS0),iSm 25,.s (.bin .add .int aS1 aS0),iSm 27,.s (.bin .add .int aS1 aS0),iSm 29,.s (.bin .add .int aS1 aS0),.s (.bin .neq .int aS0 aC0),.s (.mv aS0),iPf 0 (.mv aT5),iPf 1 (.bin .neq .int aS0 aC4),.s (.pick aS2 (.c (.bool true)) aS0),.s (.mv aS0),iPf 0 (.mv aO),iPf 1 (.bin .neq .str aS0 (.c (.str [54]))),.s (.pick aS2 (.c (.bool true)) aS0),.s (.mv aS0),iPf 0 (.mv ru),iPf 1 (.len aS0),iPf 2 (.bin .neq .int aS0 aC8),.s (.pick aS3 (.c (.bool true)) aS0),.s (.mv aS0),iPf 0 (.mv aT24),iPf 1 (.len aS0),iPf 2 (.bin .neq .int aS0 aC4),.s (.pick aS3 (.c (.bool true)) aS0),.s (.mv aS0),iPf 0 (.mv aT26),iPf 1 (.not aS0),.s (.pick aS2 (.c (.bool true)) aS0),.s (.mv aS0),iPf 0 (.mv aT28),iPf 1 (.len aS0),iPf 2 (.bin .neq .int aS0 aC8),.s (.pick aS3 (.c (.bool true)) aS0),.s (.mv aS0),iPf 0 (.mv aT7),iPf 1 (.len aS0),iPf 2 (.bin .neq .int aS0 aC8),iQo 30 (.pick aS3 (.c (.bool true)) aS0)] (.cond aT30 (iSr [iQo 0 (.mv (.c (.bool false)))] .ret) .skip)) X1))))))))))))))))))
def F18.b0:IR:=F18.g0 F18.b1
def F18.res:List RV:=[.t (.of 0)]
def F18:Fn:={ params:=[],res:=F18.res,body:=F18.b0,init:=in32 }
theorem F18.ok:fnA Tryz.prog Tryz.f18 [0,1,2,3,4,5,6,7,8,9,10,11,12,13,14,15,16,17,18,19,20,21,22,23,24,25,26,27,28,29,172,194]=some F18:=by kernel_rfl
abbrev F21.fr:=fr20
def F21.b11:IR:=(.reg [iWl 9 (.alloc [.zi,(.bool false)]),.w .none none (.store 2 aT9 aT18)])
def F21.b13:IR:=(iSr [.s (.zu 0 aT9),.s (.load aS0),.s (.load aT7),.s (.zx 1 aS1 aS0),.s (.load aS0),iQm 10 0] (iSr [.s (.load aT6),iSm 10,.s (.zx 1 aS1 aS0),.s (.load aS0),iQo 19 (.not aS0)] (.cond aT19 (iSr [.s (.load aT6),iSm 10,.s (.zx 1 aS1 aS0),.w .none none (.store 1 aS0 (.c (.bool true)))] (.reg [.s (.load aT8),iSm 10,.w .push none (.yg 1 1 [(I 0)] [(0,1,aS0)]),.w .push none (.app 1 8 aS2 aS0),.w .none none (.store 1 aT8 aS0)])) .skip)))
def F21.g12 (X13:IR):IR:=(.block 3 X13)
def F21.b12:IR:=F21.g12 F21.b13
def F21.g10 (X11 X12:IR):IR:=(.rf eX [(.of 17),(.of 18)] X11 X12)
def F21.b10:IR:=F21.g10 F21.b11 F21.b12
def F21.g9 (X10:IR):IR:=(.block 2 X10)
def F21.b9:IR:=F21.g9 F21.b10
def F21.b14:IR:=(iSr [.s (.load aT8),iCa 91 [aS0]] (.reg [iSm 5,.s (.load aT8),.w .push none (.yg 1 1 [.zi] [(0,1,aS0)]),.w .push none (.app 1 24 aS2 aS0),iQm 5 0]))
def F21.g8 (X9 X14:IR):IR:=(iSr [iWl 8 (.alloc [.zi])] (.seq (iSr [iSm 0,iWl 16 (.call (.c (.fn 90 (.of 90) [])) [aS0])] X9) X14))
def F21.b8:IR:=F21.g8 F21.b9 F21.b14
def F21.g7 (X8:IR):IR:=(iSr [iSm 13,iWl 7 (.alloc [(I 0)]),.w .none none (.store 1 aT7 aS0)] (.seq (iSr [.s (.load aT6),.s (.load aT7),.s (.zx 1 aS1 aS0),iQo 15 (.load aS0)] (.cond oW (.exit 1) .skip)) X8))
def F21.b7:IR:=F21.g7 F21.b8
def F21.g6 (X7:IR):IR:=(.block 1 X7)
def F21.b6:IR:=F21.g6 F21.b7
def F21.b15:IR:=(.reg [.s (.bin .add .int fK aC1),iQm 13 0])
def F21.g5 (X6 X15:IR):IR:=(.seq X6 X15)
def F21.b5:IR:=F21.g5 F21.b6 F21.b15
def F21.g4 (X5:IR):IR:=(iSr [iQo 14 (.bin .lss .int fK rZ)] (.seq (.cond aj .skip (.exit 0)) X5))
def F21.b4:IR:=F21.g4 F21.b5
def F21.g3 (X4:IR):IR:=(.loop X4)
def F21.b3:IR:=F21.g3 F21.b4
def F21.g2 (X3:IR):IR:=(.block 0 X3)
def F21.b2:IR:=F21.g2 F21.b3
def F21.b16:IR:=(iSr [iSm 5,iQm 2 0,iQo 3 (.mv aC0)] .ret)
def F21.g1 (X2 X16:IR):IR:=(iSr [iQo 5 (.mv (.c .zi))] (iSr [iSm 1,.w .push none (.jk 1 1 [(.bool false)] aS0 aS0),iWl 6 (.alloc [.zi]),.w .none none (.store 1 aT6 aS0)] (.seq (iSr [iQo 12 (.mv aT1),iQo 13 (.mv aC0)] X2) X16)))
def F21.b1:IR:=F21.g1 F21.b2 F21.b16
def F21.g0 (X1:IR):IR:=(iSr [iQo 2 (.mv (.c .zi)),iQo 3 (.mv aC0)] (.seq (iSr [iSm 0,iSm 1,iCa 22 [aS1,aS0],iQm 4 0] (iSr [iSm 4,iQo 11 (.bin .neq .int aS0 aC0)] (.cond ru (iSr [iSm 4,iQo 2 (.mv (.c .zi)),iQm 3 0] .ret) .skip))) X1))
def F21.b0:IR:=F21.g0 F21.b1
def F21.res:List RV:=[.t (.of 2),.t (.of 3)]
def F21:Fn:={ params:=[(.of 0),(.of 1)],res:=F21.res,body:=F21.b0,init:=in20 }
theorem F21.ok:fnA Tryz.prog Tryz.f21 [0,1,4,5,6,7,8,9,10,12,13,18,22,23,24,29,31,32,33,43]=some F21:=by kernel_rfl
abbrev F22.fr:=fr4
def F22.b0:IR:=(iSr [iQo 2 (.mv aC0)] (iSr [iSm 0,iSm 1,iCa 92 [aS1,aS0],.s (.mv aS0),.s (.ext 0 aS0),.s (.ext 1 aS1),.s (.ext 2 aS2),.s (.mv aS2),.s (.mv aS2),iQm 3 2] (iSr [iSm 3,iQm 2 0] .ret)))
def F22.res:List RV:=[.t (.of 2)]
def F22:Fn:={ params:=[(.of 0),(.of 1)],res:=F22.res,body:=F22.b0,init:=in4 }
theorem F22.ok:fnA Tryz.prog Tryz.f22 [0,1,4,7]=some F22:=by kernel_rfl
abbrev F25.fr:=fr3
def F25.b1:IR:=(iSr [iQo 1 (.mv aC0)] .ret)
def F25.g0 (X1:IR):IR:=(iSr [iQo 1 (.mv aC0)] (.seq (iSr [iSm 0,.s (.bin .lss .int aS0 aC0),.s (.mv aS0),iPf 0 (.mv aT0),iPf 1 (.bin .gtr .int aS0 mU),iQo 2 (.pick aS2 (.c (.bool true)) aS0)] (.cond aT2 (iSr [iQo 1 (.mv aC3)] .ret) .skip)) X1))
def F25.b0:IR:=F25.g0 F25.b1
def F25.res:List RV:=[.t (.of 1)]
def F25:Fn:={ params:=[(.of 0)],res:=F25.res,body:=F25.b0,init:=in3 }
theorem F25.ok:fnA Tryz.prog Tryz.f25 [0,2,8]=some F25:=by kernel_rfl
abbrev F26.fr:=fr6
def F26.b2:IR:=(iSr [.s (.zu 0 aT2),.s (.load aS0),iCa 93 [aS0],iQm 3 0] .ret)
def F26.g1 (X2:IR):IR:=(.seq (iSr [.s (.zu 0 aT2),.s (.load aS0),.s (.len aS0),iSm 1,iQo 5 (.bin .neq .int aS1 aS0)] (.cond aT5 (iSr [iQo 3 (.mv aC2)] .ret) .skip)) X2)
def F26.b1:IR:=F26.g1 F26.b2
def F26.g0 (X1:IR):IR:=(iSr [iWl 2 (.box aT0),iQo 3 (.mv aC0)] (.seq (iSr [iSm 1,iCa 25 [aS0],iQo 4 (.bin .neq .int aS0 aC0)] (.cond aT4 (iSr [iQo 3 (.mv aC3)] .ret) .skip)) X1))
def F26.b0:IR:=F26.g0 F26.b1
def F26.res:List RV:=[.t (.of 3)]
def F26:Fn:={ params:=[(.of 0),(.of 1)],res:=F26.res,body:=F26.b0,init:=in6 }
theorem F26.ok:fnA Tryz.prog Tryz.f26 [0,1,2,4,7,12]=some F26:=by kernel_rfl
abbrev F27.fr:=fr11
def F27.b3:IR:=(iSr [iSm 6,iCa 99 [aS0],iQm 2 0,iQo 3 (.mv aC0)] .ret)
def F27.g2 (X3:IR):IR:=(iSr [iSm 0,iSm 1,iCa 98 [aS1,aS0,zh1],.s (.mv aS0),.s (.ext 0 aS0),.s (.ext 1 aS1),.s (.ext 2 aS2),iQm 6 2,.s (.mv aS1),iQm 7 1] (.seq (iSr [iSm 7,iQo 10 (.not aS0)] (.cond bI (iSr [iQo 2 (.mv (.c .zi)),iQo 3 (.mv aC20)] .ret) .skip)) X3))
def F27.b2:IR:=F27.g2 F27.b3
def F27.g1 (X2:IR):IR:=(.seq (iSr [iSm 0,iSm 1,iCa 97 [aS1,aS0],iQm 5 0] (iSr [iSm 5,iQo 9 (.bin .neq .int aS0 aC0)] (.cond aT9 (iSr [iSm 5,iQo 2 (.mv (.c .zi)),iQm 3 0] .ret) .skip))) X2)
def F27.b1:IR:=F27.g1 F27.b2
def F27.g0 (X1:IR):IR:=(iSr [iQo 2 (.mv (.c .zi)),iQo 3 (.mv aC0)] (.seq (iSr [iSm 1,iCa 95 [aS0],iSm 0,.s (.len aS0),.s (.bin .gtr .int aS0 mU),iCa 96 [aS0,aC5],.w .push none (.yg 1 2 [(I 0)] [(0,1,aS4),(1,1,aS0)]),iCa 94 [aS0],iQm 4 0] (iSr [iSm 4,iQo 8 (.bin .neq .int aS0 aC0)] (.cond aT8 (iSr [iSm 4,iQo 2 (.mv (.c .zi)),iQm 3 0] .ret) .skip))) X1))
def F27.b0:IR:=F27.g0 F27.b1
def F27.res:List RV:=[.t (.of 2),.t (.of 3)]
def F27:Fn:={ params:=[(.of 0),(.of 1)],res:=F27.res,body:=F27.b0,init:=in11 }
theorem F27.ok:fnA Tryz.prog Tryz.f27 [0,1,4,5,6,7,8,10,20,26,36]=some F27:=by kernel_rfl
abbrev F30.fr:=fr5
def F30.b0:IR:=(iSr [iWl 2 (.box aT0),iWl 3 (.box aT1),iQo 4 (.mv (.c (.bool false)))] (iSr [.s (.zu 1 aT2),.s (.load aS0),.s (.zu 1 aT3),.s (.load aS0),.s (.bin .eql .bool aS2 aS0),.s (.mv aS0),iPt 0 (.zu 0 aT2),iPt 1 (.load aS0),iPt 2 (.zu 0 aT3),iPt 3 (.load aS0),.w .push (some (aS4,true)) (.call (.c (.fn 82 (.of 82) [])) [aS2,aS0]),.s (.pick aS5 aS0 (.c (.bool false))),iQm 4 0] .ret))
def F30.res:List RV:=[.t (.of 4)]
def F30:Fn:={ params:=[(.of 0),(.of 1)],res:=F30.res,body:=F30.b0,init:=in5 }
theorem F30.ok:fnA Tryz.prog Tryz.f30 [0,1,2,3,4]=some F30:=by kernel_rfl
abbrev F34.fr:=fr19
def F34.b7:IR:=(iSr [.s (.zx 1 aj eX),.s (.load aS0),iQm 7 0] (iSr [iSm 7,iSm 7,.s (.len aS0),.s (.bin .sub .int aS0 aC1),.s (.zx 1 aS3 aS0),.s (.load aS0),iQm 8 0] (.yw [] [(.s (.load aT6),2,[]),(iSm 8,2,[]),(.s (.load aT6),1,[]),(iSm 8,1,[]),(.s (.zx 1 aS1 aS0),1,[]),(.s (.load aS0),1,[]),(iSm 7,0,[]),(.w .push none (.yg 1 1 [.zi] [(0,1,aS0)]),0,[]),(.w .push none (.app 1 24 aS2 aS0),0,[]),(.s (.zx 1 aS8 aS7),0,[]),(.w .none none (.store 1 aS0 aS1),0,[])])))
def F34.g6 (X7:IR):IR:=(.block 1 X7)
def F34.b6:IR:=F34.g6 F34.b7
def F34.b8:IR:=(.reg [.s (.bin .add .int eX aC1),iQm 16 0])
def F34.g5 (X6 X8:IR):IR:=(.seq X6 X8)
def F34.b5:IR:=F34.g5 F34.b6 F34.b8
def F34.g4 (X5:IR):IR:=(iSr [iQo 17 (.bin .lss .int eX oW)] (.seq (.cond aO .skip (.exit 0)) X5))
def F34.b4:IR:=F34.g4 F34.b5
def F34.g3 (X4:IR):IR:=(.loop X4)
def F34.b3:IR:=F34.g3 F34.b4
def F34.g2 (X3:IR):IR:=(.block 0 X3)
def F34.b2:IR:=F34.g2 F34.b3
def F34.b10:IR:=(iSr [.s (.load aT9),iQm 2 0,iQo 3 (.mv aC0)] .ret)
def F34.g9 (X10:IR):IR:=(iSr [iWl 9 (.alloc [.zi])] (iSr [.s (.zu 0 aT1),.s (.load aS0),.w .push none (.jk 1 8 [(I 0)] aS0 aS0),iWl 10 (.alloc [.zi]),.w .none none (.store 1 bI aS0)] (iSr [.s (.zu 0 aT1),.s (.load aS0),.w .push none (.jk 1 1 [(.bool false)] aS0 aS0),iWl 11 (.alloc [.zi]),.w .none none (.store 1 ru aS0)] (iSr [iWl 12 (.alloc [.fZ])] (iSr [.s (.fn 105 (.of 105) [aT1,aT9,bI,ru,aT6,aT5,rZ]),.w .none none (.store 1 rZ aS0)] (.seq (iSr [.s (.load rZ),.w .push none (.call aS0 [aC0]),iQo 18 (.not aS0)] (.cond aT18 (iSr [iQo 2 (.mv (.c .zi)),iQo 3 (.mv aC5)] .ret) .skip)) X10))))))
def F34.b9:IR:=F34.g9 F34.b10
def F34.g1 (X2 X9:IR):IR:=(iSr [.s (.zh 2 aT1),iCa 104 [aS0],iWl 5 (.alloc [.fZ]),.w .none none (.store 1 aT5 aS0)] (iSr [.s (.zu 0 aT1),.s (.load aS0),.w .push none (.jk 1 24 [.zi] aS0 aS0),iWl 6 (.alloc [.zi]),.w .none none (.store 1 aT6 aS0)] (.seq (iSr [.s (.zu 1 aT1),iQo 14 (.load aS0),iQo 15 (.len aj),iQo 16 (.mv aC0)] X2) X9)))
def F34.b1:IR:=F34.g1 F34.b2 F34.b9
def F34.g0 (X1:IR):IR:=(iSr [iWl 1 (.box aT0),iQo 2 (.mv (.c .zi)),iQo 3 (.mv aC0)] (.seq (.seq (.yw [] [(.s (.zh 2 aT1),0,[]),(.s (.zu 0 aT1),1,[]),(.s (.load aS0),1,[]),(.s (.bin .gtr .int aS0 aC9),1,[]),(iCa 103 [aS3],0,[]),(iCa 96 [aS1,aC20],0,[]),(.w .push none (.yg 1 2 [(I 0)] [(0,1,aS1),(1,1,aS0)]),0,[]),(iCa 94 [aS0],0,[]),(iQm 4 0,0,[])]) (iSr [iSm 4,iQo 13 (.bin .neq .int aS0 aC0)] (.cond fK (iSr [iSm 4,iQo 2 (.mv (.c .zi)),iQm 3 0] .ret) .skip))) X1))
def F34.b0:IR:=F34.g0 F34.b1
def F34.res:List RV:=[.t (.of 2),.t (.of 3)]
def F34:Fn:={ params:=[(.of 0)],res:=F34.res,body:=F34.b0,init:=in19 }
theorem F34.ok:fnA Tryz.prog Tryz.f34 [0,1,2,3,4,5,6,8,9,10,11,12,13,23,31,32,33,34,63]=some F34:=by kernel_rfl
abbrev F36.fr:=fr15
def F36.b4:IR:=(.reg [iWl 8 (.alloc [.zi,(.bool false)]),.w .none none (.store 2 aT8 fK)])
def F36.b6:IR:=(.yw [] [(.s (.zh 2 aT7),1,[]),(.s (.zh 2 aT8),0,[]),(.s (.load aT3),0,[]),(iCa 112 [aS1,aS0],0,[]),(iCa 111 [aS3,aS0],0,[]),(.w .none none (.store 2 aT7 aS0),0,[])])
def F36.g5 (X6:IR):IR:=(.block 1 X6)
def F36.b5:IR:=F36.g5 F36.b6
def F36.g3 (X4 X5:IR):IR:=(.rf ru [(.of 12),(.of 13)] X4 X5)
def F36.b3:IR:=F36.g3 F36.b4 F36.b5
def F36.g2 (X3:IR):IR:=(.block 0 X3)
def F36.b2:IR:=F36.g2 F36.b3
def F36.b8:IR:=(iSr [.s (.zh 4 aT9),iCa 116 [aS0],iQm 4 0,iQo 5 (.mv aC0)] .ret)
def F36.g7 (X8:IR):IR:=(.seq (.yw [(.alloc [(I 0),.zi,(I 0),.zi])] [(.s (.zh 2 aT7),4,[]),(iSm 0,4,[]),(.s (.len aS0),4,[]),(iCa 110 [aS0],0,[]),(iCa 114 [aS3,aS0],0,[]),(iCa 113 [aS0],0,[]),(iWl 9 (.alloc [(I 0),.zi,(I 0),.zi]),0,[]),(.w .none none (.store 4 aT9 aS0),0,[])]) (.seq (iSr [.s (.zh 4 aT9),iWl 14 (.call (.c (.fn 115 (.of 115) [])) [aS0])] (.cond aj (iSr [iQo 4 (.mv (.c (.str []))),iQo 5 (.mv aC4)] .ret) .skip)) X8))
def F36.b7:IR:=F36.g7 F36.b8
def F36.g1 (X2 X7:IR):IR:=(iSr [iCa 110 [aC0],iWl 7 (.alloc [(I 0),.zi]),.w .none none (.store 2 aT7 aS0)] (.seq (iSr [iSm 0,iWl 11 (.call (.c (.fn 90 (.of 90) [])) [aS0])] X2) X7))
def F36.b1:IR:=F36.g1 F36.b2 F36.b7
def F36.g0 (X1:IR):IR:=(iSr [iWl 3 (.box aT2),iQo 4 (.mv (.c (.str []))),iQo 5 (.mv aC0)] (.seq (.seq (.yw [] [(iSm 0,0,[]),(iSm 1,0,[]),(.s (.load aT3),1,[]),(.s (.bin .lss .int aS0 aC0),1,[]),(iCa 22 [aS3,aS2],0,[]),(.s (.mv aS1),0,[]),(iPf 0 (.load aT3),0,[]),(iPf 1 (.bin .gtr .int aS0 xZ),0,[]),(.s (.pick aS2 (.c (.bool true)) aS0),0,[]),(iCa 96 [aS0,aC3],0,[]),(.w .push none (.yg 1 2 [(I 0)] [(0,1,aS5),(1,1,aS0)]),0,[]),(iCa 94 [aS0],0,[]),(iQm 6 0,0,[])]) (iSr [iSm 6,iQo 10 (.bin .neq .int aS0 aC0)] (.cond bI (iSr [iSm 6,iQo 4 (.mv (.c (.str []))),iQm 5 0] .ret) .skip))) X1))
def F36.b0:IR:=F36.g0 F36.b1
def F36.res:List RV:=[.t (.of 4),.t (.of 5)]
def F36:Fn:={ params:=[(.of 0),(.of 1),(.of 2)],res:=F36.res,body:=F36.b0,init:=in15 }
theorem F36.ok:fnA Tryz.prog Tryz.f36 [0,1,2,5,6,7,8,9,11,12,26,30,31,32,45]=some F36:=by kernel_rfl
abbrev F39.fr:=fr20
def F39.b4:IR:=(.reg [iWl 9 (.alloc [.zi,(.bool false)]),.w .none none (.store 2 aT9 oW)])
def F39.b10:IR:=(.reg [iWl 10 (.alloc [.zi,(.bool false)]),.w .none none (.store 2 bI aT19)])
def F39.b12:IR:=(iSr [.s (.zh 2 aT9),.s (.zh 2 bI),iCa 122 [aS1,aS0],iWl 11 (.alloc [.zi,(.bool false)]),.w .none none (.store 2 ru aS0)] (.yw [] [(.s (.load aT7),1,[]),(.s (.zh 2 ru),0,[]),(.s (.zh 2 ru),1,[]),(iCa 123 [aS1],0,[]),(.w .none none (.oz .str aS3 aS0 aS1),0,[])]))
def F39.g11 (X12:IR):IR:=(.block 3 X12)
def F39.b11:IR:=F39.g11 F39.b12
def F39.g9 (X10 X11:IR):IR:=(.rf aO [(.of 18),(.of 19)] X10 X11)
def F39.b9:IR:=F39.g9 F39.b10 F39.b11
def F39.g8 (X9:IR):IR:=(.block 2 X9)
def F39.b8:IR:=F39.g8 F39.b9
def F39.b13:IR:=(.yw [] [(.s (.load aT8),2,[]),(.s (.zu 0 aT9),0,[]),(.s (.load aS0),0,[]),(.s (.zu 1 aT9),1,[]),(.s (.load aS0),1,[]),(iCa 106 [aS2],0,[]),(.s (.build [.zi,(.bool false)] [(0,1,aS0),(1,1,aS1)]),0,[]),(.w .push none (.yg 2 1 [.zi,(.bool false)] [(0,2,aS0)]),0,[]),(.w .push none (.appq 2 32 aS7 aS0),0,[]),(.w .none none (.store 1 aT8 aS0),0,[])])
def F39.g7 (X8 X13:IR):IR:=(.seq (iSr [.s (.load aT3),iWl 17 (.call (.c (.fn 90 (.of 90) [])) [aS0])] X8) X13)
def F39.b7:IR:=F39.g7 F39.b8 F39.b13
def F39.g6 (X7:IR):IR:=(.seq (iSr [.s (.load aT7),.s (.zh 2 aT9),iWl 16 (.call (.c (.fn 121 (.of 121) [])) [aS1,aS0])] (.cond eX (.exit 1) .skip)) X7)
def F39.b6:IR:=F39.g6 F39.b7
def F39.g5 (X6:IR):IR:=(.block 1 X6)
def F39.b5:IR:=F39.g5 F39.b6
def F39.g3 (X4 X5:IR):IR:=(.rf fK [(.of 14),(.of 15)] X4 X5)
def F39.b3:IR:=F39.g3 F39.b4 F39.b5
def F39.g2 (X3:IR):IR:=(.block 0 X3)
def F39.b2:IR:=F39.g2 F39.b3
def F39.b14:IR:=(iSr [.s (.load aT8),iQm 4 0,iQo 5 (.mv aC0)] .ret)
def F39.g1 (X2 X14:IR):IR:=(iSr [.w .push none .fO,iWl 7 (.alloc [.gy]),.w .none none (.store 1 aT7 aS0)] (iSr [iWl 8 (.alloc [.zi])] (.seq (iSr [iSm 0,iWl 13 (.call (.c (.fn 90 (.of 90) [])) [aS0])] X2) X14)))
def F39.b1:IR:=F39.g1 F39.b2 F39.b14
def F39.g0 (X1:IR):IR:=(iSr [iWl 3 (.box aT1),iQo 4 (.mv (.c .zi)),iQo 5 (.mv aC0)] (.seq (iSr [iSm 0,.s (.load aT3),iSm 2,iCa 120 [aS2,aS1,aS0],.s (.mv aS0),.s (.ext 0 aS0),.s (.ext 1 aS1),.s (.ext 2 aS2),.w .push none (.alloc [.zi,.zi]),.s (.mv aS3),.w .none none (.store 2 aS1 aS3),iQm 6 2] (iSr [iSm 6,iQo 12 (.bin .neq .int aS0 aC0)] (.cond rZ (iSr [iSm 6,iQo 4 (.mv (.c .zi)),iQm 5 0] .ret) .skip))) X1))
def F39.b0:IR:=F39.g0 F39.b1
def F39.res:List RV:=[.t (.of 4),.t (.of 5)]
def F39:Fn:={ params:=[(.of 0),(.of 1),(.of 2)],res:=F39.res,body:=F39.b0,init:=in20 }
theorem F39.ok:fnA Tryz.prog Tryz.f39 [0,1,2,4,6,7,10,11,12,14,16,17,27,31,32,33,36,38,39,40]=some F39:=by kernel_rfl
abbrev F40.fr:=fr20
def F40.b13:IR:=(iSr [.s (.zx 2 oW aO),.s (.zh 2 aS0),iWl 9 (.alloc [.zi,(.bool false)]),.w .none none (.store 2 aT9 aS0)] (.seq (.yw [] [(iSm 5,3,[]),(.s (.zh 2 aT8),0,[]),(.s (.zh 2 aT9),0,[]),(.s (.zh 2 aT8),1,[]),(iCa 122 [aS2,aS1],0,[]),(iCa 124 [aS1],0,[]),(iCa 122 [aS1,aS0],0,[]),(iCa 121 [aS6,aS0],0,[]),(iQo 19 (.not aS0),0,[])]) (.cond aT19 (iSr [iQo 3 (.mv (.c (.bool false))),iQo 4 (.mv aC0)] .ret) .skip)))
def F40.g12 (X13:IR):IR:=(.block 3 X13)
def F40.b12:IR:=F40.g12 F40.b13
def F40.b14:IR:=(.reg [.s (.bin .add .int aO aC1),iQm 17 0])
def F40.g11 (X12 X14:IR):IR:=(.seq X12 X14)
def F40.b11:IR:=F40.g11 F40.b12 F40.b14
def F40.g10 (X11:IR):IR:=(iSr [iQo 18 (.bin .lss .int aO eX)] (.seq (.cond aT18 .skip (.exit 2)) X11))
def F40.b10:IR:=F40.g10 F40.b11
def F40.g9 (X10:IR):IR:=(.loop X10)
def F40.b9:IR:=F40.g9 F40.b10
def F40.g8 (X9:IR):IR:=(.block 2 X9)
def F40.b8:IR:=F40.g8 F40.b9
def F40.g7 (X8:IR):IR:=(iSr [.s (.zx 2 ru fK),.s (.zh 2 aS0),iWl 8 (.alloc [.zi,(.bool false)]),.w .none none (.store 2 aT8 aS0)] (iSr [.s (.tK 1 2 aT6 aC1),iQo 15 (.load aS0),iQo 16 (.len oW),iQo 17 (.mv aC0)] X8))
def F40.b7:IR:=F40.g7 F40.b8
def F40.g6 (X7:IR):IR:=(.block 1 X7)
def F40.b6:IR:=F40.g6 F40.b7
def F40.b15:IR:=(.reg [.s (.bin .add .int fK aC1),iQm 13 0])
def F40.g5 (X6 X15:IR):IR:=(.seq X6 X15)
def F40.b5:IR:=F40.g5 F40.b6 F40.b15
def F40.g4 (X5:IR):IR:=(iSr [iQo 14 (.bin .lss .int fK rZ)] (.seq (.cond aj .skip (.exit 0)) X5))
def F40.b4:IR:=F40.g4 F40.b5
def F40.g3 (X4:IR):IR:=(.loop X4)
def F40.b3:IR:=F40.g3 F40.b4
def F40.g2 (X3:IR):IR:=(.block 0 X3)
def F40.b2:IR:=F40.g2 F40.b3
def F40.b16:IR:=(iSr [iQo 3 (.mv (.c (.bool true))),iQo 4 (.mv aC0)] .ret)
def F40.g1 (X2 X16:IR):IR:=(.seq (iSr [.s (.tK 1 2 aT6 aC0),iQo 11 (.load aS0),iQo 12 (.len ru),iQo 13 (.mv aC0)] X2) X16)
def F40.b1:IR:=F40.g1 F40.b2 F40.b16
def F40.g0 (X1:IR):IR:=(iSr [iQo 3 (.mv (.c (.bool false))),iQo 4 (.mv aC0)] (iSr [iSm 0,iSm 1,iSm 2,iCa 120 [aS2,aS1,aS0],.s (.mv aS0),.s (.ext 0 aS0),.s (.ext 1 aS1),.s (.ext 2 aS2),iWl 6 (.alloc [.zi,.zi]),iQm 5 2,.w .none none (.store 2 aT6 aS1),iQm 7 0] (.seq (iSr [iSm 7,iQo 10 (.bin .neq .int aS0 aC0)] (.cond bI (iSr [iSm 7,iQo 3 (.mv (.c (.bool false))),iQm 4 0] .ret) .skip)) X1)))
def F40.b0:IR:=F40.g0 F40.b1
def F40.res:List RV:=[.t (.of 3),.t (.of 4)]
def F40:Fn:={ params:=[(.of 0),(.of 1),(.of 2)],res:=F40.res,body:=F40.b0,init:=in20 }
theorem F40.ok:fnA Tryz.prog Tryz.f40 [0,1,2,6,7,8,9,10,12,14,24,27,28,29,30,34,35,36,37,48]=some F40:=by kernel_rfl
abbrev F41.fr:=fr5
def F41.b6:IR:=(iSr [iSm 0,iSm 2,.s (.zx 1 aS1 aS0),.s (.load aS0),iQo 4 (.bin .neq .int aS0 aC0)] (.cond aT4 (iSr [iSm 0,iSm 2,.s (.zx 1 aS1 aS0),.s (.load aS0),iQm 1 0] .ret) .skip))
def F41.g5 (X6:IR):IR:=(.block 1 X6)
def F41.b5:IR:=F41.g5 F41.b6
def F41.b7:IR:=(.reg [iSm 2,.s (.bin .add .int aS0 aC1),iQm 2 0])
def F41.g4 (X5 X7:IR):IR:=(.seq X5 X7)
def F41.b4:IR:=F41.g4 F41.b5 F41.b7
def F41.g3 (X4:IR):IR:=(.seq (iSr [iSm 2,iSm 0,.s (.len aS0),iQo 3 (.bin .lss .int aS2 aS0)] (.cond aT3 .skip (.exit 0))) X4)
def F41.b3:IR:=F41.g3 F41.b4
def F41.g2 (X3:IR):IR:=(.loop X3)
def F41.b2:IR:=F41.g2 F41.b3
def F41.g1 (X2:IR):IR:=(.block 0 X2)
def F41.b1:IR:=F41.g1 F41.b2
def F41.b8:IR:=(iSr [iQo 1 (.mv aC0)] .ret)
def F41.g0 (X1 X8:IR):IR:=(iSr [iQo 1 (.mv aC0)] (.seq (iSr [iQo 2 (.mv aC0)] X1) X8))
def F41.b0:IR:=F41.g0 F41.b1 F41.b8
def F41.res:List RV:=[.t (.of 1)]
def F41:Fn:={ params:=[(.of 0)],res:=F41.res,body:=F41.b0,init:=in5 }
theorem F41.ok:fnA Tryz.prog Tryz.f41 [0,2,3,7,14]=some F41:=by kernel_rfl
abbrev F47.fr:=fr7
def F47.b1:IR:=(iSr [iSm 4,.s (.zx 1 aS0 aC0),.s (.load aS0),iQm 2 0,iQo 3 (.mv aC0)] .ret)
def F47.g0 (X1:IR):IR:=(iSr [iQo 2 (.mv (.c .zi)),iQo 3 (.mv aC0)] (iSr [iSm 0,iSm 1,iCa 75 [aS1,aS0],.s (.mv aS0),.s (.ext 0 aS0),.s (.ext 1 aS1),iQm 4 1,iQm 5 0] (.seq (iSr [iSm 5,iQo 6 (.bin .neq .int aS0 aC0)] (.cond aT6 (iSr [iSm 5,iQo 2 (.mv (.c .zi)),iQm 3 0] .ret) .skip)) X1)))
def F47.b0:IR:=F47.g0 F47.b1
def F47.res:List RV:=[.t (.of 2),.t (.of 3)]
def F47:Fn:={ params:=[(.of 0),(.of 1)],res:=F47.res,body:=F47.b0,init:=in7 }
theorem F47.ok:fnA Tryz.prog Tryz.f47 [0,1,4,5,6,7,15]=some F47:=by kernel_rfl
abbrev F51.fr:=fr2
def F51.b0:IR:=(iSr [iQo 1 (.mv (.c (.bool false)))] (iSr [iSm 0,.s (.len aS0),.s (.bin .gtr .int aS0 aC16),.s (.mv aS0),iPt 0 (.mv aT0),iPt 1 (.len aS0),iPt 2 (.bin .lss .int aS0 zv7),.s (.pick aS3 aS0 (.c (.bool false))),.s (.mv aS0),iPf 0 (.mv aT0),iPf 1 (.len aS0),iPf 2 (.bin .gtr .int aS0 zv8),.s (.pick aS3 (.c (.bool true)) aS0),iQm 1 0] .ret))
def F51.res:List RV:=[.t (.of 1)]
def F51:Fn:={ params:=[(.of 0)],res:=F51.res,body:=F51.b0,init:=in2 }
theorem F51.ok:fnA Tryz.prog Tryz.f51 [0,2]=some F51:=by kernel_rfl
abbrev F52.fr:=fr11
def F52.b3:IR:=(iSr [iSm 7,iQm 3 0,iQo 4 (.mv aC0)] .ret)
def F52.g2 (X3:IR):IR:=(iSr [.s (.zh 2 aT2),iSm 1,iCa 135 [aS1,aS0],iQm 7 0] (.seq (iSr [iSm 7,iWl 10 (.call (.c (.fn 136 (.of 136) [])) [aS0,(.c (.fn 137 (.of 137) []))])] (.cond bI (iSr [iQo 3 (.mv (.c .zi)),iQo 4 (.mv aC3)] .ret) .skip)) X3))
def F52.b2:IR:=F52.g2 F52.b3
def F52.g1 (X2:IR):IR:=(.seq (iSr [.s (.zh 2 aT2),iSm 1,.s (.len aS0),iCa 56 [aS2,aS0],iQm 6 0] (iSr [iSm 6,iQo 9 (.bin .neq .int aS0 aC0)] (.cond aT9 (iSr [iSm 6,iQo 3 (.mv (.c .zi)),iQm 4 0] .ret) .skip))) X2)
def F52.b1:IR:=F52.g1 F52.b2
def F52.g0 (X1:IR):IR:=(iSr [iWl 2 (.box aT0),iQo 3 (.mv (.c .zi)),iQo 4 (.mv aC0)] (.seq (iSr [iSm 1,iCa 134 [aS0],iQm 5 0] (iSr [iSm 5,iQo 8 (.bin .neq .int aS0 aC0)] (.cond aT8 (iSr [iSm 5,iQo 3 (.mv (.c .zi)),iQm 4 0] .ret) .skip))) X1))
def F52.b0:IR:=F52.g0 F52.b1
def F52.res:List RV:=[.t (.of 3),.t (.of 4)]
def F52:Fn:={ params:=[(.of 0),(.of 1)],res:=F52.res,body:=F52.b0,init:=in11 }
theorem F52.ok:fnA Tryz.prog Tryz.f52 [0,1,2,4,5,6,7,8,12,19,25]=some F52:=by kernel_rfl
abbrev F53.fr:=fr8
def F53.b1:IR:=(iSr [.s (.zh 2 aT2),.s (.zh 2 aT3),iCa 122 [aS1,aS0],.w .none none (.store 2 aT4 aS0),iQo 5 (.mv aC0)] .ret)
def F53.g0 (X1:IR):IR:=(iSr [iWl 2 (.box aT0),iWl 3 (.box aT1),iWl 4 (.alloc [.zi,(.bool false)]),iQo 5 (.mv aC0)] (.seq (.seq (.yw [] [(.s (.zh 2 aT2),0,[]),(.s (.zu 0 aT2),0,[]),(.s (.load aS0),0,[]),(.s (.len aS0),0,[]),(.s (.zh 2 aT3),1,[]),(.s (.zu 0 aT2),1,[]),(.s (.load aS0),1,[]),(.s (.len aS0),1,[]),(iCa 56 [aS7,aS4],0,[]),(iCa 56 [aS4,aS1],0,[]),(.w .push none (.yg 1 2 [(I 0)] [(0,1,aS1),(1,1,aS0)]),0,[]),(iCa 94 [aS0],0,[]),(iQm 6 0,0,[])]) (iSr [iSm 6,iQo 7 (.bin .neq .int aS0 aC0)] (.cond aT7 (iSr [.s (.build [.zi,(.bool false)] []),iSm 6,.w .none none (.store 2 aT4 aS1),iQm 5 0] .ret) .skip))) X1))
def F53.b0:IR:=F53.g0 F53.b1
def F53.res:List RV:=[.cell (.of 4) (some 2),.t (.of 5)]
def F53:Fn:={ params:=[(.of 0),(.of 1)],res:=F53.res,body:=F53.b0,init:=in8 }
theorem F53.ok:fnA Tryz.prog Tryz.f53 [0,1,2,3,4,5,6,20]=some F53:=by kernel_rfl
abbrev F54.fr:=fr6
def F54.b1:IR:=(iSr [.s (.zh 2 aT1),iCa 124 [aS0],.w .none none (.store 2 aT2 aS0),iQo 3 (.mv aC0)] .ret)
def F54.g0 (X1:IR):IR:=(iSr [iWl 1 (.box aT0),iWl 2 (.alloc [.zi,(.bool false)]),iQo 3 (.mv aC0)] (.seq (iSr [.s (.zh 2 aT1),.s (.zu 0 aT1),.s (.load aS0),.s (.len aS0),iCa 56 [aS3,aS0],iQm 4 0] (iSr [iSm 4,iQo 5 (.bin .neq .int aS0 aC0)] (.cond aT5 (iSr [.s (.build [.zi,(.bool false)] []),iSm 4,.w .none none (.store 2 aT2 aS1),iQm 3 0] .ret) .skip))) X1))
def F54.b0:IR:=F54.g0 F54.b1
def F54.res:List RV:=[.cell (.of 2) (some 2),.t (.of 3)]
def F54:Fn:={ params:=[(.of 0)],res:=F54.res,body:=F54.b0,init:=in6 }
theorem F54.ok:fnA Tryz.prog Tryz.f54 [0,1,2,3,4,11]=some F54:=by kernel_rfl
abbrev F55.fr:=fr14
def F55.b8:IR:=(iSr [.s (.zx 1 bI rZ),.s (.load aS0),iQm 7 0] (.reg [iSm 6,iSm 6,iSm 7,iCa 139 [aS1,aS0],.s (.bin .quo .int aS3 aS0),iSm 7,.s (.bin .mul .int aS1 aS0),iQm 6 0]))
def F55.g7 (X8:IR):IR:=(.block 1 X8)
def F55.b7:IR:=F55.g7 F55.b8
def F55.b9:IR:=(.reg [.s (.bin .add .int rZ aC1),iQm 12 0])
def F55.g6 (X7 X9:IR):IR:=(.seq X7 X9)
def F55.b6:IR:=F55.g6 F55.b7 F55.b9
def F55.g5 (X6:IR):IR:=(iSr [iQo 13 (.bin .lss .int rZ ru)] (.seq (.cond fK .skip (.exit 0)) X6))
def F55.b5:IR:=F55.g5 F55.b6
def F55.g4 (X5:IR):IR:=(.loop X5)
def F55.b4:IR:=F55.g4 F55.b5
def F55.g3 (X4:IR):IR:=(.block 0 X4)
def F55.b3:IR:=F55.g3 F55.b4
def F55.b10:IR:=(iSr [iSm 6,iQm 2 0,iQo 3 (.mv aC0)] .ret)
def F55.g2 (X3 X10:IR):IR:=(iSr [iQo 6 (.mv aC1)] (.seq (iSr [iQo 10 (.mv aT5),iQo 11 (.len bI),iQo 12 (.mv aC0)] X3) X10))
def F55.b2:IR:=F55.g2 F55.b3 F55.b10
def F55.g1 (X2:IR):IR:=(iSr [.s (.zh 2 aT1),iCa 138 [aS0],iQm 5 0] (.seq (iSr [.s (.zu 1 aT1),iQo 9 (.load aS0)] (.cond aT9 (.reg [iSm 5,.w .push none (.yg 1 1 [(I 0)] [(0,1,aC2)]),.w .push none (.app 1 8 aS1 aS0),iQm 5 0]) .skip)) X2))
def F55.b1:IR:=F55.g1 F55.b2
def F55.g0 (X1:IR):IR:=(iSr [iWl 1 (.box aT0),iQo 2 (.mv aC0),iQo 3 (.mv aC0)] (.seq (iSr [.s (.zh 2 aT1),.s (.zu 0 aT1),.s (.load aS0),.s (.len aS0),iCa 56 [aS3,aS0],iQm 4 0] (iSr [iSm 4,iQo 8 (.bin .neq .int aS0 aC0)] (.cond aT8 (iSr [iSm 4,iQo 2 (.mv aC0),iQm 3 0] .ret) .skip))) X1))
def F55.b0:IR:=F55.g0 F55.b1
def F55.res:List RV:=[.t (.of 2),.t (.of 3)]
def F55:Fn:={ params:=[(.of 0)],res:=F55.res,body:=F55.b0,init:=in14 }
theorem F55.ok:fnA Tryz.prog Tryz.f55 [0,1,2,3,4,5,6,8,15,20,24,25,26,27]=some F55:=by kernel_rfl
abbrev F56.fr:=fr4
def F56.b0:IR:=(iSr [iWl 2 (.box aT0),iQo 3 (.mv aC0)] (.seq (.yw [] [(iSm 1,0,[]),(.s (.zu 0 aT2),1,[]),(.s (.load aS0),1,[]),(.s (.len aS0),1,[]),(iSm 1,1,[]),(.s (.bin .neq .int aS1 aS0),1,[]),(.s (.zu 0 aT2),2,[]),(.s (.load aS0),2,[]),(iCa 95 [aS7],0,[]),(iCa 96 [aS3,aC2],0,[]),(iCa 140 [aS2],0,[]),(.s (.not aS0),0,[]),(iCa 96 [aS0,aC14],0,[]),(.w .push none (.yg 1 3 [(I 0)] [(0,1,aS4),(1,1,aS3),(2,1,aS0)]),0,[]),(iCa 94 [aS0],0,[]),(iQm 3 0,0,[])]) .ret))
def F56.res:List RV:=[.t (.of 3)]
def F56:Fn:={ params:=[(.of 0),(.of 1)],res:=F56.res,body:=F56.b0,init:=in4 }
theorem F56.ok:fnA Tryz.prog Tryz.f56 [0,1,2,4]=some F56:=by kernel_rfl
abbrev F57.fr:=fr3
def F57.b1:IR:=(iSr [iSm 0,iCa 59 [aS0],iQm 1 0] .ret)
def F57.g0 (X1:IR):IR:=(iSr [iQo 1 (.mv aC0)] (.seq (iSr [iSm 0,.s (.len aS0),iQo 2 (.bin .gtr .int aS0 mU)] (.cond aT2 (iSr [iQo 1 (.mv aC5)] .ret) .skip)) X1))
def F57.b0:IR:=F57.g0 F57.b1
def F57.res:List RV:=[.t (.of 1)]
def F57:Fn:={ params:=[(.of 0)],res:=F57.res,body:=F57.b0,init:=in3 }
theorem F57.ok:fnA Tryz.prog Tryz.f57 [0,2,5]=some F57:=by kernel_rfl
abbrev F58.fr:=fr9
def F58.b7:IR:=(.reg [iSm 4,.s (.zu 0 aT2),.s (.load aS0),iSm 5,.s (.zx 1 aS1 aS0),.s (.load aS0),iSm 6,.s (.zx 1 aS6 aS1),.w .none none (.store 1 aS0 aS1)])
def F58.g6 (X7:IR):IR:=(iSr [iSm 1,iSm 5,.s (.zx 1 aS1 aS0),.s (.load aS0),iQm 6 0] (.seq (iSr [.s (.zu 1 aT2),iQo 8 (.load aS0)] (.cond aT8 (.reg [iSm 1,.s (.len aS0),.s (.bin .add .int aS0 aC1),iSm 6,.s (.bin .sub .int aS1 aS0),iQm 6 0]) .skip)) X7))
def F58.b6:IR:=F58.g6 F58.b7
def F58.g5 (X6:IR):IR:=(.block 1 X6)
def F58.b5:IR:=F58.g5 F58.b6
def F58.b8:IR:=(.reg [iSm 5,.s (.bin .add .int aS0 aC1),iQm 5 0])
def F58.g4 (X5 X8:IR):IR:=(.seq X5 X8)
def F58.b4:IR:=F58.g4 F58.b5 F58.b8
def F58.g3 (X4:IR):IR:=(.seq (iSr [iSm 5,iSm 1,.s (.len aS0),iQo 7 (.bin .lss .int aS2 aS0)] (.cond aT7 .skip (.exit 0))) X4)
def F58.b3:IR:=F58.g3 F58.b4
def F58.g2 (X3:IR):IR:=(.loop X3)
def F58.b2:IR:=F58.g2 F58.b3
def F58.g1 (X2:IR):IR:=(.block 0 X2)
def F58.b1:IR:=F58.g1 F58.b2
def F58.b9:IR:=(iSr [iSm 4,iQm 3 0] .ret)
def F58.g0 (X1 X9:IR):IR:=(iSr [iWl 2 (.box aT0),iQo 3 (.mv (.c .zi))] (iSr [iSm 1,.s (.len aS0),.w .push none (.jk 1 8 [(I 0)] aS0 aS0),iQm 4 0] (.seq (iSr [iQo 5 (.mv aC0)] X1) X9)))
def F58.b0:IR:=F58.g0 F58.b1 F58.b9
def F58.res:List RV:=[.t (.of 3)]
def F58:Fn:={ params:=[(.of 0),(.of 1)],res:=F58.res,body:=F58.b0,init:=in9 }
theorem F58.ok:fnA Tryz.prog Tryz.f58 [0,1,2,4,5,6,7,14,22]=some F58:=by kernel_rfl
abbrev F59.fr:=fr5
def F59.b6:IR:=(iSr [iSm 0,iSm 2,.s (.zx 1 aS1 aS0),.s (.load aS0),.s (.bin .lss .int aS0 (.c (I (-999999999)))),.s (.mv aS0),iPf 0 (.mv aT0),iPf 1 (.mv aT2),iPf 2 (.zx 1 aS1 aS0),iPf 3 (.load aS0),iPf 4 (.bin .gtr .int aS0 xZ),iQo 4 (.pick aS5 (.c (.bool true)) aS0)] (.cond aT4 (iSr [iQo 1 (.mv aC3)] .ret) .skip))
def F59.g5 (X6:IR):IR:=(.block 1 X6)
def F59.b5:IR:=F59.g5 F59.b6
def F59.b7:IR:=(.reg [iSm 2,.s (.bin .add .int aS0 aC1),iQm 2 0])
def F59.g4 (X5 X7:IR):IR:=(.seq X5 X7)
def F59.b4:IR:=F59.g4 F59.b5 F59.b7
def F59.g3 (X4:IR):IR:=(.seq (iSr [iSm 2,iSm 0,.s (.len aS0),iQo 3 (.bin .lss .int aS2 aS0)] (.cond aT3 .skip (.exit 0))) X4)
def F59.b3:IR:=F59.g3 F59.b4
def F59.g2 (X3:IR):IR:=(.loop X3)
def F59.b2:IR:=F59.g2 F59.b3
def F59.g1 (X2:IR):IR:=(.block 0 X2)
def F59.b1:IR:=F59.g1 F59.b2
def F59.b8:IR:=(iSr [iQo 1 (.mv aC0)] .ret)
def F59.g0 (X1 X8:IR):IR:=(iSr [iQo 1 (.mv aC0)] (.seq (iSr [iQo 2 (.mv aC0)] X1) X8))
def F59.b0:IR:=F59.g0 F59.b1 F59.b8
def F59.res:List RV:=[.t (.of 1)]
def F59:Fn:={ params:=[(.of 0)],res:=F59.res,body:=F59.b0,init:=in5 }
theorem F59.ok:fnA Tryz.prog Tryz.f59 [0,2,3,7,21]=some F59:=by kernel_rfl
abbrev F60.fr:=fr6
def F60.b1:IR:=(iSr [iSm 1,.s (.bin .eql .int aS0 aC0),.s (.mv aS0),iPt 0 (.mv aT0),iPt 1 (.mv aT3),.w .push (some (aS2,true)) (.call (.c (.fn 82 (.of 82) [])) [aS1,aS0]),.s (.pick aS3 aS0 (.c (.bool false))),iQm 4 0] .ret)
def F60.g0 (X1:IR):IR:=(iSr [iQo 4 (.mv (.c (.bool false)))] (.seq (iSr [iSm 2,iQo 5 (.bin .neq .int aS0 aC0)] (.cond aT5 (iSr [iSm 0,.s (.len aS0),.s (.bin .eql .int aS0 aC0),.s (.mv aS0),iPt 0 (.mv aT1),iPt 1 (.mv aT2),iPt 2 (.bin .eql .int aS1 aS0),.s (.pick aS3 aS0 (.c (.bool false))),iQm 4 0] .ret) .skip)) X1))
def F60.b0:IR:=F60.g0 F60.b1
def F60.res:List RV:=[.t (.of 4)]
def F60:Fn:={ params:=[(.of 0),(.of 1),(.of 2),(.of 3)],res:=F60.res,body:=F60.b0,init:=in6 }
theorem F60.ok:fnA Tryz.prog Tryz.f60 [0,1,2,3,8,10]=some F60:=by kernel_rfl
abbrev F61.fr:=fr3
def F61.b0:IR:=(iSr [iWl 1 (.box aT0),iQo 2 (.mv aC0)] (iSr [.s (.zh 2 aT1),.s (.zu 0 aT1),.s (.load aS0),.s (.len aS0),iCa 26 [aS3,aS0],iQm 2 0] .ret))
def F61.res:List RV:=[.t (.of 2)]
def F61:Fn:={ params:=[(.of 0)],res:=F61.res,body:=F61.b0,init:=in3 }
theorem F61.ok:fnA Tryz.prog Tryz.f61 [0,1,2]=some F61:=by kernel_rfl
abbrev F62.fr:=fr8
def F62.b1:IR:=(iSr [iSm 1,.s (.bin .eql .int aS0 aC0),.s (.mv aS0),iPt 0 (.zh 2 aT4),iPt 1 (.zh 2 aT5),.w .push (some (aS2,true)) (.call (.c (.fn 30 (.of 30) [])) [aS1,aS0]),.s (.pick aS3 aS0 (.c (.bool false))),iQm 6 0] .ret)
def F62.g0 (X1:IR):IR:=(iSr [iWl 4 (.box aT0),iWl 5 (.box aT3),iQo 6 (.mv (.c (.bool false)))] (.seq (iSr [iSm 2,iQo 7 (.bin .neq .int aS0 aC0)] (.cond aT7 (iSr [.s (.zu 0 aT4),.s (.load aS0),.s (.len aS0),.s (.bin .eql .int aS0 aC0),.s (.mv aS0),iPt 0 (.zu 1 aT4),iPt 1 (.load aS0),iPt 2 (.not aS0),.s (.pick aS3 aS0 (.c (.bool false))),.s (.mv aS0),iPt 0 (.mv aT1),iPt 1 (.mv aT2),iPt 2 (.bin .eql .int aS1 aS0),.s (.pick aS3 aS0 (.c (.bool false))),iQm 6 0] .ret) .skip)) X1))
def F62.b0:IR:=F62.g0 F62.b1
def F62.res:List RV:=[.t (.of 6)]
def F62:Fn:={ params:=[(.of 0),(.of 1),(.of 2),(.of 3)],res:=F62.res,body:=F62.b0,init:=in8 }
theorem F62.ok:fnA Tryz.prog Tryz.f62 [0,1,2,3,4,7,8,10]=some F62:=by kernel_rfl
abbrev F63.fr:=fr3
def F63.b0:IR:=(iSr [iWl 1 (.box aT0),iWl 2 (.alloc [.zi,(.bool false)])] (.seq (.yw [] [(.s (.zu 0 aT1),0,[]),(.s (.load aS0),0,[]),(.s (.zu 1 aT1),1,[]),(.s (.load aS0),1,[]),(iCa 141 [aS2],0,[]),(.s (.build [.zi,(.bool false)] [(0,1,aS0),(1,1,aS1)]),0,[]),(.w .none none (.store 2 aT2 aS0),0,[])]) .ret))
def F63.res:List RV:=[.cell (.of 2) (some 2)]
def F63:Fn:={ params:=[(.of 0)],res:=F63.res,body:=F63.b0,init:=in3 }
theorem F63.ok:fnA Tryz.prog Tryz.f63 [0,1,2]=some F63:=by kernel_rfl
abbrev F64.fr:=fr8
def F64.b6:IR:=(.yw [] [(iSm 3,1,[]),(iSm 3,0,[]),(iSm 4,0,[]),(iSm 5,0,[]),(.s (.zx 1 aS1 aS0),0,[]),(.s (.load aS0),0,[]),(.s (.len aS0),0,[]),(iSm 4,1,[]),(iSm 5,1,[]),(.s (.zx 1 aS1 aS0),1,[]),(.s (.load aS0),1,[]),(.s (.len aS0),1,[]),(iCa 143 [aS10,aS5],0,[]),(.s (.bin .quo .int aS12 aS0),0,[]),(.s (.bin .mul .int aS0 aS2),0,[]),(iQm 3 0,0,[])])
def F64.g5 (X6:IR):IR:=(.block 1 X6)
def F64.b5:IR:=F64.g5 F64.b6
def F64.b7:IR:=(.reg [iSm 5,.s (.bin .add .int aS0 aC1),iQm 5 0])
def F64.g4 (X5 X7:IR):IR:=(.seq X5 X7)
def F64.b4:IR:=F64.g4 F64.b5 F64.b7
def F64.g3 (X4:IR):IR:=(.seq (iSr [iSm 5,iSm 4,.s (.len aS0),iQo 6 (.bin .lss .int aS2 aS0)] (.cond aT6 .skip (.exit 0))) X4)
def F64.b3:IR:=F64.g3 F64.b4
def F64.g2 (X3:IR):IR:=(.loop X3)
def F64.b2:IR:=F64.g2 F64.b3
def F64.g1 (X2:IR):IR:=(.block 0 X2)
def F64.b1:IR:=F64.g1 F64.b2
def F64.b9:IR:=(iSr [iSm 3,iQm 2 0] .ret)
def F64.g8 (X9:IR):IR:=(.seq (iSr [.s (.zu 1 aT1),.s (.load aS0),.s (.mv aS0),iPt 0 (.mv aT3),iPt 1 (.bin .rem .int aS0 aC2),iPt 2 (.bin .eql .int aS0 aC1),iQo 7 (.pick aS3 aS0 (.c (.bool false)))] (.cond aT7 (.reg [iSm 3,.s (.bin .mul .int aC2 aS0),iQm 3 0]) .skip)) X9)
def F64.b8:IR:=F64.g8 F64.b9
def F64.g0 (X1 X8:IR):IR:=(iSr [iWl 1 (.box aT0),iQo 2 (.mv aC0)] (iSr [iQo 3 (.mv aC1)] (iSr [.s (.zu 0 aT1),.s (.load aS0),iCa 142 [aS0],iQm 4 0] (.seq (iSr [iQo 5 (.mv aC0)] X1) X8))))
def F64.b0:IR:=F64.g0 F64.b1 F64.b8
def F64.res:List RV:=[.t (.of 2)]
def F64:Fn:={ params:=[(.of 0)],res:=F64.res,body:=F64.b0,init:=in8 }
theorem F64.ok:fnA Tryz.prog Tryz.f64 [0,1,2,3,4,5,12,36]=some F64:=by kernel_rfl
abbrev F65.fr:=fr5
def F65.b0:IR:=(iSr [iWl 2 (.box aT0),iWl 3 (.box aT1),iWl 4 (.alloc [.zi,(.bool false)])] (.seq (.yw [] [(.s (.zu 0 aT2),0,[]),(.s (.load aS0),0,[]),(.s (.zu 0 aT3),0,[]),(.s (.load aS0),0,[]),(.s (.zu 1 aT2),1,[]),(.s (.load aS0),1,[]),(.s (.zu 1 aT3),1,[]),(.s (.load aS0),1,[]),(.s (.bin .neq .bool aS2 aS0),1,[]),(iCa 144 [aS7,aS5],0,[]),(.s (.build [.zi,(.bool false)] [(0,1,aS0),(1,1,aS1)]),0,[]),(.w .none none (.store 2 aT4 aS0),0,[])]) .ret))
def F65.res:List RV:=[.cell (.of 4) (some 2)]
def F65:Fn:={ params:=[(.of 0),(.of 1)],res:=F65.res,body:=F65.b0,init:=in5 }
theorem F65.ok:fnA Tryz.prog Tryz.f65 [0,1,2,3,4]=some F65:=by kernel_rfl
abbrev F66.fr:=fr10
def F66.b7:IR:=(iSr [iSm 8,iWl 6 (.alloc [(I 0)]),.w .none none (.store 1 aT6 aS0)] (.reg [iSm 5,.s (.load aT1),.s (.fn 147 (.of 147) [aT6,aT1]),iCa 146 [aS2,aS1,aS0]]))
def F66.g6 (X7:IR):IR:=(.block 1 X7)
def F66.b6:IR:=F66.g6 F66.b7
def F66.b8:IR:=(.reg [.s (.bin .add .int aT8 aC1),iQm 8 0])
def F66.g5 (X6 X8:IR):IR:=(.seq X6 X8)
def F66.b5:IR:=F66.g5 F66.b6 F66.b8
def F66.g4 (X5:IR):IR:=(iSr [iQo 9 (.bin .lss .int aT8 aC8)] (.seq (.cond aT9 .skip (.exit 0)) X5))
def F66.b4:IR:=F66.g4 F66.b5
def F66.g3 (X4:IR):IR:=(.loop X4)
def F66.b3:IR:=F66.g3 F66.b4
def F66.g2 (X3:IR):IR:=(.block 0 X3)
def F66.b2:IR:=F66.g2 F66.b3
def F66.b9:IR:=(iSr [iSm 5,iCa 99 [aS0],iQm 2 0,iQo 3 (.mv aC0)] .ret)
def F66.g1 (X2 X9:IR):IR:=(iSr [.w .push none .fO,iQm 5 0] (.seq (iSr [iQo 8 (.mv aC0)] X2) X9))
def F66.b1:IR:=F66.g1 F66.b2 F66.b9
def F66.g0 (X1:IR):IR:=(iSr [iWl 1 (.box aT0),iQo 2 (.mv (.c .zi)),iQo 3 (.mv aC0)] (.seq (iSr [.s (.load aT1),iCa 145 [aS0],iQm 4 0] (iSr [iSm 4,iQo 7 (.bin .neq .int aS0 aC0)] (.cond aT7 (iSr [iSm 4,iQo 2 (.mv (.c .zi)),iQm 3 0] .ret) .skip))) X1))
def F66.b0:IR:=F66.g0 F66.b1
def F66.res:List RV:=[.t (.of 2),.t (.of 3)]
def F66:Fn:={ params:=[(.of 0)],res:=F66.res,body:=F66.b0,init:=in10 }
theorem F66.ok:fnA Tryz.prog Tryz.f66 [0,1,2,3,4,5,6,10,13,14]=some F66:=by kernel_rfl
abbrev F68.fr:=fr10
def F68.b1:IR:=(iSr [.w .push none .fO,iWl 5 (.alloc [.gy]),.w .none none (.store 1 aT5 aS0)] (iSr [.s (.load aT1),.w .push none (.jk 1 8 [(I 0)] aS0 aS0),iWl 6 (.alloc [.zi]),.w .none none (.store 1 aT6 aS0)] (iSr [.s (.load aT1),.w .push none (.jk 1 1 [(.bool false)] aS0 aS0),iWl 7 (.alloc [.zi]),.w .none none (.store 1 aT7 aS0)] (iSr [iWl 8 (.alloc [.fZ])] (iSr [.s (.fn 149 (.of 149) [aT1,aT5,aT6,aT7,aT8]),.w .none none (.store 1 aT8 aS0)] (iSr [.s (.load aT8),.w .push none (.call aS0 [aC0])] (iSr [.s (.load aT5),iCa 99 [aS0],iQm 2 0,iQo 3 (.mv aC0)] .ret)))))))
def F68.g0 (X1:IR):IR:=(iSr [iWl 1 (.box aT0),iQo 2 (.mv (.c .zi)),iQo 3 (.mv aC0)] (.seq (.seq (.yw [] [(.s (.load aT1),0,[]),(.s (.load aT1),1,[]),(.s (.bin .geq .int aS0 aC10),1,[]),(iCa 145 [aS2],0,[]),(iCa 96 [aS1,aC5],0,[]),(.w .push none (.yg 1 2 [(I 0)] [(0,1,aS1),(1,1,aS0)]),0,[]),(iCa 94 [aS0],0,[]),(iQm 4 0,0,[])]) (iSr [iSm 4,iQo 9 (.bin .neq .int aS0 aC0)] (.cond aT9 (iSr [iSm 4,iQo 2 (.mv (.c .zi)),iQm 3 0] .ret) .skip))) X1))
def F68.b0:IR:=F68.g0 F68.b1
def F68.res:List RV:=[.t (.of 2),.t (.of 3)]
def F68:Fn:={ params:=[(.of 0)],res:=F68.res,body:=F68.b0,init:=in10 }
theorem F68.ok:fnA Tryz.prog Tryz.f68 [0,1,2,3,4,5,6,7,8,17]=some F68:=by kernel_rfl
abbrev F69.fr:=fr7
def F69.b7:IR:=(.seq (.yw [] [(iSm 0,0,[]),(iSm 3,0,[]),(.s (.zx 2 aS1 aS0),0,[]),(.s (.zh 2 aS0),0,[]),(iSm 1,0,[]),(iSm 3,0,[]),(.s (.zx 2 aS1 aS0),0,[]),(.s (.zh 2 aS0),0,[]),(iCa 30 [aS4,aS0],0,[]),(iQo 6 (.not aS0),0,[])]) (.cond aT6 (iSr [iQo 2 (.mv (.c (.bool false)))] .ret) .skip))
def F69.g6 (X7:IR):IR:=(.block 1 X7)
def F69.b6:IR:=F69.g6 F69.b7
def F69.b8:IR:=(.reg [iSm 3,.s (.bin .add .int aS0 aC1),iQm 3 0])
def F69.g5 (X6 X8:IR):IR:=(.seq X6 X8)
def F69.b5:IR:=F69.g5 F69.b6 F69.b8
def F69.g4 (X5:IR):IR:=(.seq (iSr [iSm 3,iSm 0,.s (.len aS0),iQo 5 (.bin .lss .int aS2 aS0)] (.cond aT5 .skip (.exit 0))) X5)
def F69.b4:IR:=F69.g4 F69.b5
def F69.g3 (X4:IR):IR:=(.loop X4)
def F69.b3:IR:=F69.g3 F69.b4
def F69.g2 (X3:IR):IR:=(.block 0 X3)
def F69.b2:IR:=F69.g2 F69.b3
def F69.b9:IR:=(iSr [iQo 2 (.mv (.c (.bool true)))] .ret)
def F69.g1 (X2 X9:IR):IR:=(.seq (iSr [iQo 3 (.mv aC0)] X2) X9)
def F69.b1:IR:=F69.g1 F69.b2 F69.b9
def F69.g0 (X1:IR):IR:=(iSr [iQo 2 (.mv (.c (.bool false)))] (.seq (iSr [iSm 0,.s (.len aS0),iSm 1,.s (.len aS0),iQo 4 (.bin .neq .int aS2 aS0)] (.cond aT4 (iSr [iQo 2 (.mv (.c (.bool false)))] .ret) .skip)) X1))
def F69.b0:IR:=F69.g0 F69.b1
def F69.res:List RV:=[.t (.of 2)]
def F69:Fn:={ params:=[(.of 0),(.of 1)],res:=F69.res,body:=F69.b0,init:=in7 }
theorem F69.ok:fnA Tryz.prog Tryz.f69 [0,1,4,5,10,14,26]=some F69:=by kernel_rfl
abbrev F75.fr:=fr6
def F75.b1:IR:=(iSr [iSm 0,iSm 1,iCa 157 [aS1,aS0],.s (.ext 0 aS0),.s (.ext 1 aS1),iQm 2 1,iQm 3 0] .ret)
def F75.g0 (X1:IR):IR:=(iSr [iQo 2 (.mv (.c .zi)),iQo 3 (.mv aC0)] (.seq (iSr [iSm 0,iSm 1,iCa 156 [aS1,aS0],iQm 4 0] (iSr [iSm 4,iQo 5 (.bin .neq .int aS0 aC0)] (.cond aT5 (iSr [iSm 4,iQo 2 (.mv (.c .zi)),iQm 3 0] .ret) .skip))) X1))
def F75.b0:IR:=F75.g0 F75.b1
def F75.res:List RV:=[.t (.of 2),.t (.of 3)]
def F75:Fn:={ params:=[(.of 0),(.of 1)],res:=F75.res,body:=F75.b0,init:=in6 }
theorem F75.ok:fnA Tryz.prog Tryz.f75 [0,1,4,5,6,11]=some F75:=by kernel_rfl
abbrev F81.fr:=fr7
def F81.b7:IR:=(.seq (.yw [] [(iSm 0,0,[]),(iSm 3,0,[]),(.s (.zx 1 aS1 aS0),0,[]),(.s (.load aS0),0,[]),(iSm 1,0,[]),(iSm 3,0,[]),(.s (.zx 1 aS1 aS0),0,[]),(.s (.load aS0),0,[]),(iCa 82 [aS4,aS0],0,[]),(iQo 6 (.not aS0),0,[])]) (.cond aT6 (iSr [iQo 2 (.mv (.c (.bool false)))] .ret) .skip))
def F81.g6 (X7:IR):IR:=(.block 1 X7)
def F81.b6:IR:=F81.g6 F81.b7
def F81.b8:IR:=(.reg [iSm 3,.s (.bin .add .int aS0 aC1),iQm 3 0])
def F81.g5 (X6 X8:IR):IR:=(.seq X6 X8)
def F81.b5:IR:=F81.g5 F81.b6 F81.b8
def F81.g4 (X5:IR):IR:=(.seq (iSr [iSm 3,iSm 0,.s (.len aS0),iQo 5 (.bin .lss .int aS2 aS0)] (.cond aT5 .skip (.exit 0))) X5)
def F81.b4:IR:=F81.g4 F81.b5
def F81.g3 (X4:IR):IR:=(.loop X4)
def F81.b3:IR:=F81.g3 F81.b4
def F81.g2 (X3:IR):IR:=(.block 0 X3)
def F81.b2:IR:=F81.g2 F81.b3
def F81.b9:IR:=(iSr [iQo 2 (.mv (.c (.bool true)))] .ret)
def F81.g1 (X2 X9:IR):IR:=(.seq (iSr [iQo 3 (.mv aC0)] X2) X9)
def F81.b1:IR:=F81.g1 F81.b2 F81.b9
def F81.g0 (X1:IR):IR:=(iSr [iQo 2 (.mv (.c (.bool false)))] (.seq (iSr [iSm 0,.s (.len aS0),iSm 1,.s (.len aS0),iQo 4 (.bin .neq .int aS2 aS0)] (.cond aT4 (iSr [iQo 2 (.mv (.c (.bool false)))] .ret) .skip)) X1))
def F81.b0:IR:=F81.g0 F81.b1
def F81.res:List RV:=[.t (.of 2)]
def F81:Fn:={ params:=[(.of 0),(.of 1)],res:=F81.res,body:=F81.b0,init:=in7 }
theorem F81.ok:fnA Tryz.prog Tryz.f81 [0,1,4,5,10,14,26]=some F81:=by kernel_rfl
abbrev F82.fr:=fr7
def F82.b7:IR:=(.seq (.yw [] [(iSm 0,0,[]),(iSm 3,0,[]),(.s (.zx 1 aS1 aS0),0,[]),(.s (.load aS0),0,[]),(iSm 1,0,[]),(iSm 3,0,[]),(.s (.zx 1 aS1 aS0),0,[]),(.s (.load aS0),0,[]),(iQo 6 (.bin .neq .int aS4 aS0),0,[])]) (.cond aT6 (iSr [iQo 2 (.mv (.c (.bool false)))] .ret) .skip))
def F82.g6 (X7:IR):IR:=(.block 1 X7)
def F82.b6:IR:=F82.g6 F82.b7
def F82.b8:IR:=(.reg [iSm 3,.s (.bin .add .int aS0 aC1),iQm 3 0])
def F82.g5 (X6 X8:IR):IR:=(.seq X6 X8)
def F82.b5:IR:=F82.g5 F82.b6 F82.b8
def F82.g4 (X5:IR):IR:=(.seq (iSr [iSm 3,iSm 0,.s (.len aS0),iQo 5 (.bin .lss .int aS2 aS0)] (.cond aT5 .skip (.exit 0))) X5)
def F82.b4:IR:=F82.g4 F82.b5
def F82.g3 (X4:IR):IR:=(.loop X4)
def F82.b3:IR:=F82.g3 F82.b4
def F82.g2 (X3:IR):IR:=(.block 0 X3)
def F82.b2:IR:=F82.g2 F82.b3
def F82.b9:IR:=(iSr [iQo 2 (.mv (.c (.bool true)))] .ret)
def F82.g1 (X2 X9:IR):IR:=(.seq (iSr [iQo 3 (.mv aC0)] X2) X9)
def F82.b1:IR:=F82.g1 F82.b2 F82.b9
def F82.g0 (X1:IR):IR:=(iSr [iQo 2 (.mv (.c (.bool false)))] (.seq (iSr [iSm 0,.s (.len aS0),iSm 1,.s (.len aS0),iQo 4 (.bin .neq .int aS2 aS0)] (.cond aT4 (iSr [iQo 2 (.mv (.c (.bool false)))] .ret) .skip)) X1))
def F82.b0:IR:=F82.g0 F82.b1
def F82.res:List RV:=[.t (.of 2)]
def F82:Fn:={ params:=[(.of 0),(.of 1)],res:=F82.res,body:=F82.b0,init:=in7 }
theorem F82.ok:fnA Tryz.prog Tryz.f82 [0,1,4,5,10,14,25]=some F82:=by kernel_rfl
abbrev F89.fr:=fr1
def F89.b0:IR:=(iSr [iQo 0 (.mv (.c .zi))] (iSr [.w .push none (.yg 1 9 [(I 0)] [(0,1,aC2),(1,1,aC7),(2,1,aC6),(3,1,aC9),(4,1,aC5),(5,1,aC1),(6,1,aC4),(7,1,aC3),(8,1,aC8)]),iQm 0 0] .ret))
def F89.res:List RV:=[.t (.of 0)]
def F89:Fn:={ params:=[],res:=F89.res,body:=F89.b0,init:=in1 }
theorem F89.ok:fnA Tryz.prog Tryz.f89 [0]=some F89:=by kernel_rfl
abbrev F90.fr:=fr3
def F90.b0:IR:=(iSr [iWl 1 (.box aT0),iQo 2 (.mv (.c .fZ))] (iSr [.s (.fn 159 (.of 159) [aT1]),iQm 2 0] .ret))
def F90.res:List RV:=[.t (.of 2)]
def F90:Fn:={ params:=[(.of 0)],res:=F90.res,body:=F90.b0,init:=in3 }
theorem F90.ok:fnA Tryz.prog Tryz.f90 [0,1,2]=some F90:=by kernel_rfl
abbrev F91.fr:=fr2
def F91.b0:IR:=(iSr [iSm 0,.s (.len aS0),iQm 1 0] (.reg [iSm 0,iSm 1,iSm 1,.s (.conv .u64 aS0),iCa 161 [aS0],iCa 160 [aS4,aC0,aS3,aS0]]))
def F91.res:List RV:=[]
def F91:Fn:={ params:=[(.of 0)],res:=F91.res,body:=F91.b0,init:=in2 }
theorem F91.ok:fnA Tryz.prog Tryz.f91 [0,2]=some F91:=by kernel_rfl
end
end Go.Ev
