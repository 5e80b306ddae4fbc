import Derived.Test.YtfgpjkchdelphaaGreatDoorEvC
import Derived.Test.YtfgpjkchdelphaaGreatDoorProg
import Derived.KernelRfl
set_option linter.unusedSimpArgs false
set_option linter.unusedVariables false
namespace Go.Ev
open Go Go.Proofs
set_option maxRecDepth 100000
noncomputable section
abbrev zU:List AV:=[(.int .u8 0),(.int .u8 0),(.int .u8 0),(.int .u8 0),(.int .u8 0),(.int .u8 0),(.int .u8 0),(.int .u8 0),(.int .u8 0),(.int .u8 0),(.int .u8 0),(.int .u8 0),(.int .u8 0),(.int .u8 0),(.int .u8 0),(.int .u8 0),(.int .u8 0),(.int .u8 0),(.int .u8 0),(.int .u8 0),(.int .u8 0),(.int .u8 0),(.int .u8 0),(.int .u8 0),(.int .u8 0),(.int .u8 0),(.int .u8 0),(.int .u8 0),(.int .u8 0),(.int .u8 0),(.int .u8 0),(.int .u8 0),(.int .u8 0),(.int .u8 0),(.int .u8 0),(.int .u8 0),(.int .u8 0),(.int .u8 0),(.int .u8 0),(.int .u8 0),(.int .u8 0),(.int .u8 0),(.int .u8 0),(.int .u8 0),(.int .u8 0),(.int .u8 0),(.int .u8 0),(.int .u8 0),(.int .u8 0),(.int .u8 0),(.int .u8 0),(.int .u8 0),(.int .u8 0),(.int .u8 0),(.int .u8 0),(.int .u8 0),(.int .u8 0),(.int .u8 0),(.int .u8 0),(.int .u8 0),(.int .u8 0),(.int .u8 0),(.int .u8 0),(.int .u8 0),(.int .u8 0),(.int .u8 0),(.int .u8 0),(.int .u8 0),(.int .u8 0),(.int .u8 0),(.int .u8 0),(.int .u8 0),(.int .u8 0),(.int .u8 0),(.int .u8 0),(.int .u8 0),(.int .u8 0),(.int .u8 0),(.int .u8 0),(.int .u8 0),(.int .u8 0),(.int .u8 0),(.int .u8 0),(.int .u8 0),(.int .u8 0),(.int .u8 0),(.int .u8 0),(.int .u8 0),(.int .u8 0),(.int .u8 0),(.int .u8 0),(.int .u8 0),(.int .u8 0),(.int .u8 0),(.int .u8 0),(.int .u8 0),(.int .u8 0),(.int .u8 0),(.int .u8 0),(.int .u8 0),(.int .u8 0),(.int .u8 0),(.int .u8 0),(.int .u8 0),(.int .u8 0),(.int .u8 0),(.int .u8 0),(.int .u8 0),(.int .u8 0),(.int .u8 0),(.int .u8 0),(.int .u8 0),(.int .u8 0),(.int .u8 0),(.int .u8 0),(.int .u8 0),(.int .u8 0),(.int .u8 0),(.int .u8 0),(.int .u8 0),(.int .u8 0),(.int .u8 0),(.int .u8 0),(.int .u8 0),(.int .u8 0),(.int .u8 0),(.int .u8 0),(.int .u8 0)]
abbrev iSm (n:Nat):RO:=.s (.mv (.t (.of n)))
abbrev iQm (n m:Nat):RO:=.q (.of n) (.mv (.s m))
abbrev iQo (n:Nat) (o:PO):RO:=.q (.of n) o
abbrev iPf (n:Nat) (o:PO):RO:=.p .push (some (.s n,false)) o
abbrev iPt (n:Nat) (o:PO):RO:=.p .push (some (.s n,true)) o
abbrev iCa (n:Nat) (l:List Arg):RO:=.w .push none (.call (.c (.fn n (.of n) [])) l)
abbrev iWl (n:Nat) (o:WO):RO:=.w (.loc (.of n)) none o
abbrev iSr (l:List RO) (c:IR):IR:=.seq (.reg l) c
def fr1 (x0:AV):T AV:=(.n .e x0 .e)
def fr2 (x0 x1:AV):T AV:=(.n (.n .e x1 .e) x0 .e)
def fr3 (x0 x1 x2:AV):T AV:=(.n (.n .e x1 .e) x0 (.n .e x2 .e))
def fr4 (x0 x1 x2 x3:AV):T AV:=(.n (.n (.n .e x3 .e) x1 .e) x0 (.n .e x2 .e))
def fr5 (x0 x1 x2 x3 x4:AV):T AV:=(.n (.n (.n .e x3 .e) x1 .e) x0 (.n (.n .e x4 .e) x2 .e))
def fr6 (x0 x1 x2 x3 x4 x5:AV):T AV:=(.n (.n (.n .e x3 .e) x1 (.n .e x5 .e)) x0 (.n (.n .e x4 .e) x2 .e))
def fr7 (x0 x1 x2 x3 x4 x5 x6:AV):T AV:=(.n (.n (.n .e x3 .e) x1 (.n .e x5 .e)) x0 (.n (.n .e x4 .e) x2 (.n .e x6 .e)))
def fr8 (x0 x1 x2 x3 x4 x5 x6 x7:AV):T AV:=(.n (.n (.n (.n .e x7 .e) x3 .e) x1 (.n .e x5 .e)) x0 (.n (.n .e x4 .e) x2 (.n .e x6 .e)))
def fr9 (x0 x1 x2 x3 x4 x5 x6 x7 x8:AV):T AV:=(.n (.n (.n (.n .e x7 .e) x3 .e) x1 (.n .e x5 .e)) x0 (.n (.n (.n .e x8 .e) x4 .e) x2 (.n .e x6 .e)))
def fr10 (x0 x1 x2 x3 x4 x5 x6 x7 x8 x9:AV):T AV:=(.n (.n (.n (.n .e x7 .e) x3 .e) x1 (.n (.n .e x9 .e) x5 .e)) x0 (.n (.n (.n .e x8 .e) x4 .e) x2 (.n .e x6 .e)))
def fr11 (x0 x1 x2 x3 x4 x5 x6 x7 x8 x9 x10:AV):T AV:=(.n (.n (.n (.n .e x7 .e) x3 .e) x1 (.n (.n .e x9 .e) x5 .e)) x0 (.n (.n (.n .e x8 .e) x4 .e) x2 (.n (.n .e x10 .e) x6 .e)))
def fr12 (x0 x1 x2 x3 x4 x5 x6 x7 x8 x9 x10 x11:AV):T AV:=(.n (.n (.n (.n .e x7 .e) x3 (.n .e x11 .e)) x1 (.n (.n .e x9 .e) x5 .e)) x0 (.n (.n (.n .e x8 .e) x4 .e) x2 (.n (.n .e x10 .e) x6 .e)))
def fr13 (x0 x1 x2 x3 x4 x5 x6 x7 x8 x9 x10 x11 x12:AV):T AV:=(.n (.n (.n (.n .e x7 .e) x3 (.n .e x11 .e)) x1 (.n (.n .e x9 .e) x5 .e)) x0 (.n (.n (.n .e x8 .e) x4 (.n .e x12 .e)) x2 (.n (.n .e x10 .e) x6 .e)))
def fr14 (x0 x1 x2 x3 x4 x5 x6 x7 x8 x9 x10 x11 x12 x13:AV):T AV:=(.n (.n (.n (.n .e x7 .e) x3 (.n .e x11 .e)) x1 (.n (.n .e x9 .e) x5 (.n .e x13 .e))) x0 (.n (.n (.n .e x8 .e) x4 (.n .e x12 .e)) x2 (.n (.n .e x10 .e) x6 .e)))
def fr15 (x0 x1 x2 x3 x4 x5 x6 x7 x8 x9 x10 x11 x12 x13 x14:AV):T AV:=(.n (.n (.n (.n .e x7 .e) x3 (.n .e x11 .e)) x1 (.n (.n .e x9 .e) x5 (.n .e x13 .e))) x0 (.n (.n (.n .e x8 .e) x4 (.n .e x12 .e)) x2 (.n (.n .e x10 .e) x6 (.n .e x14 .e))))
def fr18 (x0 x1 x2 x3 x4 x5 x6 x7 x8 x9 x10 x11 x12 x13 x14 x15 x16 x17:AV):T AV:=(.n (.n (.n (.n (.n .e x15 .e) x7 .e) x3 (.n .e x11 .e)) x1 (.n (.n (.n .e x17 .e) x9 .e) x5 (.n .e x13 .e))) x0 (.n (.n (.n (.n .e x16 .e) x8 .e) x4 (.n .e x12 .e)) x2 (.n (.n .e x10 .e) x6 (.n .e x14 .e))))
def fr19 (x0 x1 x2 x3 x4 x5 x6 x7 x8 x9 x10 x11 x12 x13 x14 x15 x16 x17 x18:AV):T AV:=(.n (.n (.n (.n (.n .e x15 .e) x7 .e) x3 (.n .e x11 .e)) x1 (.n (.n (.n .e x17 .e) x9 .e) x5 (.n .e x13 .e))) x0 (.n (.n (.n (.n .e x16 .e) x8 .e) x4 (.n .e x12 .e)) x2 (.n (.n (.n .e x18 .e) x10 .e) x6 (.n .e x14 .e))))
def fr20 (x0 x1 x2 x3 x4 x5 x6 x7 x8 x9 x10 x11 x12 x13 x14 x15 x16 x17 x18 x19:AV):T AV:=(.n (.n (.n (.n (.n .e x15 .e) x7 .e) x3 (.n (.n .e x19 .e) x11 .e)) x1 (.n (.n (.n .e x17 .e) x9 .e) x5 (.n .e x13 .e))) x0 (.n (.n (.n (.n .e x16 .e) x8 .e) x4 (.n .e x12 .e)) x2 (.n (.n (.n .e x18 .e) x10 .e) x6 (.n .e x14 .e))))
def fr23 (x0 x1 x2 x3 x4 x5 x6 x7 x8 x9 x10 x11 x12 x13 x14 x15 x16 x17 x18 x19 x20 x21 x22:AV):T AV:=(.n (.n (.n (.n (.n .e x15 .e) x7 .e) x3 (.n (.n .e x19 .e) x11 .e)) x1 (.n (.n (.n .e x17 .e) x9 .e) x5 (.n (.n .e x21 .e) x13 .e))) x0 (.n (.n (.n (.n .e x16 .e) x8 .e) x4 (.n (.n .e x20 .e) x12 .e)) x2 (.n (.n (.n .e x18 .e) x10 .e) x6 (.n (.n .e x22 .e) x14 .e))))
def fr28 (x0 x1 x2 x3 x4 x5 x6 x7 x8 x9 x10 x11 x12 x13 x14 x15 x16 x17 x18 x19 x20 x21 x22 x23 x24 x25 x26 x27:AV):T AV:=(.n (.n (.n (.n (.n .e x15 .e) x7 (.n .e x23 .e)) x3 (.n (.n .e x19 .e) x11 (.n .e x27 .e))) x1 (.n (.n (.n .e x17 .e) x9 (.n .e x25 .e)) x5 (.n (.n .e x21 .e) x13 .e))) x0 (.n (.n (.n (.n .e x16 .e) x8 (.n .e x24 .e)) x4 (.n (.n .e x20 .e) x12 .e)) x2 (.n (.n (.n .e x18 .e) x10 (.n .e x26 .e)) x6 (.n (.n .e x22 .e) x14 .e))))
def fr29 (x0 x1 x2 x3 x4 x5 x6 x7 x8 x9 x10 x11 x12 x13 x14 x15 x16 x17 x18 x19 x20 x21 x22 x23 x24 x25 x26 x27 x28:AV):T AV:=(.n (.n (.n (.n (.n .e x15 .e) x7 (.n .e x23 .e)) x3 (.n (.n .e x19 .e) x11 (.n .e x27 .e))) x1 (.n (.n (.n .e x17 .e) x9 (.n .e x25 .e)) x5 (.n (.n .e x21 .e) x13 .e))) x0 (.n (.n (.n (.n .e x16 .e) x8 (.n .e x24 .e)) x4 (.n (.n .e x20 .e) x12 (.n .e x28 .e))) x2 (.n (.n (.n .e x18 .e) x10 (.n .e x26 .e)) x6 (.n (.n .e x22 .e) x14 .e))))
def fr32 (x0 x1 x2 x3 x4 x5 x6 x7 x8 x9 x10 x11 x12 x13 x14 x15 x16 x17 x18 x19 x20 x21 x22 x23 x24 x25 x26 x27 x28 x29 x30 x31:AV):T AV:=(.n (.n (.n (.n (.n (.n .e x31 .e) x15 .e) x7 (.n .e x23 .e)) x3 (.n (.n .e x19 .e) x11 (.n .e x27 .e))) x1 (.n (.n (.n .e x17 .e) x9 (.n .e x25 .e)) x5 (.n (.n .e x21 .e) x13 (.n .e x29 .e)))) x0 (.n (.n (.n (.n .e x16 .e) x8 (.n .e x24 .e)) x4 (.n (.n .e x20 .e) x12 (.n .e x28 .e))) x2 (.n (.n (.n .e x18 .e) x10 (.n .e x26 .e)) x6 (.n (.n .e x22 .e) x14 (.n .e x30 .e)))))
def fr36 (x0 x1 x2 x3 x4 x5 x6 x7 x8 x9 x10 x11 x12 x13 x14 x15 x16 x17 x18 x19 x20 x21 x22 x23 x24 x25 x26 x27 x28 x29 x30 x31 x32 x33 x34 x35:AV):T AV:=(.n (.n (.n (.n (.n (.n .e x31 .e) x15 .e) x7 (.n .e x23 .e)) x3 (.n (.n (.n .e x35 .e) x19 .e) x11 (.n .e x27 .e))) x1 (.n (.n (.n (.n .e x33 .e) x17 .e) x9 (.n .e x25 .e)) x5 (.n (.n .e x21 .e) x13 (.n .e x29 .e)))) x0 (.n (.n (.n (.n (.n .e x32 .e) x16 .e) x8 (.n .e x24 .e)) x4 (.n (.n .e x20 .e) x12 (.n .e x28 .e))) x2 (.n (.n (.n (.n .e x34 .e) x18 .e) x10 (.n .e x26 .e)) x6 (.n (.n .e x22 .e) x14 (.n .e x30 .e)))))
abbrev in1:T AV:=fr1 .u
abbrev in2:T AV:=fr2 .u .u
abbrev in3:T AV:=fr3 .u .u .u
abbrev in4:T AV:=fr4 .u .u .u .u
abbrev in5:T AV:=fr5 .u .u .u .u .u
abbrev in6:T AV:=fr6 .u .u .u .u .u .u
abbrev in7:T AV:=fr7 .u .u .u .u .u .u .u
abbrev in8:T AV:=fr8 .u .u .u .u .u .u .u .u
abbrev in9:T AV:=fr9 .u .u .u .u .u .u .u .u .u
abbrev in10:T AV:=fr10 .u .u .u .u .u .u .u .u .u .u
abbrev in11:T AV:=fr11 .u .u .u .u .u .u .u .u .u .u .u
abbrev in12:T AV:=fr12 .u .u .u .u .u .u .u .u .u .u .u .u
abbrev in13:T AV:=fr13 .u .u .u .u .u .u .u .u .u .u .u .u .u
abbrev in14:T AV:=fr14 .u .u .u .u .u .u .u .u .u .u .u .u .u .u
abbrev in15:T AV:=fr15 .u .u .u .u .u .u .u .u .u .u .u .u .u .u .u
abbrev in18:T AV:=fr18 .u .u .u .u .u .u .u .u .u .u .u .u .u .u .u .u .u .u
abbrev in19:T AV:=fr19 .u .u .u .u .u .u .u .u .u .u .u .u .u .u .u .u .u .u .u
abbrev in20:T AV:=fr20 .u .u .u .u .u .u .u .u .u .u .u .u .u .u .u .u .u .u .u .u
abbrev in23:T AV:=fr23 .u .u .u .u .u .u .u .u .u .u .u .u .u .u .u .u .u .u .u .u .u .u .u
abbrev in28:T AV:=fr28 .u .u .u .u .u .u .u .u .u .u .u .u .u .u .u .u .u .u .u .u .u .u .u .u .u .u .u .u
abbrev in29:T AV:=fr29 .u .u .u .u .u .u .u .u .u .u .u .u .u .u .u .u .u .u .u .u .u .u .u .u .u .u .u .u .u
abbrev in32:T AV:=fr32 .u .u .u .u .u .u .u .u .u .u .u .u .u .u .u .u .u .u .u .u .u .u .u .u .u .u .u .u .u .u .u .u
abbrev in36:T AV:=fr36 .u .u .u .u .u .u .u .u .u .u .u .u .u .u .u .u .u .u .u .u .u .u .u .u .u .u .u .u .u .u .u .u .u .u .u .u
abbrev aT0:Arg:=.t (.of 0)
abbrev aT1:Arg:=.t (.of 1)
abbrev aT2:Arg:=.t (.of 2)
abbrev aT3:Arg:=.t (.of 3)
abbrev aT4:Arg:=.t (.of 4)
abbrev aT5:Arg:=.t (.of 5)
abbrev aT6:Arg:=.t (.of 6)
abbrev aT7:Arg:=.t (.of 7)
abbrev aT8:Arg:=.t (.of 8)
abbrev aT9:Arg:=.t (.of 9)
abbrev sW:Arg:=.t (.of 10)
abbrev ay:Arg:=.t (.of 11)
abbrev sF:Arg:=.t (.of 12)
abbrev aT13:Arg:=.t (.of 13)
abbrev aT14:Arg:=.t (.of 14)
abbrev aT15:Arg:=.t (.of 15)
abbrev aT16:Arg:=.t (.of 16)
abbrev aT17:Arg:=.t (.of 17)
abbrev aT18:Arg:=.t (.of 18)
abbrev aT19:Arg:=.t (.of 19)
abbrev aT20:Arg:=.t (.of 20)
abbrev aT21:Arg:=.t (.of 21)
abbrev aT22:Arg:=.t (.of 22)
abbrev aT23:Arg:=.t (.of 23)
abbrev aT24:Arg:=.t (.of 24)
abbrev aT25:Arg:=.t (.of 25)
abbrev aT26:Arg:=.t (.of 26)
abbrev aT27:Arg:=.t (.of 27)
abbrev aT28:Arg:=.t (.of 28)
abbrev aT29:Arg:=.t (.of 29)
abbrev aT30:Arg:=.t (.of 30)
abbrev aT31:Arg:=.t (.of 31)
abbrev aT32:Arg:=.t (.of 32)
abbrev aT33:Arg:=.t (.of 33)
abbrev aT34:Arg:=.t (.of 34)
abbrev aT35:Arg:=.t (.of 35)
abbrev aS0:Arg:=.s 0
abbrev aS1:Arg:=.s 1
abbrev aS2:Arg:=.s 2
abbrev aS3:Arg:=.s 3
abbrev aS4:Arg:=.s 4
abbrev aS5:Arg:=.s 5
abbrev aS6:Arg:=.s 6
abbrev aS7:Arg:=.s 7
abbrev aS8:Arg:=.s 8
abbrev aS9:Arg:=.s 9
abbrev oD:Arg:=.s 10
abbrev aS11:Arg:=.s 11
abbrev aS12:Arg:=.s 12
abbrev aS13:Arg:=.s 13
abbrev aS14:Arg:=.s 14
abbrev aS15:Arg:=.s 15
abbrev aS16:Arg:=.s 16
abbrev aS21:Arg:=.s 21
abbrev aS24:Arg:=.s 24
abbrev aC0:Arg:=.c (I 0)
abbrev aC1:Arg:=.c (I 1)
abbrev aC2:Arg:=.c (I 2)
abbrev aC3:Arg:=.c (I 3)
abbrev aC4:Arg:=.c (I 4)
abbrev aC5:Arg:=.c (I 5)
abbrev aC6:Arg:=.c (I 6)
abbrev aC7:Arg:=.c (I 7)
abbrev aC8:Arg:=.c (I 8)
abbrev aC9:Arg:=.c (I 9)
abbrev aC10:Arg:=.c (I 10)
abbrev aC11:Arg:=.c (I 11)
abbrev aC12:Arg:=.c (I 12)
abbrev aC13:Arg:=.c (I 13)
abbrev aC14:Arg:=.c (I 14)
abbrev aC15:Arg:=.c (I 15)
abbrev aC16:Arg:=.c (I 16)
abbrev aC18:Arg:=.c (I 18)
abbrev aC21:Arg:=.c (I 21)
abbrev aC26:Arg:=.c (I 26)
abbrev aC32:Arg:=.c (I 32)
abbrev aC40:Arg:=.c (I 40)
abbrev aC64:Arg:=.c (I 64)
abbrev zyn:Arg:=.c (I 100)
abbrev ztb:Arg:=.c (I 128)
abbrev zyo:Arg:=.c (I 130)
abbrev zny:Arg:=.c (I 256)
abbrev zyp:Arg:=.c (I 600)
abbrev zvo:Arg:=.c (I 1800)
abbrev zq5:Arg:=.c (I 78913)
abbrev mP:Arg:=.c (I 999999999)
abbrev F3.fr:=fr6
def F3.b0:IR:=(iSr [iWl 2 (.box aT0),iWl 3 (.box aT1),iQo 4 (.mv (.c (.bool false)))] (.seq (iSr [.s (.zi 2 aT2),iCa 16 [aS0,aC40,zyo],.s (.not aS0),.s (.mv aS0),iPf 0 (.zk 1 aT3),iPf 1 (.load aS0),iPf 2 (.len aS0),iPf 3 (.bin .gtr .int aS0 aC40),iQo 5 (.pick aS4 (.c (.bool true)) aS0)] (.cond aT5 (iSr [iCa 17 [],iQm 4 0] .ret) .skip)) (.seq (.jh [] [(.s (.zi 2 aT2),0,[]),(.s (.zi 2 aT2),1,[]),(iCa 18 [aS1],0,[]),(iCa 19 [aS1],0,[]),(.s (.bin .eql .int aS1 aS0),0,[]),(.s (.mv aS0),0,[]),(iPt 0 (.zi 2 aT3),0,[]),(iPt 1 (.zi 2 aT3),1,[]),(.w .push (some (aS2,true)) (.call (.c (.fn 20 (.of 20) [])) [aS1]),0,[]),(.w .push (some (aS3,true)) (.call (.c (.fn 21 (.of 21) [])) [aS1]),0,[]),(iPt 4 (.bin .eql .int aS1 aS0),0,[]),(.s (.pick aS5 aS0 (.c (.bool false))),0,[]),(.s (.mv aS0),0,[]),(.w .push (some (aS0,true)) (.call (.c (.fn 17 (.of 17) [])) []),0,[]),(.s (.pick aS1 aS0 (.c (.bool false))),0,[]),(iQm 4 0,0,[])]) .ret)))
def F3.res:List RV:=[.t (.of 4)]
def F3:Fn:={ params:=[(.of 0),(.of 1)],res:=F3.res,body:=F3.b0,init:=in6 }
theorem F3.ok:fnA Tryz.prog Tryz.f3 [0,1,2,3,4,13]=some F3:=by kernel_rfl
abbrev F13.fr:=fr12
def F13.t0:IR:=.reg [iWl 1 (.box (.t (.of 0))),iQo 2 (.mv (.c (.bool false)))]
def F13.tV (r:List RO):List RO:=.p .push (some ((.s 3),false)) (.mv (.s 0))::.p .push (some ((.s 0),true)) (.zk 0 (.t (.of 1)))::.p .push (some ((.s 1),true)) (.load (.s 0))::.p .push (some ((.s 2),true)) (.bin .leq .int (.s 0) (.c (I 16)))::.p .push (some ((.s 7),false)) (.pick (.s 3) (.s 0) (.c (.bool false)))::iQo 8 (.pick (.s 8) (.c (.bool true)) (.s 0))::r
def F13.rU:List RO:=F13.tV []
def F13.tN (r:List RO):List RO:=.s (.zk 2 (.t (.of 1)))::.s (.load (.s 0))::.s (.len (.s 0))::.s (.bin .gtr .int (.s 0) (.c (I 300)))::.s (.mv (.s 0))::.p .push (some ((.s 0),false)) (.zk 0 (.t (.of 1)))::.p .push (some ((.s 1),false)) (.load (.s 0))::.p .push (some ((.s 2),false)) (.bin .gtr .int (.s 0) (.c (I 8)))::r
def F13.aA:List RO:=F13.tN F13.rU
def F13.t1:IR:=.reg F13.aA
def F13.t2:IR:=.reg [iCa 17 [],iQo 2 (.mv (.s 0))]
def F13.t6:IR:=.reg [.s (.zi 3 (.t (.of 1))),iCa 51 [(.s 0)],.s (.mv (.s 0)),.s (.ext 0 (.s 0)),.s (.ext 1 (.s 1)),iQo 3 (.mv (.s 1)),iQo 4 (.mv (.s 0))]
def F13.t7:IR:=.reg [.s (.zi 3 (.t (.of 1))),iCa 61 [(.s 0)],.s (.mv (.s 0)),.s (.ext 0 (.s 0)),.s (.ext 1 (.s 1)),iQo 5 (.mv (.s 1)),iQo 6 (.mv (.s 0))]
def F13.t8:IR:=.reg [.s (.zi 3 (.t (.of 1))),iCa 50 [(.s 0)],iQo 7 (.mv (.s 0))]
def F13.t9:IR:=.reg [.s (.mv (.t (.of 7))),iQo 9 (.bin .neq .int (.s 0) (.c (I 0)))]
def F13.zso (r:List RO):List RO:=.s (.pick (.s 1) (.s 0) (.c (.bool false)))::iQo 2 (.mv (.s 0))::r
def F13.r7_3:List RO:=F13.zso []
def F13.zau (r:List RO):List RO:=.s (.pick (.s 3) (.s 0) (.c (.bool false)))::.s (.mv (.s 0))::.w .push (some ((.s 0),true)) (.call (.c (.fn 17 (.of 17) [])) [])::r
def F13.r7_2:List RO:=F13.zau F13.r7_3
def F13.zat (r:List RO):List RO:=.s (.mv (.s 0))::.p .push (some ((.s 0),true)) (.mv (.t (.of 5)))::.p .push (some ((.s 1),true)) (.bin .eql .int (.s 0) (.c (I 0)))::.s (.pick (.s 2) (.s 0) (.c (.bool false)))::.s (.mv (.s 0))::.p .push (some ((.s 0),true)) (.mv (.t (.of 6)))::.p .push (some ((.s 1),true)) (.mv (.t (.of 7)))::.p .push (some ((.s 2),true)) (.bin .eql .int (.s 1) (.s 0))::r
def F13.r7_1:List RO:=F13.zat F13.r7_2
def F13.zas (r:List RO):List RO:=.s (.mv (.t (.of 3)))::.s (.len (.s 0))::.s (.bin .eql .int (.s 0) (.c (I 0)))::.s (.mv (.s 0))::.p .push (some ((.s 0),true)) (.mv (.t (.of 4)))::.p .push (some ((.s 1),true)) (.mv (.t (.of 7)))::.p .push (some ((.s 2),true)) (.bin .eql .int (.s 1) (.s 0))::.s (.pick (.s 3) (.s 0) (.c (.bool false)))::r
def F13.r7_0:List RO:=F13.zas F13.r7_1
def F13.t10:IR:=.reg F13.r7_0
def F13.ze2 (r:List RO):List RO:=.p .push (some ((.s 4),false)) (.not (.s 0))::iQo 10 (.pick (.s 5) (.c (.bool true)) (.s 0))::r
def F13.r8_2:List RO:=F13.ze2 []
def F13.aY (r:List RO):List RO:=.w .push (some ((.s 3),false)) (.call (.c (.fn 53 (.of 53) [])) [(.s 2),(.s 0)])::r
def F13.r8_1:List RO:=F13.aY F13.r8_2
def F13.aX (r:List RO):List RO:=.s (.mv (.t (.of 4)))::.s (.bin .neq .int (.s 0) (.c (I 0)))::.s (.mv (.s 0))::.p .push (some ((.s 0),false)) (.mv (.t (.of 3)))::.p .push (some ((.s 1),false)) (.zi 3 (.t (.of 1)))::.w .push (some ((.s 2),false)) (.call (.c (.fn 62 (.of 62) [])) [(.s 0)])::r
def F13.ou:List RO:=F13.aX F13.r8_1
def F13.t14:IR:=.reg F13.ou
def F13.t19:IR:=.reg [.s (.zi 3 (.t (.of 1))),.w .push none (.call (.c (.fn 63 (.of 63) [])) [(.c (.str [109,97,103,105,99])),(.s 0)]),iQo 11 (.not (.s 0))]
def F13.t20:IR:=.reg [.s (.mv (.t (.of 5))),.s (.bin .eql .int (.s 0) (.c (I 0))),.s (.mv (.s 0)),.p .push (some ((.s 0),true)) (.mv (.t (.of 6))),.p .push (some ((.s 1),true)) (.bin .eql .int (.s 0) (.c (I 16))),.s (.pick (.s 2) (.s 0) (.c (.bool false))),.s (.mv (.s 0)),.w .push (some ((.s 0),true)) (.call (.c (.fn 17 (.of 17) [])) []),.s (.pick (.s 1) (.s 0) (.c (.bool false))),iQo 2 (.mv (.s 0))]
def F13.zlv (r:List RO):List RO:=.s (.pick (.s 1) (.s 0) (.c (.bool false)))::iQo 2 (.mv (.s 0))::r
def F13.ztc:List RO:=F13.zlv []
def F13.zlu (r:List RO):List RO:=.p .push (some ((.s 3),true)) (.bin .eql .int (.s 2) (.s 0))::.s (.pick (.s 4) (.s 0) (.c (.bool false)))::.s (.mv (.s 0))::.w .push (some ((.s 0),true)) (.call (.c (.fn 17 (.of 17) [])) [])::r
def F13.ztd:List RO:=F13.zlu F13.ztc
def F13.zlt (r:List RO):List RO:=.s (.mv (.t (.of 6)))::.s (.bin .eql .int (.s 0) (.c (I 0)))::.s (.mv (.s 0))::.p .push (some ((.s 0),true)) (.mv (.t (.of 5)))::.p .push (some ((.s 1),true)) (.zi 3 (.t (.of 1)))::.w .push (some ((.s 2),true)) (.call (.c (.fn 64 (.of 64) [])) [(.s 0)])::r
def F13.zls:List RO:=F13.zlt F13.ztd
def F13.t24:IR:=.reg F13.zls
def F13.t33:IR:=.seq F13.t0 (.seq (.seq F13.t1 (.cond (.t (.of 8)) (.seq F13.t2 .ret) .skip)) (.seq F13.t6 (.seq F13.t7 (.seq F13.t8 (.seq (.seq F13.t9 (.cond (.t (.of 9)) (.seq F13.t10 .ret) .skip)) (.seq (.seq F13.t14 (.cond (.t (.of 10)) (iSr [iQo 2 (.mv (.c (.bool false)))] .ret) .skip)) (.seq (.seq F13.t19 (.cond (.t (.of 11)) (.seq F13.t20 .ret) .skip)) (.seq F13.t24 .ret))))))))
def F13.b0:IR:=F13.t33
def F13.res:List RV:=[.t (.of 2)]
def F13:Fn:={ params:=[(.of 0)],res:=F13.res,body:=F13.b0,init:=in12 }
theorem F13.ok:fnA Tryz.prog Tryz.f13 [0,1,2,3,4,5,6,7,21,36,65,68]=some F13:=by kernel_rfl
abbrev F16.fr:=fr9
def F16.b0:IR:=(iSr [iWl 3 (.box aT0),iQo 4 (.mv (.c (.bool false)))] (.seq (iSr [.s (.zk 1 aT3),.s (.load aS0),.s (.len aS0),iSm 2,iQo 6 (.bin .gtr .int aS1 aS0)] (.cond aT6 (iSr [iQo 4 (.mv (.c (.bool false)))] .ret) .skip)) (.seq (iSr [iQo 5 (.mv aC0)] (.block 0 (.loop (.seq (iSr [iSm 5,.s (.zk 1 aT3),.s (.load aS0),.s (.len aS0),iQo 7 (.bin .lss .int aS3 aS0)] (.cond aT7 .skip (.exit 0))) (.seq (.block 1 (iSr [.s (.zk 1 aT3),.s (.load aS0),iSm 5,.s (.zn 1 aS1 aS0),.s (.load aS0),.s (.len aS0),iSm 1,iQo 8 (.bin .gtr .int aS1 aS0)] (.cond aT8 (iSr [iQo 4 (.mv (.c (.bool false)))] .ret) .skip))) (.reg [iSm 5,.s (.bin .add .int aS0 aC1),iQm 5 0])))))) (iSr [iQo 4 (.mv (.c (.bool true)))] .ret))))
def F16.res:List RV:=[.t (.of 4)]
def F16:Fn:={ params:=[(.of 0),(.of 1),(.of 2)],res:=F16.res,body:=F16.b0,init:=in9 }
theorem F16.ok:fnA Tryz.prog Tryz.f16 [0,1,2,3,6,7,12,17,27]=some F16:=by kernel_rfl
abbrev F17.fr:=fr29
def F17.b0:IR:=(iSr [iQo 0 (.mv (.c (.bool false)))] (iSr [.w .push none (.call (.c (.fn 65 (.of 65) [])) [(.c (.str [109,97,103,105,99])),aC3]),.s (.mv aS0),.s (.ext 0 aS0),.s (.ext 1 aS1),iWl 1 (.alloc [(I 0),.zf]),.w .none none (.store 2 aT1 aS1),iQm 2 0] (.seq (.jh [] [(.s (.zi 2 aT1),1,[]),(iCa 85 [],0,[]),(iCa 48 [aS1,aS0],0,[]),(.s (.mv aS0),0,[]),(.s (.ext 0 aS0),0,[]),(.s (.ext 1 aS1),0,[]),(iQm 3 1,0,[]),(iQm 4 0,0,[])]) (.seq (.jh [] [(.s (.zi 2 aT1),1,[]),(iCa 85 [],0,[]),(iCa 43 [aS1,aS0],0,[]),(.s (.mv aS0),0,[]),(.s (.ext 0 aS0),0,[]),(.s (.ext 1 aS1),0,[]),(iQm 5 1,0,[]),(iQm 6 0,0,[])]) (iSr [.s (.zi 2 aT1),iCa 23 [aS0],.s (.mv aS0),.s (.ext 0 aS0),.s (.ext 1 aS1),iQm 7 1,iQm 8 0] (.seq (.jh [] [(.s (.zi 2 aT1),1,[]),(iCa 85 [],0,[]),(iCa 24 [aS1,aS0],0,[]),(.s (.mv aS0),0,[]),(.s (.ext 0 aS0),0,[]),(.s (.ext 1 aS1),0,[]),(iQm 9 1,0,[]),(iQm 10 0,0,[])]) (iSr [.s (.zi 2 aT1),iCa 33 [aS0],.s (.mv aS0),.s (.ext 0 aS0),.s (.ext 1 aS1),iQm 11 1,iQm 12 0] (iSr [.w .push none (.call (.c (.fn 65 (.of 65) [])) [(.c (.str [115,101,109,105,109,97,103,105,99])),aC3]),.s (.mv aS0),.s (.ext 0 aS0),.s (.ext 1 aS1),iWl 13 (.alloc [(I 0),.zf]),.w .none none (.store 2 aT13 aS1),iQm 14 0] (iSr [.s (.zi 2 aT13),iCa 31 [aS0],.s (.mv aS0),.s (.ext 0 aS0),.s (.ext 1 aS1),iQm 15 1,iQm 16 0] (iSr [iCa 85 [],.s (.build [(I 0),(I 0),.zf] [(0,1,aC3),(1,1,aC3),(2,1,aS0)]),iCa 51 [aS0],.s (.mv aS0),.s (.ext 0 aS0),.s (.ext 1 aS1),iQm 17 1,iQm 18 0] (iSr [iCa 85 [],iCa 47 [aS0],.s (.mv aS0),.s (.ext 0 aS0),.s (.ext 1 aS1),iQm 19 1,iQm 20 0] (.seq (iSr [iSm 2,iSm 4,.s (.bin .add .int aS1 aS0),iSm 6,.s (.bin .add .int aS1 aS0),iSm 8,.s (.bin .add .int aS1 aS0),iSm 10,.s (.bin .add .int aS1 aS0),iSm 12,.s (.bin .add .int aS1 aS0),iSm 14,.s (.bin .add .int aS1 aS0),iSm 16,.s (.bin .add .int aS1 aS0),iSm 18,.s (.bin .add .int aS1 aS0),iSm 20,.s (.bin .add .int aS1 aS0),.s (.bin .neq .int aS0 aC0),.s (.mv aS0),iPf 0 (.zk 1 aT1),iPf 1 (.load aS0),iPf 2 (.len aS0),iPf 3 (.bin .neq .int aS0 aC8),.s (.pick aS4 (.c (.bool true)) aS0),.s (.mv aS0),iPf 0 (.zk 1 aT1),iPf 1 (.load aS0),iPf 2 (.zn 1 aS0 aC7),iPf 3 (.load aS0),.w .push (some (aS4,false)) (.yg 1 3 [(I 0)] [(0,1,aC2),(1,1,aC4),(2,1,aC6)]),.w .push (some (aS5,false)) (.call (.c (.fn 49 (.of 49) [])) [aS1,aS0]),iPf 6 (.not aS0),.s (.pick aS7 (.c (.bool true)) aS0),.s (.mv aS0),iPf 0 (.mv aT3),.w .push (some (aS1,false)) (.yg 1 8 [(I 0)] [(0,1,aC15),(1,1,aC15),(2,1,aC15),(3,1,aC15),(4,1,aC15),(5,1,aC15),(6,1,aC15),(7,1,aC15)]),.w .push (some (aS2,false)) (.call (.c (.fn 49 (.of 49) [])) [aS1,aS0]),iPf 3 (.not aS0),.s (.pick aS4 (.c (.bool true)) aS0),.s (.mv aS0),iPf 0 (.mv aT5),iPf 1 (.not aS0),.s (.pick aS2 (.c (.bool true)) aS0),.s (.mv aS0),iPf 0 (.mv ay),iPf 1 (.bin .neq .int aS0 aC15),iQo 27 (.pick aS2 (.c (.bool true)) aS0)] (.cond aT27 (iSr [iQo 0 (.mv (.c (.bool false)))] .ret) .skip)) (.seq (iSr [iSm 7,.s (.len aS0),.s (.bin .neq .int aS0 aC3),.s (.mv aS0),iPf 0 (.mv aT7),iPf 1 (.zn 1 aS0 aC0),iPf 2 (.load aS0),.w .push (some (aS3,false)) (.yg 1 9 [(.str [])] [(0,1,(.c (.str [49]))),(1,1,(.c (.str [48]))),(2,1,(.c (.str [48]))),(3,1,(.c (.str [45,50,47,51]))),(4,1,(.c (.str [49,47,51]))),(5,1,(.c (.str [52,47,51]))),(6,1,(.c (.str [50,47,51]))),(7,1,(.c (.str [50,47,51]))),(8,1,(.c (.str [45,49,47,51])))]),.w .push (some (aS4,false)) (.call (.c (.fn 29 (.of 29) [])) [aS1,aS0]),iPf 5 (.not aS0),.s (.pick aS6 (.c (.bool true)) aS0),.s (.mv aS0),iPf 0 (.mv aT9),.w .push (some (aS1,false)) (.yg 1 3 [(.str [])] [(0,1,(.c (.str [50]))),(1,1,(.c (.str [55]))),(2,1,(.c (.str [54])))]),.w .push (some (aS2,false)) (.call (.c (.fn 29 (.of 29) [])) [aS1,aS0]),iPf 3 (.not aS0),.s (.pick aS4 (.c (.bool true)) aS0),.s (.mv aS0),iPf 0 (.mv aT15),iPf 1 (.len aS0),iPf 2 (.bin .neq .int aS0 aC1),.s (.pick aS3 (.c (.bool true)) aS0),.s (.mv aS0),iPf 0 (.mv aT15),iPf 1 (.zn 2 aS0 aC0),iPf 2 (.zk 0 aS0),iPf 3 (.load aS0),iPf 4 (.bin .neq .int aS0 aC5),.s (.pick aS5 (.c (.bool true)) aS0),.s (.mv aS0),iPf 0 (.mv aT15),iPf 1 (.zn 2 aS0 aC0),iPf 2 (.zk 1 aS0),iPf 3 (.load aS0),.w .push (some (aS4,false)) (.yg 1 5 [(.str [])] [(0,1,(.c (.str [49]))),(1,1,(.c (.str [49]))),(2,1,(.c (.str [49]))),(3,1,(.c (.str [45,49]))),(4,1,(.c (.str [45,49])))]),.w .push (some (aS5,false)) (.call (.c (.fn 29 (.of 29) [])) [aS1,aS0]),iPf 6 (.not aS0),iQo 28 (.pick aS7 (.c (.bool true)) aS0)] (.cond aT28 (iSr [iQo 0 (.mv (.c (.bool false)))] .ret) .skip)) (iSr [iCa 69 [aC6],.s (.mv aS0),.s (.ext 0 aS0),.s (.ext 1 aS1),iWl 21 (.alloc [(I 0),.zf]),.w .none none (.store 2 aT21 aS1),iQm 22 0] (iSr [.s (.zi 2 aT21),iCa 33 [aS0],.s (.mv aS0),.s (.ext 0 aS0),.s (.ext 1 aS1),iQm 23 1,iQm 24 0] (iSr [.s (.build [(I 0),(I 0)] [(0,1,aC0),(1,1,aC1)]),.s (.build [(I 0),(I 0)] [(0,1,aC1),(1,1,aC2)]),.w .push none (.yg 2 2 [(I 0),(I 0)] [(0,2,aS1),(2,2,aS0)]),.s (.build [(I 0),.zf] [(0,1,aC3),(1,1,aS0)]),.w .push none (.yg 1 2 [(I 0)] [(0,1,aC1),(1,1,aC2)]),iCa 78 [aS1,aS0],.s (.mv aS0),.s (.ext 0 aS0),.s (.ext 1 aS1),iQm 25 1,iQm 26 0] (iSr [iSm 22,iSm 24,.s (.bin .add .int aS1 aS0),iSm 26,.s (.bin .add .int aS1 aS0),.s (.bin .eql .int aS0 aC0),.s (.mv aS0),iPt 0 (.mv aT23),iPt 1 (.bin .eql .int aS0 aC26),.s (.pick aS2 aS0 (.c (.bool false))),.s (.mv aS0),iPt 0 (.mv aT25),.w .push (some (aS1,true)) (.yg 1 3 [(I 0)] [(0,1,aC1),(1,1,aC3),(2,1,aC2)]),.w .push (some (aS2,true)) (.call (.c (.fn 49 (.of 49) [])) [aS1,aS0]),.s (.pick aS3 aS0 (.c (.bool false))),.s (.mv aS0),iPt 0 (.mv aT17),.w .push (some (aS1,true)) (.yg 1 4 [(.str [])] [(0,1,(.c (.str [110,111,114,109,97,108]))),(1,1,(.c (.str [115,101,109,105,109,97,103,105,99]))),(2,1,(.c (.str [109,97,103,105,99]))),(3,1,(.c (.str [97,115,115,111,99,105,97,116,105,118,101])))]),.w .push (some (aS2,true)) (.call (.c (.fn 53 (.of 53) [])) [aS1,aS0]),.s (.pick aS3 aS0 (.c (.bool false))),.s (.mv aS0),iPt 0 (.mv aT19),.w .push (some (aS1,true)) (.yg 1 9 [(I 0)] [(0,1,aC8),(1,1,aC3),(2,1,aC4),(3,1,aC1),(4,1,aC5),(5,1,aC9),(6,1,aC6),(7,1,aC7),(8,1,aC2)]),.w .push (some (aS2,true)) (.call (.c (.fn 49 (.of 49) [])) [aS1,aS0]),.s (.pick aS3 aS0 (.c (.bool false))),iQm 0 0] .ret)))))))))))))))))
def F17.res:List RV:=[.t (.of 0)]
def F17:Fn:={ params:=[],res:=F17.res,body:=F17.b0,init:=in29 }
theorem F17.ok:fnA Tryz.prog Tryz.f17 [0,1,2,3,4,5,6,7,8,9,10,11,12,13,14,15,16,17,18,19,20,21,22,23,24,25,26,127,165]=some F17:=by kernel_rfl
abbrev F18.fr:=fr11
def F18.b0:IR:=(iSr [iWl 1 (.box aT0),iQo 2 (.mv aC0)] (.seq (.seq (.jh [] [(.s (.zk 0 aT1),0,[]),(.s (.load aS0),0,[]),(.s (.zk 1 aT1),2,[]),(.s (.load aS0),2,[]),(.s (.len aS0),2,[]),(.s (.bin .gtr .int aS0 ztb),2,[]),(.w .push none (.yg 1 1 [(I 0)] [(0,1,aS4)]),0,[]),(iCa 87 [aC1,zny,aS0],0,[]),(iCa 88 [aS2,aC5],0,[]),(.w .push none (.yg 1 2 [(I 0)] [(0,1,aS1),(1,1,aS0)]),0,[]),(iCa 86 [aS0],0,[]),(iQm 3 0,0,[])]) (iSr [iSm 3,iQo 6 (.bin .neq .int aS0 aC0)] (.cond aT6 (iSr [iSm 3,iQm 2 0] .ret) .skip))) (.seq (iSr [.s (.zk 1 aT1),.s (.load aS0),iQo 7 (.len aS0),iQo 8 (.mv aC0)] (.block 0 (.loop (iSr [iQo 9 (.bin .lss .int aT8 aT7)] (.seq (.cond aT9 .skip (.exit 0)) (.seq (.block 1 (iSr [iSm 8,iQm 4 0] (iSr [.s (.zi 2 aT1),iSm 4,iCa 89 [aS1,aS0],iQm 5 0] (iSr [iSm 5,iQo 10 (.bin .neq .int aS0 aC0)] (.cond sW (iSr [iSm 5,iQm 2 0] .ret) .skip))))) (.reg [.s (.bin .add .int aT8 aC1),iQm 8 0]))))))) (iSr [iQo 2 (.mv aC0)] .ret))))
def F18.res:List RV:=[.t (.of 2)]
def F18:Fn:={ params:=[(.of 0)],res:=F18.res,body:=F18.b0,init:=in11 }
theorem F18.ok:fnA Tryz.prog Tryz.f18 [0,1,2,3,4,5,18,22,23,24,30]=some F18:=by kernel_rfl
abbrev F19.fr:=fr14
def F19.b0:IR:=(iSr [iWl 1 (.box aT0),iQo 2 (.mv aC0)] (.seq (iSr [.s (.zk 0 aT1),.s (.load aS0),.s (.bin .lss .int aS0 aC1),.s (.mv aS0),iPf 0 (.zk 0 aT1),iPf 1 (.load aS0),iPf 2 (.bin .gtr .int aS0 zny),iQo 6 (.pick aS3 (.c (.bool true)) aS0)] (.cond aT6 (iSr [iQo 2 (.mv aC3)] .ret) .skip)) (.seq (iSr [.s (.zk 1 aT1),.s (.load aS0),.s (.len aS0),iQo 7 (.bin .gtr .int aS0 ztb)] (.cond aT7 (iSr [iQo 2 (.mv aC5)] .ret) .skip)) (.seq (iSr [iQo 3 (.mv aC0)] (.block 0 (.loop (.seq (iSr [iSm 3,.s (.zk 1 aT1),.s (.load aS0),.s (.len aS0),iQo 8 (.bin .lss .int aS3 aS0)] (.cond aT8 .skip (.exit 0))) (.seq (.block 1 (iSr [.s (.zk 1 aT1),.s (.load aS0),iSm 3,.s (.zn 1 aS1 aS0),.s (.load aS0),iQm 4 0] (.seq (iSr [iSm 4,.s (.len aS0),iQo 9 (.bin .eql .int aS0 aC0)] (.cond aT9 (iSr [iQo 2 (.mv aC12)] .ret) .skip)) (.seq (iSr [iQo 5 (.mv aC0)] (.block 2 (.loop (.seq (iSr [iSm 5,iSm 4,.s (.len aS0),iQo 10 (.bin .lss .int aS2 aS0)] (.cond sW .skip (.exit 2))) (.seq (.block 3 (.seq (.seq (.jh [] [(iSm 4,0,[]),(iSm 5,0,[]),(.s (.zn 1 aS1 aS0),0,[]),(.s (.load aS0),0,[]),(.s (.bin .lss .int aS0 aC0),0,[]),(.s (.mv aS0),0,[]),(iPf 0 (.mv aT4),0,[]),(iPf 1 (.mv aT5),0,[]),(iPf 2 (.zn 1 aS1 aS0),0,[]),(iPf 3 (.load aS0),0,[]),(iPf 4 (.zk 0 aT1),0,[]),(iPf 5 (.load aS0),0,[]),(iPf 6 (.bin .geq .int aS2 aS0),0,[]),(iQo 11 (.pick aS7 (.c (.bool true)) aS0),0,[])]) (.cond ay (iSr [iQo 2 (.mv aC10)] .ret) .skip)) (.seq (.jh [] [(iSm 5,0,[]),(.s (.bin .gtr .int aS0 aC0),0,[]),(.s (.mv aS0),0,[]),(iPt 0 (.mv aT4),0,[]),(iPt 1 (.mv aT5),0,[]),(iPt 2 (.zn 1 aS1 aS0),0,[]),(iPt 3 (.load aS0),0,[]),(iPt 4 (.mv aT4),0,[]),(iPt 5 (.mv aT5),0,[]),(iPt 6 (.bin .sub .int aS0 aC1),0,[]),(iPt 7 (.zn 1 aS2 aS0),0,[]),(iPt 8 (.load aS0),0,[]),(iPt 9 (.bin .leq .int aS5 aS0),0,[]),(iQo 12 (.pick oD aS0 (.c (.bool false))),0,[])]) (.cond sF (iSr [iQo 2 (.mv aC11)] .ret) .skip)))) (.reg [iSm 5,.s (.bin .add .int aS0 aC1),iQm 5 0])))))) (iSr [.s (.zk 1 aT1),.s (.load aS0),iSm 3,.s (.slice 1 aS1 none (some aS0) none),iSm 4,iWl 13 (.call (.c (.fn 90 (.of 90) [])) [aS1,aS0])] (.cond aT13 (iSr [iQo 2 (.mv aC9)] .ret) .skip)))))) (.reg [iSm 3,.s (.bin .add .int aS0 aC1),iQm 3 0])))))) (iSr [iQo 2 (.mv aC0)] .ret)))))
def F19.res:List RV:=[.t (.of 2)]
def F19:Fn:={ params:=[(.of 0)],res:=F19.res,body:=F19.b0,init:=in14 }
theorem F19.ok:fnA Tryz.prog Tryz.f19 [0,1,2,3,4,5,13,17,22,32,36,52,66,72]=some F19:=by kernel_rfl
abbrev F20.fr:=fr14
def F20.b0:IR:=(iSr [iWl 1 (.box aT0),iQo 2 (.mv aC0)] (.seq (.seq (.jh [] [(.s (.zk 0 aT1),0,[]),(.s (.load aS0),0,[]),(.s (.zk 1 aT1),2,[]),(.s (.load aS0),2,[]),(.s (.len aS0),2,[]),(.s (.bin .gtr .int aS0 aC32),2,[]),(.w .push none (.yg 1 1 [(I 0)] [(0,1,aS4)]),0,[]),(iCa 87 [aC1,aC16,aS0],0,[]),(iCa 88 [aS2,aC5],0,[]),(.w .push none (.yg 1 2 [(I 0)] [(0,1,aS1),(1,1,aS0)]),0,[]),(iCa 86 [aS0],0,[]),(iQm 3 0,0,[])]) (iSr [iSm 3,iQo 8 (.bin .neq .int aS0 aC0)] (.cond aT8 (iSr [iSm 3,iQm 2 0] .ret) .skip))) (.seq (iSr [.s (.zk 1 aT1),iQo 9 (.load aS0),iQo 10 (.len aT9),iQo 11 (.mv aC0)] (.block 0 (.loop (iSr [iQo 12 (.bin .lss .int ay sW)] (.seq (.cond sF .skip (.exit 0)) (.seq (.block 1 (iSr [iSm 11,.s (.zn 2 aT9 ay),.s (.zi 2 aS0),iWl 5 (.alloc [(I 0),(I 0)]),iQm 4 2,.w .none none (.store 2 aT5 aS0)] (iSr [.s (.rP 1 2 aT5 aC0),.s (.load aS0),.s (.bin .geq .int aS0 aC0),.s (.mv aS0),iPt 0 (.rP 1 2 aT5 aC0),iPt 1 (.load aS0),iPt 2 (.zk 0 aT1),iPt 3 (.load aS0),iPt 4 (.bin .lss .int aS2 aS0),.s (.pick aS5 aS0 (.c (.bool false))),.s (.mv aS0),iPt 0 (.rP 1 2 aT5 aC1),iPt 1 (.load aS0),iPt 2 (.bin .geq .int aS0 aC0),.s (.pick aS3 aS0 (.c (.bool false))),.s (.mv aS0),iPt 0 (.rP 1 2 aT5 aC1),iPt 1 (.load aS0),iPt 2 (.zk 0 aT1),iPt 3 (.load aS0),iPt 4 (.bin .lss .int aS2 aS0),.s (.pick aS5 aS0 (.c (.bool false))),iQm 6 0] (.seq (.jh [] [(iSm 6,0,[]),(.s (.not aS0),0,[]),(.s (.rP 1 2 aT5 aC0),1,[]),(.s (.load aS0),1,[]),(.s (.rP 1 2 aT5 aC1),1,[]),(.s (.load aS0),1,[]),(.s (.bin .geq .int aS2 aS0),1,[]),(.s (.zk 1 aT1),2,[]),(.s (.load aS0),2,[]),(iSm 4,2,[]),(.s (.slice 2 aS1 none (some aS0) none),2,[]),(.s (.zi 2 aT5),2,[]),(iCa 88 [oD,aC10],0,[]),(iCa 88 [aS6,aC11],0,[]),(iCa 91 [aS3,aS2],0,[]),(iCa 88 [aS0,aC9],0,[]),(.w .push none (.yg 1 3 [(I 0)] [(0,1,aS3),(1,1,aS2),(2,1,aS0)]),0,[]),(iCa 86 [aS0],0,[]),(iQm 7 0,0,[])]) (iSr [iSm 7,iQo 13 (.bin .neq .int aS0 aC0)] (.cond aT13 (iSr [iSm 7,iQm 2 0] .ret) .skip)))))) (.reg [.s (.bin .add .int ay aC1),iQm 11 0]))))))) (iSr [iQo 2 (.mv aC0)] .ret))))
def F20.res:List RV:=[.t (.of 2)]
def F20:Fn:={ params:=[(.of 0)],res:=F20.res,body:=F20.b0,init:=in14 }
theorem F20.ok:fnA Tryz.prog Tryz.f20 [0,1,2,3,4,5,6,7,20,23,24,25,26,71]=some F20:=by kernel_rfl
abbrev F21.fr:=fr13
def F21.b0:IR:=(iSr [iWl 1 (.box aT0),iQo 2 (.mv aC0)] (.seq (iSr [.s (.zk 0 aT1),.s (.load aS0),.s (.bin .lss .int aS0 aC1),.s (.mv aS0),iPf 0 (.zk 0 aT1),iPf 1 (.load aS0),iPf 2 (.bin .gtr .int aS0 aC16),iQo 6 (.pick aS3 (.c (.bool true)) aS0)] (.cond aT6 (iSr [iQo 2 (.mv aC3)] .ret) .skip)) (.seq (iSr [.s (.zk 1 aT1),.s (.load aS0),.s (.len aS0),iQo 7 (.bin .gtr .int aS0 aC32)] (.cond aT7 (iSr [iQo 2 (.mv aC5)] .ret) .skip)) (.seq (iSr [iQo 3 (.mv aC0)] (.block 0 (.loop (.seq (iSr [iSm 3,.s (.zk 1 aT1),.s (.load aS0),.s (.len aS0),iQo 8 (.bin .lss .int aS3 aS0)] (.cond aT8 .skip (.exit 0))) (.seq (.block 1 (iSr [.s (.zk 1 aT1),.s (.load aS0),iSm 3,.s (.zn 2 aS1 aS0),.s (.zi 2 aS0),iWl 4 (.alloc [(I 0),(I 0)]),.w .none none (.store 2 aT4 aS0)] (.seq (iSr [.s (.rP 1 2 aT4 aC0),.s (.load aS0),.s (.bin .lss .int aS0 aC0),.s (.mv aS0),iPf 0 (.rP 1 2 aT4 aC0),iPf 1 (.load aS0),iPf 2 (.zk 0 aT1),iPf 3 (.load aS0),iPf 4 (.bin .geq .int aS2 aS0),.s (.pick aS5 (.c (.bool true)) aS0),.s (.mv aS0),iPf 0 (.rP 1 2 aT4 aC1),iPf 1 (.load aS0),iPf 2 (.bin .lss .int aS0 aC0),.s (.pick aS3 (.c (.bool true)) aS0),.s (.mv aS0),iPf 0 (.rP 1 2 aT4 aC1),iPf 1 (.load aS0),iPf 2 (.zk 0 aT1),iPf 3 (.load aS0),iPf 4 (.bin .geq .int aS2 aS0),iQo 9 (.pick aS5 (.c (.bool true)) aS0)] (.cond aT9 (iSr [iQo 2 (.mv aC10)] .ret) .skip)) (.seq (iSr [.s (.rP 1 2 aT4 aC0),.s (.load aS0),.s (.rP 1 2 aT4 aC1),.s (.load aS0),iQo 10 (.bin .geq .int aS2 aS0)] (.cond sW (iSr [iQo 2 (.mv aC11)] .ret) .skip)) (iSr [iQo 5 (.mv aC0)] (.block 2 (.loop (.seq (iSr [iSm 5,iSm 3,iQo 11 (.bin .lss .int aS1 aS0)] (.cond ay .skip (.exit 2))) (.seq (.block 3 (.seq (.jh [] [(.s (.zk 1 aT1),0,[]),(.s (.load aS0),0,[]),(iSm 5,0,[]),(.s (.zn 2 aS1 aS0),0,[]),(.s (.zi 2 aS0),0,[]),(.s (.zi 2 aT4),0,[]),(iQo 12 (.bin .eql (.agg 2) aS1 aS0),0,[])]) (.cond sF (iSr [iQo 2 (.mv aC9)] .ret) .skip))) (.reg [iSm 5,.s (.bin .add .int aS0 aC1),iQm 5 0])))))))))) (.reg [iSm 3,.s (.bin .add .int aS0 aC1),iQm 3 0])))))) (iSr [iQo 2 (.mv aC0)] .ret)))))
def F21.res:List RV:=[.t (.of 2)]
def F21:Fn:={ params:=[(.of 0)],res:=F21.res,body:=F21.b0,init:=in13 }
theorem F21.ok:fnA Tryz.prog Tryz.f21 [0,1,2,3,4,5,13,17,22,51,56,59,68]=some F21:=by kernel_rfl
abbrev F23.fr:=fr6
def F23.b0:IR:=(iSr [iWl 1 (.box aT0),iQo 2 (.mv (.c .zf)),iQo 3 (.mv aC0)] (.seq (iSr [.s (.zi 2 aT1),iCa 18 [aS0],iQm 4 0] (iSr [iSm 4,iQo 5 (.bin .neq .int aS0 aC0)] (.cond aT5 (iSr [iSm 4,iQo 2 (.mv (.c .zf)),iQm 3 0] .ret) .skip))) (iSr [.s (.zi 2 aT1),iCa 93 [aS0],.s (.part 1 none aS0),iCa 92 [aS0],.s (.ext 0 aS0),.s (.ext 1 aS1),iQm 2 1,iQm 3 0] .ret)))
def F23.res:List RV:=[.t (.of 2),.t (.of 3)]
def F23:Fn:={ params:=[(.of 0)],res:=F23.res,body:=F23.b0,init:=in6 }
theorem F23.ok:fnA Tryz.prog Tryz.f23 [0,1,2,3,4,8]=some F23:=by kernel_rfl
abbrev F24.fr:=fr14
def F24.b0:IR:=(iSr [iWl 2 (.box aT0),iQo 3 (.mv (.c .zf)),iQo 4 (.mv aC0)] (.seq (iSr [.s (.zi 2 aT2),iSm 1,iCa 94 [aS1,aS0],iQm 5 0] (iSr [iSm 5,iQo 8 (.bin .neq .int aS0 aC0)] (.cond aT8 (iSr [iSm 5,iQo 3 (.mv (.c .zf)),iQm 4 0] .ret) .skip))) (.seq (iSr [.s (.zi 2 aT2),iSm 1,iCa 95 [aS1,aS0],iQo 9 (.bin .geq .int aS0 aC0)] (.cond aT9 (iSr [iQo 3 (.mv (.c .zf)),iQo 4 (.mv aC16)] .ret) .skip)) (iSr [iQo 6 (.mv (.c .zf))] (.seq (iSr [.s (.zi 2 aT2),iCa 93 [aS0],iQo 10 (.part 0 none aS0),iQo 11 (.len sW),iQo 12 (.mv aC0)] (.block 0 (.loop (iSr [iQo 13 (.bin .lss .int sF ay)] (.seq (.cond aT13 .skip (.exit 0)) (.seq (.block 1 (iSr [.s (.zn 1 sW sF),.s (.load aS0),iQm 7 0] (.reg [iSm 6,iSm 1,iSm 7,.s (.zn 1 aS1 aS0),.s (.load aS0),iCa 96 [aS0],iCa 97 [aS0],.w .push none (.yg 1 1 [(.str [])] [(0,1,aS0)]),.w .push none (.app 1 16 aS7 aS0),iQm 6 0]))) (.reg [.s (.bin .add .int sF aC1),iQm 12 0]))))))) (iSr [iSm 6,iQm 3 0,iQo 4 (.mv aC0)] .ret))))))
def F24.res:List RV:=[.t (.of 3),.t (.of 4)]
def F24:Fn:={ params:=[(.of 0),(.of 1)],res:=F24.res,body:=F24.b0,init:=in14 }
theorem F24.ok:fnA Tryz.prog Tryz.f24 [0,1,2,4,5,6,7,9,14,19,22,23,24,25]=some F24:=by kernel_rfl
abbrev F29.fr:=fr7
def F29.b0:IR:=(iSr [iQo 2 (.mv (.c (.bool false)))] (.seq (iSr [iSm 0,.s (.len aS0),iSm 1,.s (.len aS0),iQo 4 (.bin .neq .int aS2 aS0)] (.cond aT4 (iSr [iQo 2 (.mv (.c (.bool false)))] .ret) .skip)) (.seq (iSr [iQo 3 (.mv aC0)] (.block 0 (.loop (.seq (iSr [iSm 3,iSm 0,.s (.len aS0),iQo 5 (.bin .lss .int aS2 aS0)] (.cond aT5 .skip (.exit 0))) (.seq (.block 1 (.seq (.jh [] [(iSm 0,0,[]),(iSm 3,0,[]),(.s (.zn 1 aS1 aS0),0,[]),(.s (.load aS0),0,[]),(iSm 1,0,[]),(iSm 3,0,[]),(.s (.zn 1 aS1 aS0),0,[]),(.s (.load aS0),0,[]),(iQo 6 (.bin .neq .str aS4 aS0),0,[])]) (.cond aT6 (iSr [iQo 2 (.mv (.c (.bool false)))] .ret) .skip))) (.reg [iSm 3,.s (.bin .add .int aS0 aC1),iQm 3 0])))))) (iSr [iQo 2 (.mv (.c (.bool true)))] .ret))))
def F29.res:List RV:=[.t (.of 2)]
def F29:Fn:={ params:=[(.of 0),(.of 1)],res:=F29.res,body:=F29.b0,init:=in7 }
theorem F29.ok:fnA Tryz.prog Tryz.f29 [0,1,4,5,10,14,25]=some F29:=by kernel_rfl
abbrev F31.fr:=fr28
def F31.b0:IR:=(iSr [iWl 1 (.box aT0),iQo 2 (.mv (.c .zf)),iQo 3 (.mv aC0)] (.seq (iSr [.s (.zi 2 aT1),iCa 18 [aS0],iQm 4 0] (iSr [iSm 4,iQo 17 (.bin .neq .int aS0 aC0)] (.cond aT17 (iSr [iSm 4,iQo 2 (.mv (.c .zf)),iQm 3 0] .ret) .skip))) (iSr [iQo 5 (.mv (.c .zf))] (iSr [iQo 6 (.mv (.c .zf))] (.seq (iSr [.s (.zk 1 aT1),iQo 18 (.load aS0),iQo 19 (.len aT18),iQo 20 (.mv aC0)] (.block 0 (.loop (iSr [iQo 21 (.bin .lss .int aT20 aT19)] (.seq (.cond aT21 .skip (.exit 0)) (.seq (.block 1 (iSr [iSm 20,.s (.zn 1 aT18 aT20),.s (.load aS0),iQm 7 2,iQm 8 0] (.seq (.jh [] [(.s (.zk 0 aT1),0,[]),(.s (.load aS0),0,[]),(iSm 8,0,[]),(.s (.zk 1 aT1),1,[]),(.s (.load aS0),1,[]),(.s (.len aS0),1,[]),(iCa 104 [aS4,aS3],0,[]),(iCa 105 [aS1],0,[]),(iQm 9 1,0,[]),(iQm 10 0,0,[])]) (.seq (iSr [iQo 22 (.mv aT5),iQo 23 (.len aT22),iQo 24 (.mv aC0)] (.block 2 (.loop (iSr [iQo 25 (.bin .lss .int aT24 aT23)] (.seq (.cond aT25 .skip (.exit 2)) (.seq (.block 3 (iSr [.s (.zn 3 aT22 aT24),.s (.zi 3 aS0),iWl 11 (.alloc [.zf,.zf,(I 0)]),.w .none none (.store 3 ay aS0)] (iSr [iSm 9,.s (.zk 2 ay),.s (.load aS0),.s (.zn 4 aS2 aS0),.s (.zi 4 aS0),iWl 12 (.alloc [(I 0),.zf,(I 0),.zf]),.w .none none (.store 4 sF aS0)] (iSr [iSm 9,.s (.zi 4 sF),.s (.zk 0 ay),.s (.load aS0),iCa 106 [aS3,aS2,aS0]] (.jh [] [(iSm 10,1,[]),(.s (.zi 4 sF),0,[]),(.s (.zk 1 ay),1,[]),(.s (.load aS0),1,[]),(iCa 107 [aS2],0,[]),(iCa 106 [aS4,aS0,aS1],0,[])]))))) (.reg [.s (.bin .add .int aT24 aC1),iQm 24 0]))))))) (iSr [iSm 9,.w .push none (.call (.c (.fn 108 (.of 108) [])) [aS0,(.c (.fn 109 (.of 109) []))]),iQm 13 0] (.seq (iSr [iSm 13,iQo 26 (.bin .lss .int aS0 aC0)] (.cond aT26 (iSr [iSm 10,iSm 7,iSm 7,.s (.slice 4 aS2 none (some aS1) (some aS0)),.w .push none (.yg 1 1 [.zf] [(0,1,aS0)]),iCa 92 [aS0],.s (.mv aS0),.s (.ext 0 aS0),.s (.ext 1 aS1),iQm 14 1,iQm 15 0] (.seq (iSr [iSm 15,iQo 27 (.bin .neq .int aS0 aC0)] (.cond aT27 (iSr [iSm 15,iQo 2 (.mv (.c .zf)),iQm 3 0] .ret) .skip)) (iSr [iSm 6,iSm 7,iSm 14,.s (.zn 1 aS0 aC0),.s (.load aS0),.s (.build [(I 0),.zf] [(0,1,aS3),(1,1,aS0)]),.w .push none (.yg 2 1 [(I 0),.zf] [(0,2,aS0)]),.w .push none (.appq 2 32 aS6 aS0),iQm 6 0] (.exit 1)))) .skip)) (iSr [iSm 10,iCa 96 [(.c (I (-1)))],iCa 111 [aS1,aS0]] (iSr [iSm 10,iSm 7,iCa 96 [aC1],.s (.zn 4 aS2 aS1),.w .none none (.store 4 aS0 aS1)] (iSr [iSm 9,iSm 13,.s (.zn 4 aS1 aS0),.s (.zi 4 aS0),iCa 112 [aS0],iWl 16 (.alloc [(I 0),.zf,(I 0),.zf]),.w .none none (.store 4 aT16 aS0)] (iSr [iSm 9,.s (.zi 4 aT16),iCa 111 [aS1,aS0]] (iSr [iSm 10,.s (.zi 4 aT16),iCa 111 [aS1,aS0]] (.reg [iSm 5,iSm 9,iSm 10,iSm 13,.s (.build [.zf,.zf,(I 0)] [(0,1,aS2),(1,1,aS1),(2,1,aS0)]),.w .push none (.yg 3 1 [.zf,.zf,(I 0)] [(0,3,aS0)]),.w .push none (.app 3 56 aS5 aS0),iQm 5 0])))))))))))) (.reg [.s (.bin .add .int aT20 aC1),iQm 20 0]))))))) (iSr [iSm 6,iQm 2 0,iQo 3 (.mv aC0)] .ret))))))
def F31.res:List RV:=[.t (.of 2),.t (.of 3)]
def F31:Fn:={ params:=[(.of 0)],res:=F31.res,body:=F31.b0,init:=in28 }
theorem F31.ok:fnA Tryz.prog Tryz.f31 [0,1,2,3,4,5,6,7,8,9,10,12,13,14,15,16,17,21,24,25,26,27,39,40,41,42,65,76]=some F31:=by kernel_rfl
abbrev F33.fr:=fr32
def F33.b0:IR:=(iSr [iWl 1 (.box aT0),iQo 2 (.mv aC0),iQo 3 (.mv aC0)] (.seq (iSr [.s (.zi 2 aT1),iCa 18 [aS0],iQm 4 0] (iSr [iSm 4,iQo 15 (.bin .neq .int aS0 aC0)] (.cond aT15 (iSr [iSm 4,iQo 2 (.mv aC0),iQm 3 0] .ret) .skip))) (.seq (iSr [.s (.zk 1 aT1),.s (.load aS0),.s (.len aS0),iQo 16 (.bin .eql .int aS0 aC0)] (.cond aT16 (iSr [iQo 2 (.mv aC0),iQo 3 (.mv aC7)] .ret) .skip)) (iSr [iWl 5 (.alloc [(I 0),.zf,(I 0),.zf])] (iSr [iQo 6 (.mv (.c (.bool false)))] (iSr [iQo 7 (.mv (.c .zf))] (.seq (iSr [.s (.zi 2 aT1),iCa 93 [aS0],iQo 17 (.part 1 none aS0),iQo 18 (.len aT17),iQo 19 (.mv aC0)] (.block 0 (.loop (iSr [iQo 20 (.bin .lss .int aT19 aT18)] (.seq (.cond aT20 .skip (.exit 0)) (.seq (.block 1 (iSr [.s (.zn 1 aT17 aT19),.s (.load aS0),iQm 8 0] (iSr [iCa 96 [aC0],iCa 96 [aC0],.s (.build [(I 0),.zf,(I 0),.zf,(I 0),.zf,(I 0),.zf] [(0,4,aS1),(4,4,aS0)]),iWl 9 (.alloc [(I 0),.zf,(I 0),.zf,(I 0),.zf,(I 0),.zf]),.w .none none (.store 8 aT9 aS0)] (.seq (iSr [iQo 21 (.mv aT8),iQo 22 (.len aT21),iQo 23 (.mv aC0)] (.block 2 (.loop (iSr [iQo 24 (.bin .lss .int aT23 aT22)] (.seq (.cond aT24 .skip (.exit 2)) (.seq (.block 3 (iSr [.s (.zn 4 aT21 aT23),.s (.zi 4 aS0),iWl 10 (.alloc [(I 0),.zf,(I 0),.zf]),.w .none none (.store 4 sW aS0)] (.reg [.s (.zk 0 aT9),.s (.zi 4 aS0),.s (.zi 4 sW),iCa 114 [aS1,aS0],.s (.zk 0 aT9),.w .none none (.store 4 aS0 aS1)]))) (.reg [.s (.bin .add .int aT23 aC1),iQm 23 0]))))))) (.seq (iSr [.s (.zk 1 aT1),.s (.load aS0),.s (.zn 1 aS0 aC0),iQo 25 (.load aS0),iQo 26 (.len aT25),iQo 27 (.mv aC0)] (.block 4 (.loop (iSr [iQo 28 (.bin .lss .int aT27 aT26)] (.seq (.cond aT28 .skip (.exit 4)) (.seq (.block 5 (iSr [.s (.zn 1 aT25 aT27),.s (.load aS0),iQm 11 0] (.jh [] [(.s (.zk 4 aT9),0,[]),(.s (.zi 4 aS0),0,[]),(iSm 8,0,[]),(iSm 11,0,[]),(.s (.zn 4 aS1 aS0),0,[]),(.s (.zi 4 aS0),0,[]),(iCa 114 [aS4,aS0],0,[]),(.s (.zk 4 aT9),0,[]),(.w .none none (.store 4 aS0 aS1),0,[])]))) (.reg [.s (.bin .add .int aT27 aC1),iQm 27 0]))))))) (.seq (iSr [.s (.zk 4 aT9),.s (.zi 4 aS0),iCa 110 [aS0],.s (.bin .neq .int aS0 aC0),.s (.mv aS0),iPt 0 (.mv aT6),iPt 1 (.not aS0),iQo 29 (.pick aS2 aS0 (.c (.bool false)))] (.cond aT29 (.reg [.s (.zk 0 aT9),.s (.zi 4 aS0),.s (.zk 4 aT9),.s (.zi 4 aS0),iCa 115 [aS2,aS0],.w .none none (.store 4 aT5 aS0),iQo 6 (.mv (.c (.bool true)))]) .skip)) (.reg [iSm 7,.s (.zi 8 aT9),.w .push none (.yg 8 1 [(I 0),.zf,(I 0),.zf,(I 0),.zf,(I 0),.zf] [(0,8,aS0)]),.w .push none (.app 8 128 aS2 aS0),iQm 7 0]))))))) (.reg [.s (.bin .add .int aT19 aC1),iQm 19 0]))))))) (.seq (iSr [iSm 6,.s (.not aS0),.s (.mv aS0),iPf 0 (.zi 4 aT5),.w .push (some (aS1,false)) (.call (.c (.fn 110 (.of 110) [])) [aS0]),iPf 2 (.bin .eql .int aS0 aC0),.s (.pick aS3 (.c (.bool true)) aS0),.s (.mv aS0),iPf 0 (.mv aT7),iPf 1 (.fn 117 (.of 117) [aT5]),.w .push (some (aS2,false)) (.call (.c (.fn 116 (.of 116) [])) [aS1,aS0]),iQo 30 (.pick aS3 (.c (.bool true)) aS0)] (.cond aT30 (iSr [iQo 2 (.mv aC0),iQo 3 (.mv aC7)] .ret) .skip)) (.seq (.jh [(.alloc [(I 0),.zf,(I 0),.zf])] [(.s (.zk 0 aT1),3,[]),(.s (.load aS0),3,[]),(.s (.zk 0 aT1),3,[]),(.s (.load aS0),3,[]),(.s (.bin .add .int aS0 aC1),3,[]),(.s (.bin .mul .int aS3 aS0),3,[]),(.s (.bin .quo .int aS0 aC2),3,[]),(.s (.zi 4 aT5),3,[]),(iCa 96 [aS1],0,[]),(iCa 115 [aS0,aS1],0,[]),(iWl 12 (.alloc [(I 0),.zf,(I 0),.zf]),0,[]),(.w .none none (.store 4 sF aS0),0,[])]) (iSr [.s (.zi 4 sF),iCa 120 [aS0],iCa 121 [aS0],.s (.mv aS0),.s (.ext 0 aS0),.s (.ext 1 aS1),iQm 13 1,iQm 14 0] (.seq (iSr [.s (.zi 4 sF),iCa 122 [aS0],.s (.not aS0),.s (.mv aS0),iPf 0 (.mv aT14),iPf 1 (.not aS0),iQo 31 (.pick aS2 (.c (.bool true)) aS0)] (.cond aT31 (iSr [iQo 2 (.mv aC0),iQo 3 (.mv aC21)] .ret) .skip)) (iSr [iSm 13,iQm 2 0,iQo 3 (.mv aC0)] .ret))))))))))))
def F33.res:List RV:=[.t (.of 2),.t (.of 3)]
def F33:Fn:={ params:=[(.of 0)],res:=F33.res,body:=F33.b0,init:=in32 }
theorem F33.ok:fnA Tryz.prog Tryz.f33 [0,1,2,3,4,5,6,7,9,10,12,14,15,16,17,21,26,29,30,31,32,38,39,40,41,53,54,55,56,75,97,120]=some F33:=by kernel_rfl
abbrev F40.fr:=fr14
def F40.t0:IR:=.reg [iQo 2 (.mv (.c (.str [])))]
def F40.t1:IR:=.reg [.s (.mv (.t (.of 0))),iCa 127 [(.s 0)],.s (.mv (.s 0)),.s (.ext 0 (.s 0)),.s (.ext 1 (.s 1)),.s (.ext 2 (.s 2)),iQo 3 (.mv (.s 2)),iQo 4 (.mv (.s 1)),iQo 5 (.mv (.s 0))]
def F40.t2:IR:=.reg [.s (.mv (.t (.of 1))),iCa 127 [(.s 0)],.s (.mv (.s 0)),.s (.ext 0 (.s 0)),.s (.ext 1 (.s 1)),.s (.ext 2 (.s 2)),iQo 6 (.mv (.s 2)),iQo 7 (.mv (.s 1)),iQo 8 (.mv (.s 0))]
def F40.t3:IR:=.reg [.s (.mv (.t (.of 5))),.s (.mv (.s 0)),.p .push (some ((.s 0),true)) (.mv (.t (.of 8))),iQo 13 (.pick (.s 1) (.s 0) (.c (.bool false)))]
def F40.t4:IR:=.reg [.s (.mv (.t (.of 3))),.s (.mv (.t (.of 7))),.s (.bin .mul .int (.s 1) (.s 0)),.s (.mv (.t (.of 6))),.s (.mv (.t (.of 4))),.s (.bin .mul .int (.s 1) (.s 0)),.s (.bin .add .int (.s 3) (.s 0)),.s (.mv (.t (.of 4))),.s (.mv (.t (.of 7))),.s (.bin .mul .int (.s 1) (.s 0)),iCa 128 [(.s 3),(.s 0)],iQo 2 (.mv (.s 0))]
def F40.t6:IR:=.cond (.t (.of 13)) (.seq F40.t4 .ret) .skip
def F40.t8:IR:=.reg [.s (.mv (.t (.of 0))),iCa 129 [(.s 0)],.s (.mv (.s 0)),.s (.ext 0 (.s 0)),.s (.ext 1 (.s 1)),iWl 9 (.alloc [(.bool false),.zf]),iWl 10 (.alloc [(.bool false),.zf]),.w .none none (.store 2 (.t (.of 9)) (.s 1)),.w .none none (.store 2 (.t (.of 10)) (.s 0))]
def F40.t9:IR:=.reg [.s (.mv (.t (.of 1))),iCa 129 [(.s 0)],.s (.mv (.s 0)),.s (.ext 0 (.s 0)),.s (.ext 1 (.s 1)),iWl 11 (.alloc [(.bool false),.zf]),iWl 12 (.alloc [(.bool false),.zf]),.w .none none (.store 2 (.t (.of 11)) (.s 1)),.w .none none (.store 2 (.t (.of 12)) (.s 0))]
def F40.t10:IR:=.jh [] [(.s (.zi 2 (.t (.of 9))),0,[]),(.s (.zi 2 (.t (.of 12))),0,[]),(.s (.zi 2 (.t (.of 11))),1,[]),(.s (.zi 2 (.t (.of 10))),1,[]),(.s (.zi 2 (.t (.of 10))),3,[]),(.s (.zi 2 (.t (.of 12))),3,[]),(iCa 132 [(.s 5),(.s 4)],0,[]),(iCa 132 [(.s 4),(.s 3)],0,[]),(iCa 131 [(.s 1),(.s 0)],0,[]),(iCa 132 [(.s 4),(.s 3)],0,[]),(iCa 130 [(.s 1),(.s 0)],0,[]),(iQo 2 (.mv (.s 0)),0,[])]
def F40.t13:IR:=.seq F40.t8 (.seq F40.t9 (.seq F40.t10 .ret))
def F40.t17:IR:=.seq F40.t0 (.seq F40.t1 (.seq F40.t2 (.seq (.seq F40.t3 F40.t6) F40.t13)))
def F40.b0:IR:=F40.t17
def F40.res:List RV:=[.t (.of 2)]
def F40:Fn:={ params:=[(.of 0),(.of 1)],res:=F40.res,body:=F40.b0,init:=in14 }
theorem F40.ok:fnA Tryz.prog Tryz.f40 [0,1,4,5,6,7,8,9,10,11,12,13,14,30]=some F40:=by kernel_rfl
abbrev F41.fr:=fr14
def F41.t0:IR:=.reg [iQo 2 (.mv (.c (.str [])))]
def F41.t1:IR:=.reg [.s (.mv (.t (.of 0))),iCa 127 [(.s 0)],.s (.mv (.s 0)),.s (.ext 0 (.s 0)),.s (.ext 1 (.s 1)),.s (.ext 2 (.s 2)),iQo 3 (.mv (.s 2)),iQo 4 (.mv (.s 1)),iQo 5 (.mv (.s 0))]
def F41.t2:IR:=.reg [.s (.mv (.t (.of 1))),iCa 127 [(.s 0)],.s (.mv (.s 0)),.s (.ext 0 (.s 0)),.s (.ext 1 (.s 1)),.s (.ext 2 (.s 2)),iQo 6 (.mv (.s 2)),iQo 7 (.mv (.s 1)),iQo 8 (.mv (.s 0))]
def F41.t3:IR:=.reg [.s (.mv (.t (.of 5))),.s (.mv (.s 0)),.p .push (some ((.s 0),true)) (.mv (.t (.of 8))),iQo 13 (.pick (.s 1) (.s 0) (.c (.bool false)))]
def F41.t4:IR:=.reg [.s (.mv (.t (.of 3))),.s (.mv (.t (.of 6))),.s (.bin .mul .int (.s 1) (.s 0)),.s (.mv (.t (.of 4))),.s (.mv (.t (.of 7))),.s (.bin .mul .int (.s 1) (.s 0)),iCa 128 [(.s 3),(.s 0)],iQo 2 (.mv (.s 0))]
def F41.t6:IR:=.cond (.t (.of 13)) (.seq F41.t4 .ret) .skip
def F41.t8:IR:=.reg [.s (.mv (.t (.of 0))),iCa 129 [(.s 0)],.s (.mv (.s 0)),.s (.ext 0 (.s 0)),.s (.ext 1 (.s 1)),iWl 9 (.alloc [(.bool false),.zf]),iWl 10 (.alloc [(.bool false),.zf]),.w .none none (.store 2 (.t (.of 9)) (.s 1)),.w .none none (.store 2 (.t (.of 10)) (.s 0))]
def F41.t9:IR:=.reg [.s (.mv (.t (.of 1))),iCa 129 [(.s 0)],.s (.mv (.s 0)),.s (.ext 0 (.s 0)),.s (.ext 1 (.s 1)),iWl 11 (.alloc [(.bool false),.zf]),iWl 12 (.alloc [(.bool false),.zf]),.w .none none (.store 2 (.t (.of 11)) (.s 1)),.w .none none (.store 2 (.t (.of 12)) (.s 0))]
def F41.t10:IR:=.jh [] [(.s (.zi 2 (.t (.of 9))),0,[]),(.s (.zi 2 (.t (.of 11))),0,[]),(.s (.zi 2 (.t (.of 10))),1,[]),(.s (.zi 2 (.t (.of 12))),1,[]),(iCa 132 [(.s 3),(.s 2)],0,[]),(iCa 132 [(.s 2),(.s 1)],0,[]),(iCa 130 [(.s 1),(.s 0)],0,[]),(iQo 2 (.mv (.s 0)),0,[])]
def F41.t13:IR:=.seq F41.t8 (.seq F41.t9 (.seq F41.t10 .ret))
def F41.t17:IR:=.seq F41.t0 (.seq F41.t1 (.seq F41.t2 (.seq (.seq F41.t3 F41.t6) F41.t13)))
def F41.b0:IR:=F41.t17
def F41.res:List RV:=[.t (.of 2)]
def F41:Fn:={ params:=[(.of 0),(.of 1)],res:=F41.res,body:=F41.b0,init:=in14 }
theorem F41.ok:fnA Tryz.prog Tryz.f41 [0,1,4,5,6,7,8,9,10,11,12,13,14,30]=some F41:=by kernel_rfl
abbrev F42.fr:=fr2
def F42.t0:IR:=.reg [iQo 1 (.mv (.c (.str [])))]
def F42.t1:IR:=.reg [.s (.mv (.t (.of 0))),iCa 134 [(.s 0)],iCa 133 [(.s 0)],iQo 1 (.mv (.s 0))]
def F42.t3:IR:=.seq F42.t0 (.seq F42.t1 .ret)
def F42.b0:IR:=F42.t3
def F42.res:List RV:=[.t (.of 1)]
def F42:Fn:={ params:=[(.of 0)],res:=F42.res,body:=F42.b0,init:=in2 }
theorem F42.ok:fnA Tryz.prog Tryz.f42 [0,2]=some F42:=by kernel_rfl
abbrev F43.fr:=fr7
def F43.b0:IR:=(iSr [iWl 2 (.box aT0),iQo 3 (.mv (.c (.bool false))),iQo 4 (.mv aC0)] (.seq (iSr [.s (.zi 2 aT2),iSm 1,iCa 94 [aS1,aS0],iQm 5 0] (iSr [iSm 5,iQo 6 (.bin .neq .int aS0 aC0)] (.cond aT6 (iSr [iSm 5,iQo 3 (.mv (.c (.bool false))),iQm 4 0] .ret) .skip))) (iSr [.s (.zi 2 aT2),iSm 1,iCa 95 [aS1,aS0],.s (.bin .lss .int aS0 aC0),iQm 3 0,iQo 4 (.mv aC0)] .ret)))
def F43.res:List RV:=[.t (.of 3),.t (.of 4)]
def F43:Fn:={ params:=[(.of 0),(.of 1)],res:=F43.res,body:=F43.b0,init:=in7 }
theorem F43.ok:fnA Tryz.prog Tryz.f43 [0,1,2,4,5,6,11]=some F43:=by kernel_rfl
abbrev F46.fr:=fr8
def F46.b9:IR:=(.seq (iSr [iSm 4,iSm 0,.s (.len aS0),iQo 6 (.bin .lss .int aS2 aS0)] (.cond aT6 .skip (.exit 2))) (.seq (.block 3 (.reg [iSm 3,.s (.mv aS0),iPf 0 (.mv aT0),iPf 1 (.mv aT4),iPf 2 (.zn 1 aS1 aS0),iPf 3 (.load aS0),iPf 4 (.mv aT2),iPf 5 (.bin .eql .int aS1 aS0),.s (.pick aS6 (.c (.bool true)) aS0),iQm 3 0])) (.reg [iSm 4,.s (.bin .add .int aS0 aC1),iQm 4 0])))
def F46.b8:IR:=(.loop F46.b9)
def F46.g7 (X8:IR):IR:=(.block 2 X8)
def F46.b7:IR:=F46.g7 F46.b8
def F46.b14:IR:=(iSr [iSm 3,iQo 7 (.not aS0)] (.cond aT7 (iSr [iQo 1 (.mv (.c (.bool false)))] .ret) .skip))
def F46.b15:IR:=(.reg [iSm 2,.s (.bin .add .int aS0 aC1),iQm 2 0])
def F46.b3:IR:=(.seq (iSr [iSm 2,iSm 0,.s (.len aS0),iQo 5 (.bin .leq .int aS2 aS0)] (.cond aT5 .skip (.exit 0))) (.seq (.block 1 (iSr [iQo 3 (.mv (.c (.bool false)))] (.seq (iSr [iQo 4 (.mv aC0)] F46.b7) F46.b14))) F46.b15))
def F46.b2:IR:=(.loop F46.b3)
def F46.g1 (X2:IR):IR:=(.block 0 X2)
def F46.b1:IR:=F46.g1 F46.b2
def F46.b16:IR:=(iSr [iQo 1 (.mv (.c (.bool true)))] .ret)
def F46.b0:IR:=(iSr [iQo 1 (.mv (.c (.bool false)))] (.seq (iSr [iQo 2 (.mv aC1)] F46.b1) F46.b16))
def F46.res:List RV:=[.t (.of 1)]
def F46:Fn:={ params:=[(.of 0)],res:=F46.res,body:=F46.b0,init:=in8 }
theorem F46.ok:fnA Tryz.prog Tryz.f46 [0,2,3,4,5,9,15,28]=some F46:=by kernel_rfl
abbrev F47.fr:=fr6
def F47.b0:IR:=(iSr [iWl 1 (.box aT0),iQo 2 (.mv (.c .zf)),iQo 3 (.mv aC0)] (.seq (.seq (.jh [] [(.s (.load aT1),0,[]),(.s (.load aT1),1,[]),(iCa 135 [aS1],0,[]),(iCa 136 [aS1],0,[]),(.s (.not aS0),0,[]),(iCa 88 [aS0,aC14],0,[]),(.w .push none (.yg 1 2 [(I 0)] [(0,1,aS3),(1,1,aS0)]),0,[]),(iCa 86 [aS0],0,[]),(iQm 4 0,0,[])]) (iSr [iSm 4,iQo 5 (.bin .neq .int aS0 aC0)] (.cond aT5 (iSr [iSm 4,iQo 2 (.mv (.c .zf)),iQm 3 0] .ret) .skip))) (iSr [.s (.load aT1),.s (.len aS0),.s (.fn 138 (.of 138) [aT1]),iCa 137 [aS1,aS0],iQm 2 0,iQo 3 (.mv aC0)] .ret)))
def F47.res:List RV:=[.t (.of 2),.t (.of 3)]
def F47:Fn:={ params:=[(.of 0)],res:=F47.res,body:=F47.b0,init:=in6 }
theorem F47.ok:fnA Tryz.prog Tryz.f47 [0,1,2,3,4,14]=some F47:=by kernel_rfl
abbrev F48.fr:=fr7
def F48.b0:IR:=(iSr [iWl 2 (.box aT0),iQo 3 (.mv (.c .zf)),iQo 4 (.mv aC0)] (.seq (iSr [.s (.zi 2 aT2),iSm 1,iCa 94 [aS1,aS0],iQm 5 0] (iSr [iSm 5,iQo 6 (.bin .neq .int aS0 aC0)] (.cond aT6 (iSr [iSm 5,iQo 3 (.mv (.c .zf)),iQm 4 0] .ret) .skip))) (iSr [.s (.zi 2 aT2),iSm 1,iCa 139 [aS1,aS0],iQm 3 0,iQo 4 (.mv aC0)] .ret)))
def F48.res:List RV:=[.t (.of 3),.t (.of 4)]
def F48:Fn:={ params:=[(.of 0),(.of 1)],res:=F48.res,body:=F48.b0,init:=in7 }
theorem F48.ok:fnA Tryz.prog Tryz.f48 [0,1,2,4,5,6,11]=some F48:=by kernel_rfl
abbrev F49.fr:=fr7
def F49.b0:IR:=(iSr [iQo 2 (.mv (.c (.bool false)))] (.seq (iSr [iSm 0,.s (.len aS0),iSm 1,.s (.len aS0),iQo 4 (.bin .neq .int aS2 aS0)] (.cond aT4 (iSr [iQo 2 (.mv (.c (.bool false)))] .ret) .skip)) (.seq (iSr [iQo 3 (.mv aC0)] (.block 0 (.loop (.seq (iSr [iSm 3,iSm 0,.s (.len aS0),iQo 5 (.bin .lss .int aS2 aS0)] (.cond aT5 .skip (.exit 0))) (.seq (.block 1 (.seq (.jh [] [(iSm 0,0,[]),(iSm 3,0,[]),(.s (.zn 1 aS1 aS0),0,[]),(.s (.load aS0),0,[]),(iSm 1,0,[]),(iSm 3,0,[]),(.s (.zn 1 aS1 aS0),0,[]),(.s (.load aS0),0,[]),(iQo 6 (.bin .neq .int aS4 aS0),0,[])]) (.cond aT6 (iSr [iQo 2 (.mv (.c (.bool false)))] .ret) .skip))) (.reg [iSm 3,.s (.bin .add .int aS0 aC1),iQm 3 0])))))) (iSr [iQo 2 (.mv (.c (.bool true)))] .ret))))
def F49.res:List RV:=[.t (.of 2)]
def F49:Fn:={ params:=[(.of 0),(.of 1)],res:=F49.res,body:=F49.b0,init:=in7 }
theorem F49.ok:fnA Tryz.prog Tryz.f49 [0,1,4,5,10,14,25]=some F49:=by kernel_rfl
abbrev F50.fr:=fr5
def F50.t0:IR:=.reg [iWl 1 (.box (.t (.of 0))),iQo 2 (.mv (.c (I 0)))]
def F50.ze4 (r:List RO):List RO:=.p .push (some ((.s 13),false)) (.pick (.s 9) (.s 0) (.c (.bool false)))::.s (.pick (.s 14) (.c (.bool true)) (.s 0))::.s (.mv (.s 0))::.p .push (some ((.s 0),false)) (.zk 0 (.t (.of 1)))::.p .push (some ((.s 1),false)) (.load (.s 0))::.p .push (some ((.s 2),false)) (.bin .gtr .int (.s 0) (.c (I 1000)))::iQo 3 (.pick (.s 3) (.c (.bool true)) (.s 0))::r
def F50.r1_3:List RO:=F50.ze4 []
def F50.ze3 (r:List RO):List RO:=.p .push (some ((.s 1),true)) (.load (.s 0))::.p .push (some ((.s 2),true)) (.len (.s 0))::.p .push (some ((.s 3),true)) (.zk 0 (.t (.of 1)))::.p .push (some ((.s 4),true)) (.load (.s 0))::.p .push (some ((.s 5),true)) (.zk 0 (.t (.of 1)))::.p .push (some ((.s 6),true)) (.load (.s 0))::.p .push (some ((.s 7),true)) (.bin .mul .int (.s 2) (.s 0))::.p .push (some ((.s 8),true)) (.bin .neq .int (.s 5) (.s 0))::r
def F50.r1_2:List RO:=F50.ze3 F50.r1_3
def F50.tV (r:List RO):List RO:=.p .push (some ((.s 2),false)) (.bin .lss .int (.s 0) (.c (I 0)))::.s (.pick (.s 3) (.c (.bool true)) (.s 0))::.s (.mv (.s 0))::.p .push (some ((.s 0),false)) (.zk 0 (.t (.of 1)))::.p .push (some ((.s 1),false)) (.load (.s 0))::.p .push (some ((.s 2),false)) (.bin .leq .int (.s 0) (.c (I 1000)))::.p .push (some ((.s 3),false)) (.mv (.s 0))::.p .push (some ((.s 0),true)) (.zk 2 (.t (.of 1)))::r
def F50.rU:List RO:=F50.tV F50.r1_2
def F50.tN (r:List RO):List RO:=.s (.zk 0 (.t (.of 1)))::.s (.load (.s 0))::.s (.zk 1 (.t (.of 1)))::.s (.load (.s 0))::.s (.bin .neq .int (.s 2) (.s 0))::.s (.mv (.s 0))::.p .push (some ((.s 0),false)) (.zk 0 (.t (.of 1)))::.p .push (some ((.s 1),false)) (.load (.s 0))::r
def F50.aA:List RO:=F50.tN F50.rU
def F50.t1:IR:=.reg F50.aA
def F50.t2:IR:=.reg [iQo 2 (.mv (.c (I 2)))]
def F50.t3:IR:=.seq F50.t2 .ret
def F50.t4:IR:=.cond (.t (.of 3)) F50.t3 .skip
def F50.t5:IR:=.seq F50.t1 F50.t4
def F50.t6:IR:=.reg [.s (.zk 0 (.t (.of 1))),.s (.load (.s 0)),.s (.bin .lss .int (.s 0) (.c (I 1))),.s (.mv (.s 0)),.p .push (some ((.s 0),false)) (.zk 0 (.t (.of 1))),.p .push (some ((.s 1),false)) (.load (.s 0)),.p .push (some ((.s 2),false)) (.bin .gtr .int (.s 0) (.c (I 16))),iQo 4 (.pick (.s 3) (.c (.bool true)) (.s 0))]
def F50.t7:IR:=.reg [iQo 2 (.mv (.c (I 3)))]
def F50.t8:IR:=.seq F50.t7 .ret
def F50.t9:IR:=.cond (.t (.of 4)) F50.t8 .skip
def F50.t10:IR:=.seq F50.t6 F50.t9
def F50.t11:IR:=.reg [.s (.zk 2 (.t (.of 1))),.s (.load (.s 0)),iCa 102 [(.s 0)],iQo 2 (.mv (.s 0))]
def F50.t12:IR:=.seq F50.t11 .ret
def F50.t13:IR:=.seq F50.t10 F50.t12
def F50.t14:IR:=.seq F50.t5 F50.t13
def F50.t15:IR:=.seq F50.t0 F50.t14
def F50.b0:IR:=F50.t15
def F50.res:List RV:=[.t (.of 2)]
def F50:Fn:={ params:=[(.of 0)],res:=F50.res,body:=F50.b0,init:=in5 }
theorem F50.ok:fnA Tryz.prog Tryz.f50 [0,1,2,33,41]=some F50:=by kernel_rfl
abbrev F51.fr:=fr13
def F51.b4:IR:=(iSr [iQo 11 (.bin .lss .int sW aT9)] (.seq (.cond ay .skip (.exit 0)) (.seq (.block 1 (iSr [.s (.zn 2 aT8 sW),.s (.zi 2 aS0),iWl 6 (.alloc [(.str []),.bM]),.w .none none (.store 2 aT6 aS0)] (.seq (.jh [] [(.s (.zk 1 aT6),1,[]),(.s (.load aS0),1,[]),(.s (.zk 0 aT1),1,[]),(.s (.load aS0),1,[]),(.s (.zk 2 aT1),0,[]),(.s (.load aS0),0,[]),(iCa 142 [aS0],0,[]),(.s (.build [(I 0),.zf] [(0,1,aS3),(1,1,aS0)]),0,[]),(iWl 12 (.call aS6 [aS0]),0,[])]) (.cond sF (.reg [iSm 5,.s (.zk 0 aT6),.s (.load aS0),.w .push none (.yg 1 1 [(.str [])] [(0,1,aS0)]),.w .push none (.app 1 16 aS3 aS0),iQm 5 0]) .skip)))) (.reg [.s (.bin .add .int sW aC1),iQm 10 0]))))
def F51.b3:IR:=(.loop F51.b4)
def F51.g2 (X3:IR):IR:=(.block 0 X3)
def F51.b2:IR:=F51.g2 F51.b3
def F51.b9:IR:=(iSr [iSm 5,iQm 2 0,iQo 3 (.mv aC0)] .ret)
def F51.b0:IR:=(iSr [iWl 1 (.box aT0),iQo 2 (.mv (.c .zf)),iQo 3 (.mv aC0)] (.seq (iSr [.s (.zi 3 aT1),iCa 140 [aS0],iQm 4 0] (iSr [iSm 4,iQo 7 (.bin .neq .int aS0 aC0)] (.cond aT7 (iSr [iSm 4,iQo 2 (.mv (.c .zf)),iQm 3 0] .ret) .skip))) (iSr [iQo 5 (.mv (.c .zf))] (.seq (iSr [iWl 8 (.call (.c (.fn 141 (.of 141) [])) []),iQo 9 (.len aT8),iQo 10 (.mv aC0)] F51.b2) F51.b9))))
def F51.res:List RV:=[.t (.of 2),.t (.of 3)]
def F51:Fn:={ params:=[(.of 0)],res:=F51.res,body:=F51.b0,init:=in13 }
theorem F51.ok:fnA Tryz.prog Tryz.f51 [0,1,2,3,4,5,7,11,13,14,15,16,27]=some F51:=by kernel_rfl
abbrev F53.fr:=fr9
def F53.b4:IR:=(iSr [iQo 7 (.bin .lss .int aT6 aT5)] (.seq (.cond aT7 .skip (.exit 0)) (.seq (.block 1 (iSr [iSm 6,iQm 3 0] (.seq (.jh [] [(iSm 0,0,[]),(iSm 3,0,[]),(.s (.zn 1 aS1 aS0),0,[]),(.s (.load aS0),0,[]),(iSm 1,0,[]),(iSm 3,0,[]),(.s (.zn 1 aS1 aS0),0,[]),(.s (.load aS0),0,[]),(iQo 8 (.bin .neq .str aS4 aS0),0,[])]) (.cond aT8 (iSr [iQo 2 (.mv (.c (.bool false)))] .ret) .skip)))) (.reg [.s (.bin .add .int aT6 aC1),iQm 6 0]))))
def F53.b3:IR:=(.loop F53.b4)
def F53.g2 (X3:IR):IR:=(.block 0 X3)
def F53.b2:IR:=F53.g2 F53.b3
def F53.b9:IR:=(iSr [iQo 2 (.mv (.c (.bool true)))] .ret)
def F53.b0:IR:=(iSr [iQo 2 (.mv (.c (.bool false)))] (.seq (iSr [iSm 0,.s (.len aS0),iSm 1,.s (.len aS0),iQo 4 (.bin .neq .int aS2 aS0)] (.cond aT4 (iSr [iQo 2 (.mv (.c (.bool false)))] .ret) .skip)) (.seq (iSr [iSm 0,iQo 5 (.len aS0),iQo 6 (.mv aC0)] F53.b2) F53.b9)))
def F53.res:List RV:=[.t (.of 2)]
def F53:Fn:={ params:=[(.of 0),(.of 1)],res:=F53.res,body:=F53.b0,init:=in9 }
theorem F53.ok:fnA Tryz.prog Tryz.f53 [0,1,4,5,10,12,13,14,24]=some F53:=by kernel_rfl
abbrev F61.fr:=fr10
def F61.t0:IR:=.reg [iWl 1 (.box (.t (.of 0))),iQo 2 (.mv (.c (I 0))),iQo 3 (.mv (.c (I 0)))]
def F61.t1:IR:=.reg [.s (.zi 3 (.t (.of 1))),iCa 140 [(.s 0)],iQo 4 (.mv (.s 0))]
def F61.t2:IR:=.reg [.s (.mv (.t (.of 4))),iQo 7 (.bin .neq .int (.s 0) (.c (I 0)))]
def F61.t3:IR:=.reg [.s (.mv (.t (.of 4))),iQo 2 (.mv (.c (I 0))),iQo 3 (.mv (.s 0))]
def F61.t8:IR:=.reg [.s (.zk 0 (.t (.of 1))),.s (.load (.s 0)),.s (.zk 2 (.t (.of 1))),.s (.load (.s 0)),.s (.build [(I 0),.zf] [(0,1,(.s 2)),(1,1,(.s 0))]),iWl 5 (.alloc [(I 0),.zf]),.w .none none (.store 2 (.t (.of 5)) (.s 0))]
def F61.t9:IR:=.reg [.s (.zi 2 (.t (.of 5))),.w .push none (.call (.c (.fn 144 (.of 144) [])) [(.s 0),(.c (.str [109,97,103,105,99]))]),iQo 8 (.not (.s 0))]
def F61.t10:IR:=.reg [iQo 2 (.mv (.c (I 0))),iQo 3 (.mv (.c (I 16)))]
def F61.t14:IR:=.reg [iQo 6 (.mv (.c (I 1)))]
def F61.aY (r:List RO):List RO:=iQo 9 (.pick (.s 4) (.s 0) (.c (.bool false)))::r
def F61.r8_1:List RO:=F61.aY []
def F61.aX (r:List RO):List RO:=.s (.mv (.t (.of 6)))::.s (.bin .lss .int (.s 0) (.c (I 4)))::.s (.mv (.s 0))::.p .push (some ((.s 0),true)) (.zi 2 (.t (.of 5)))::.p .push (some ((.s 1),true)) (.mv (.t (.of 6)))::.p .push (some ((.s 2),true)) (.bin .add .int (.s 0) (.c (I 1)))::.w .push (some ((.s 3),true)) (.call (.c (.fn 145 (.of 145) [])) [(.s 2),(.s 0)])::r
def F61.ou:List RO:=F61.aX F61.r8_1
def F61.t15:IR:=.reg F61.ou
def F61.t18:IR:=.reg [.s (.mv (.t (.of 6))),.s (.bin .add .int (.s 0) (.c (I 1))),iQo 6 (.mv (.s 0))]
def F61.t20:IR:=.seq (.seq F61.t15 (.cond (.t (.of 9)) .skip (.exit 0))) (.block 1 F61.t18)
def F61.t21:IR:=.loop F61.t20
def F61.t23:IR:=.reg [.s (.mv (.t (.of 6))),iQo 2 (.mv (.s 0)),iQo 3 (.mv (.c (I 0)))]
def F61.t30:IR:=.seq F61.t0 (.seq (.seq F61.t1 (.seq F61.t2 (.cond (.t (.of 7)) (.seq F61.t3 .ret) .skip))) (.seq F61.t8 (.seq (.seq F61.t9 (.cond (.t (.of 8)) (.seq F61.t10 .ret) .skip)) (.seq F61.t14 (.seq (.block 0 F61.t21) (.seq F61.t23 .ret))))))
def F61.b0:IR:=F61.t30
def F61.res:List RV:=[.t (.of 2),.t (.of 3)]
def F61:Fn:={ params:=[(.of 0)],res:=F61.res,body:=F61.b0,init:=in10 }
theorem F61.ok:fnA Tryz.prog Tryz.f61 [0,1,2,3,4,5,6,10,19,27]=some F61:=by kernel_rfl
abbrev F62.fr:=fr13
def F62.t0:IR:=.reg [iWl 1 (.box (.t (.of 0))),iQo 2 (.mv (.c .zf))]
def F62.t1:IR:=.reg [iQo 3 (.mv (.c .zf))]
def F62.t2:IR:=.reg [.s (.zi 3 (.t (.of 1))),.w .push none (.call (.c (.fn 63 (.of 63) [])) [(.c (.str [109,97,103,105,99])),(.s 0)]),iQo 4 (.mv (.s 0))]
def F62.t3:IR:=.reg [.s (.zk 2 (.t (.of 1))),.s (.load (.s 0)),iWl 5 (.call (.c (.fn 46 (.of 46) [])) [(.s 0)])]
def F62.t4:IR:=.reg [.s (.mv (.t (.of 3))),.w .push none (.yg 1 1 [(.str [])] [(0,1,(.c (.str [110,111,114,109,97,108])))]),.w .push none (.app 1 16 (.s 1) (.s 0)),iQo 3 (.mv (.s 0))]
def F62.t7:IR:=.reg [.s (.zi 3 (.t (.of 1))),iWl 6 (.call (.c (.fn 63 (.of 63) [])) [(.c (.str [115,101,109,105,109,97,103,105,99])),(.s 0)])]
def F62.t8:IR:=.reg [.s (.mv (.t (.of 3))),.w .push none (.yg 1 1 [(.str [])] [(0,1,(.c (.str [115,101,109,105,109,97,103,105,99])))]),.w .push none (.app 1 16 (.s 1) (.s 0)),iQo 3 (.mv (.s 0))]
def F62.t11:IR:=.reg [iQo 7 (.mv (.t (.of 4)))]
def F62.t12:IR:=.reg [.s (.mv (.t (.of 3))),.w .push none (.yg 1 1 [(.str [])] [(0,1,(.c (.str [109,97,103,105,99])))]),.w .push none (.app 1 16 (.s 1) (.s 0)),iQo 3 (.mv (.s 0))]
def F62.t15:IR:=.reg [.s (.zi 3 (.t (.of 1))),iWl 8 (.call (.c (.fn 63 (.of 63) [])) [(.c (.str [112,97,110,100,105,97,103,111,110,97,108])),(.s 0)])]
def F62.t16:IR:=.reg [.s (.mv (.t (.of 3))),.w .push none (.yg 1 1 [(.str [])] [(0,1,(.c (.str [112,97,110,100,105,97,103,111,110,97,108])))]),.w .push none (.app 1 16 (.s 1) (.s 0)),iQo 3 (.mv (.s 0))]
def F62.t19:IR:=.reg [.s (.mv (.t (.of 4))),.s (.mv (.s 0)),.p .push (some ((.s 0),true)) (.zk 2 (.t (.of 1))),.p .push (some ((.s 1),true)) (.load (.s 0)),.w .push (some ((.s 2),true)) (.call (.c (.fn 146 (.of 146) [])) [(.s 0)]),iQo 9 (.pick (.s 3) (.s 0) (.c (.bool false)))]
def F62.t20:IR:=.reg [.s (.mv (.t (.of 3))),.w .push none (.yg 1 1 [(.str [])] [(0,1,(.c (.str [97,115,115,111,99,105,97,116,105,118,101])))]),.w .push none (.app 1 16 (.s 1) (.s 0)),iQo 3 (.mv (.s 0))]
def F62.t23:IR:=.reg [.s (.zi 3 (.t (.of 1))),.w .push none (.call (.c (.fn 63 (.of 63) [])) [(.c (.str [112,97,110,100,105,97,103,111,110,97,108])),(.s 0)]),.s (.mv (.s 0)),.p .push (some ((.s 0),true)) (.zi 3 (.t (.of 1))),.w .push (some ((.s 1),true)) (.call (.c (.fn 147 (.of 147) [])) [(.s 0)]),iQo 10 (.pick (.s 2) (.s 0) (.c (.bool false)))]
def F62.t24:IR:=.reg [.s (.mv (.t (.of 3))),.w .push none (.yg 1 1 [(.str [])] [(0,1,(.c (.str [109,111,115,116,45,112,101,114,102,101,99,116])))]),.w .push none (.app 1 16 (.s 1) (.s 0)),iQo 3 (.mv (.s 0))]
def F62.t27:IR:=.reg [.s (.mv (.t (.of 4))),.s (.mv (.s 0)),.p .push (some ((.s 0),true)) (.zi 3 (.t (.of 1))),.w .push (some ((.s 1),true)) (.call (.c (.fn 148 (.of 148) [])) [(.s 0)]),iQo 11 (.pick (.s 2) (.s 0) (.c (.bool false)))]
def F62.t28:IR:=.reg [.s (.mv (.t (.of 3))),.w .push none (.yg 1 1 [(.str [])] [(0,1,(.c (.str [98,111,114,100,101,114,101,100])))]),.w .push none (.app 1 16 (.s 1) (.s 0)),iQo 3 (.mv (.s 0))]
def F62.t31:IR:=.jh [] [(.s (.mv (.t (.of 4))),0,[]),(.s (.mv (.s 0)),0,[]),(.p .push (some ((.s 0),true)) (.zk 0 (.t (.of 1))),1,[]),(.p .push (some ((.s 1),true)) (.load (.s 0)),1,[]),(.p .push (some ((.s 2),true)) (.zk 2 (.t (.of 1))),0,[]),(.p .push (some ((.s 3),true)) (.load (.s 0)),0,[]),(.w .push (some ((.s 4),true)) (.call (.c (.fn 150 (.of 150) [])) [(.s 0),(.c (I 2))]),0,[]),(.w .push (some ((.s 5),true)) (.call (.c (.fn 149 (.of 149) [])) [(.c (.str [109,97,103,105,99])),(.s 3),(.s 0)]),0,[]),(iQo 12 (.pick (.s 6) (.s 0) (.c (.bool false))),0,[])]
def F62.t32:IR:=.reg [.s (.mv (.t (.of 3))),.w .push none (.yg 1 1 [(.str [])] [(0,1,(.c (.str [98,105,109,97,103,105,99])))]),.w .push none (.app 1 16 (.s 1) (.s 0)),iQo 3 (.mv (.s 0))]
def F62.t35:IR:=.reg [.s (.mv (.t (.of 3))),iQo 2 (.mv (.s 0))]
def F62.t47:IR:=.seq F62.t0 (.seq F62.t1 (.seq F62.t2 (.seq (.seq F62.t3 (.cond (.t (.of 5)) F62.t4 .skip)) (.seq (.seq F62.t7 (.cond (.t (.of 6)) F62.t8 .skip)) (.seq (.seq F62.t11 (.cond (.t (.of 7)) F62.t12 .skip)) (.seq (.seq F62.t15 (.cond (.t (.of 8)) F62.t16 .skip)) (.seq (.seq F62.t19 (.cond (.t (.of 9)) F62.t20 .skip)) (.seq (.seq F62.t23 (.cond (.t (.of 10)) F62.t24 .skip)) (.seq (.seq F62.t27 (.cond (.t (.of 11)) F62.t28 .skip)) (.seq (.seq F62.t31 (.cond (.t (.of 12)) F62.t32 .skip)) (.seq F62.t35 .ret)))))))))))
def F62.b0:IR:=F62.t47
def F62.res:List RV:=[.t (.of 2)]
def F62:Fn:={ params:=[(.of 0)],res:=F62.res,body:=F62.b0,init:=in13 }
theorem F62.ok:fnA Tryz.prog Tryz.f62 [0,1,2,3,4,9,14,18,23,32,41,49,61]=some F62:=by kernel_rfl
abbrev F63.fr:=fr4
def F63.t0:IR:=.reg [iWl 2 (.box (.t (.of 1))),iQo 3 (.mv (.c (.bool false)))]
def F63.t1:IR:=.jh [] [(.s (.mv (.t (.of 0))),1,[]),(.s (.zk 0 (.t (.of 2))),1,[]),(.s (.load (.s 0)),1,[]),(.s (.zk 2 (.t (.of 2))),0,[]),(.s (.load (.s 0)),0,[]),(iCa 150 [(.s 0),(.c (I 1))],0,[]),(iCa 149 [(.s 5),(.s 3),(.s 0)],0,[]),(iQo 3 (.mv (.s 0)),0,[])]
def F63.t3:IR:=.seq F63.t0 (.seq F63.t1 .ret)
def F63.b0:IR:=F63.t3
def F63.res:List RV:=[.t (.of 3)]
def F63:Fn:={ params:=[(.of 0),(.of 1)],res:=F63.res,body:=F63.b0,init:=in4 }
theorem F63.ok:fnA Tryz.prog Tryz.f63 [0,1,3,4]=some F63:=by kernel_rfl
abbrev F64.fr:=fr5
def F64.t0:IR:=.reg [iWl 1 (.box (.t (.of 0))),iQo 2 (.mv (.c (I 0)))]
def F64.t1:IR:=.reg [iQo 3 (.mv (.c (I 0)))]
def F64.t2:IR:=.jh [] [(.s (.mv (.t (.of 3))),0,[]),(.s (.bin .lss .int (.s 0) (.c (I 4))),0,[]),(.s (.mv (.s 0)),0,[]),(.p .push (some ((.s 0),true)) (.zk 0 (.t (.of 1))),1,[]),(.p .push (some ((.s 1),true)) (.load (.s 0)),1,[]),(.p .push (some ((.s 2),true)) (.zk 2 (.t (.of 1))),0,[]),(.p .push (some ((.s 3),true)) (.load (.s 0)),0,[]),(.p .push (some ((.s 4),true)) (.mv (.t (.of 3))),0,[]),(.p .push (some ((.s 5),true)) (.bin .add .int (.s 0) (.c (I 1))),0,[]),(.w .push (some ((.s 6),true)) (.call (.c (.fn 150 (.of 150) [])) [(.s 2),(.s 0)]),0,[]),(.w .push (some ((.s 7),true)) (.call (.c (.fn 149 (.of 149) [])) [(.c (.str [109,97,103,105,99])),(.s 5),(.s 0)]),0,[]),(iQo 4 (.pick (.s 8) (.s 0) (.c (.bool false))),0,[])]
def F64.t5:IR:=.reg [.s (.mv (.t (.of 3))),.s (.bin .add .int (.s 0) (.c (I 1))),iQo 3 (.mv (.s 0))]
def F64.t7:IR:=.seq (.seq F64.t2 (.cond (.t (.of 4)) .skip (.exit 0))) (.block 1 F64.t5)
def F64.t8:IR:=.loop F64.t7
def F64.t10:IR:=.reg [.s (.mv (.t (.of 3))),iQo 2 (.mv (.s 0))]
def F64.t14:IR:=.seq F64.t0 (.seq F64.t1 (.seq (.block 0 F64.t8) (.seq F64.t10 .ret)))
def F64.b0:IR:=F64.t14
def F64.res:List RV:=[.t (.of 2)]
def F64:Fn:={ params:=[(.of 0)],res:=F64.res,body:=F64.b0,init:=in5 }
theorem F64.ok:fnA Tryz.prog Tryz.f64 [0,1,2,3,15]=some F64:=by kernel_rfl
abbrev F65.fr:=fr7
def F65.b0:IR:=(iSr [iWl 2 (.alloc [(I 0),.zf]),iQo 3 (.mv aC0)] (iSr [.w .push none (.yg 1 3 [(.str [])] [(0,1,(.c (.str [115,101,109,105,109,97,103,105,99]))),(1,1,(.c (.str [109,97,103,105,99]))),(2,1,(.c (.str [112,97,110,100,105,97,103,111,110,97,108])))]),iSm 0,iCa 151 [aS1,aS0],iQm 4 0] (.seq (iSr [iSm 4,.s (.not aS0),iCa 88 [aS0,aC13],iSm 1,.w .push none (.yg 1 1 [(I 0)] [(0,1,aS0)]),iCa 87 [aC1,aC16,aS0],.w .push none (.yg 1 2 [(I 0)] [(0,1,aS3),(1,1,aS0)]),iCa 86 [aS0],iQm 5 0] (iSr [iSm 5,iQo 6 (.bin .neq .int aS0 aC0)] (.cond aT6 (iSr [.s (.build [(I 0),.zf] []),iSm 5,.w .none none (.store 2 aT2 aS1),iQm 3 0] .ret) .skip))) (iSr [iSm 0,iSm 1,iCa 152 [aS1,aS0],.w .none none (.store 2 aT2 aS0),iQo 3 (.mv aC0)] .ret))))
def F65.res:List RV:=[.cell (.of 2) (some 2),.t (.of 3)]
def F65:Fn:={ params:=[(.of 0),(.of 1)],res:=F65.res,body:=F65.b0,init:=in7 }
theorem F65.ok:fnA Tryz.prog Tryz.f65 [0,1,4,5,6,7,20]=some F65:=by kernel_rfl
abbrev F69.fr:=fr10
def F69.b0:IR:=(iSr [iWl 1 (.alloc [(I 0),.zf]),iQo 2 (.mv aC0)] (.seq (iSr [iSm 0,.w .push none (.yg 1 1 [(I 0)] [(0,1,aS0)]),iCa 87 [aC5,aC16,aS0],iQm 3 0] (iSr [iSm 3,iQo 6 (.bin .neq .int aS0 aC0)] (.cond aT6 (iSr [.s (.build [(I 0),.zf] []),iSm 3,.w .none none (.store 2 aT1 aS1),iQm 2 0] .ret) .skip))) (iSr [iQo 4 (.mv (.c .zf))] (.seq (iSr [iQo 7 (.mv aT0),iQo 8 (.mv aC0)] (.block 0 (.loop (iSr [iQo 9 (.bin .lss .int aT8 aT7)] (.seq (.cond aT9 .skip (.exit 0)) (.seq (.block 1 (iSr [iSm 8,iQm 5 0] (.jh [] [(iSm 4,2,[]),(iSm 5,0,[]),(iSm 5,0,[]),(.s (.bin .add .int aS0 aC2),0,[]),(iSm 0,0,[]),(.s (.bin .rem .int aS1 aS0),0,[]),(iSm 0,0,[]),(iSm 5,0,[]),(.s (.bin .add .int aS1 aS0),0,[]),(iSm 0,0,[]),(iSm 5,0,[]),(.s (.bin .add .int aS0 aC1),0,[]),(iSm 0,0,[]),(.s (.bin .rem .int aS1 aS0),0,[]),(.s (.bin .add .int aS4 aS0),0,[]),(.w .push none (.yg 1 4 [(I 0)] [(0,1,aS13),(1,1,aS9),(2,1,aS6),(3,1,aS0)]),0,[]),(.w .push none (.yg 1 1 [.zf] [(0,1,aS0)]),0,[]),(.w .push none (.app 1 24 aS16 aS0),0,[]),(iQm 4 0,0,[])]))) (.reg [.s (.bin .add .int aT8 aC1),iQm 8 0]))))))) (iSr [iSm 0,.s (.bin .mul .int aC2 aS0),iSm 4,iCa 153 [aS1,aS0],.w .none none (.store 2 aT1 aS0),iQo 2 (.mv aC0)] .ret)))))
def F69.res:List RV:=[.cell (.of 1) (some 2),.t (.of 2)]
def F69:Fn:={ params:=[(.of 0)],res:=F69.res,body:=F69.b0,init:=in10 }
theorem F69.ok:fnA Tryz.prog Tryz.f69 [0,2,3,4,5,6,11,14,15,16]=some F69:=by kernel_rfl
abbrev F70.fr:=fr13
def F70.b0:IR:=(iSr [iWl 2 (.alloc [(I 0),.zf]),iQo 3 (.mv aC0)] (.seq (iSr [iSm 0,.s (.bin .neq .str aS0 (.c (.str [115,101,109,105,109,97,103,105,99]))),.s (.mv aS0),iPt 0 (.mv aT0),iPt 1 (.bin .neq .str aS0 (.c (.str [109,97,103,105,99]))),.s (.pick aS2 aS0 (.c (.bool false))),.s (.mv aS0),iPt 0 (.mv aT0),iPt 1 (.bin .neq .str aS0 (.c (.str [112,97,110,100,105,97,103,111,110,97,108]))),iQo 7 (.pick aS2 aS0 (.c (.bool false)))] (.cond aT7 (iSr [.s (.build [(I 0),.zf] []),.w .none none (.store 2 aT2 aS0),iQo 3 (.mv aC13)] .ret) .skip)) (.seq (iSr [iSm 1,.s (.bin .lss .int aS0 aC1),.s (.mv aS0),iPf 0 (.mv aT1),iPf 1 (.bin .gtr .int aS0 aC16),iQo 8 (.pick aS2 (.c (.bool true)) aS0)] (.cond aT8 (iSr [.s (.build [(I 0),.zf] []),.w .none none (.store 2 aT2 aS0),iQo 3 (.mv aC3)] .ret) .skip)) (iSr [iSm 1,iSm 1,iCa 163 [(.c .zf),aS1,aS0],iSm 1,iSm 1,iCa 162 [aS2,aS1,aS0],iQm 4 0] (.seq (iSr [iSm 0,iQo 9 (.bin .neq .str aS0 (.c (.str [115,101,109,105,109,97,103,105,99])))] (.cond aT9 (.reg [iSm 4,iSm 1,iCa 165 [aS0,aC0,aC1],iCa 164 [aS2,aS0],iSm 1,iSm 1,.s (.bin .sub .int aS0 aC1),iCa 165 [aS2,aS0,(.c (I (-1)))],iCa 164 [aS4,aS0],iQm 4 0]) .skip)) (.seq (iSr [iSm 0,iQo 10 (.bin .eql .str aS0 (.c (.str [112,97,110,100,105,97,103,111,110,97,108])))] (.cond sW (.seq (iSr [iQo 5 (.mv aC0)] (.block 0 (.loop (.seq (iSr [iSm 5,iSm 1,iQo 11 (.bin .lss .int aS1 aS0)] (.cond ay .skip (.exit 0))) (.seq (.block 1 (.reg [iSm 4,iSm 1,iSm 5,iCa 165 [aS1,aS0,aC1],iCa 164 [aS3,aS0],iQm 4 0])) (.reg [iSm 5,.s (.bin .add .int aS0 aC1),iQm 5 0])))))) (iSr [iQo 6 (.mv aC0)] (.block 2 (.loop (.seq (iSr [iSm 6,iSm 1,iQo 12 (.bin .lss .int aS1 aS0)] (.cond sF .skip (.exit 2))) (.seq (.block 3 (.reg [iSm 4,iSm 1,iSm 6,iCa 165 [aS1,aS0,(.c (I (-1)))],iCa 164 [aS3,aS0],iQm 4 0])) (.reg [iSm 6,.s (.bin .add .int aS0 aC1),iQm 6 0]))))))) .skip)) (iSr [iSm 1,iSm 1,.s (.bin .mul .int aS1 aS0),iSm 4,.s (.build [(I 0),.zf] [(0,1,aS1),(1,1,aS0)]),.w .none none (.store 2 aT2 aS0),iQo 3 (.mv aC0)] .ret)))))))
def F70.res:List RV:=[.cell (.of 2) (some 2),.t (.of 3)]
def F70:Fn:={ params:=[(.of 0),(.of 1)],res:=F70.res,body:=F70.b0,init:=in13 }
theorem F70.ok:fnA Tryz.prog Tryz.f70 [0,1,4,5,6,7,8,18,25,34,45,48,58]=some F70:=by kernel_rfl
abbrev F78.fr:=fr7
def F78.b0:IR:=(iSr [iWl 2 (.box aT0),iQo 3 (.mv (.c .zf)),iQo 4 (.mv aC0)] (.seq (iSr [.s (.zi 2 aT2),iSm 1,iCa 168 [aS1,aS0],iQm 5 0] (iSr [iSm 5,iQo 6 (.bin .neq .int aS0 aC0)] (.cond aT6 (iSr [iSm 5,iQo 3 (.mv (.c .zf)),iQm 4 0] .ret) .skip))) (iSr [.s (.zi 2 aT2),iSm 1,iCa 169 [aS1,aS0],iQm 3 0,iQo 4 (.mv aC0)] .ret)))
def F78.res:List RV:=[.t (.of 3),.t (.of 4)]
def F78:Fn:={ params:=[(.of 0),(.of 1)],res:=F78.res,body:=F78.b0,init:=in7 }
theorem F78.ok:fnA Tryz.prog Tryz.f78 [0,1,2,4,5,6,11]=some F78:=by kernel_rfl
abbrev F85.fr:=fr1
def F85.b0:IR:=(iSr [iQo 0 (.mv (.c .zf))] (iSr [.w .push none (.yg 1 9 [(I 0)] [(0,1,aC2),(1,1,aC7),(2,1,aC6),(3,1,aC9),(4,1,aC5),(5,1,aC1),(6,1,aC4),(7,1,aC3),(8,1,aC8)]),iQm 0 0] .ret))
def F85.res:List RV:=[.t (.of 0)]
def F85:Fn:={ params:=[],res:=F85.res,body:=F85.b0,init:=in1 }
theorem F85.ok:fnA Tryz.prog Tryz.f85 [0]=some F85:=by kernel_rfl
abbrev F86.fr:=fr8
def F86.b3:IR:=(iSr [iQo 6 (.bin .lss .int aT5 aT4)] (.seq (.cond aT6 .skip (.exit 0)) (.seq (.block 1 (iSr [.s (.zn 1 aT3 aT5),.s (.load aS0),iQm 2 0] (iSr [iSm 2,iQo 7 (.bin .neq .int aS0 aC0)] (.cond aT7 (iSr [iSm 2,iQm 1 0] .ret) .skip)))) (.reg [.s (.bin .add .int aT5 aC1),iQm 5 0]))))
def F86.b2:IR:=(.loop F86.b3)
def F86.g1 (X2:IR):IR:=(.block 0 X2)
def F86.b1:IR:=F86.g1 F86.b2
def F86.b8:IR:=(iSr [iQo 1 (.mv aC0)] .ret)
def F86.b0:IR:=(iSr [iQo 1 (.mv aC0)] (.seq (iSr [iQo 3 (.mv aT0),iQo 4 (.len aT3),iQo 5 (.mv aC0)] F86.b1) F86.b8))
def F86.res:List RV:=[.t (.of 1)]
def F86:Fn:={ params:=[(.of 0)],res:=F86.res,body:=F86.b0,init:=in8 }
theorem F86.ok:fnA Tryz.prog Tryz.f86 [0,2,4,5,6,7,8,12]=some F86:=by kernel_rfl
abbrev F87.fr:=fr6
def F87.b0:IR:=(iSr [iWl 3 (.box aT0),iWl 4 (.box aT1),iQo 5 (.mv aC0)] (iSr [iSm 2,.s (.fn 174 (.of 174) [aT3,aT4]),iCa 173 [aS1,aS0],iCa 88 [aS0,aC3],iQm 5 0] .ret))
def F87.res:List RV:=[.t (.of 5)]
def F87:Fn:={ params:=[(.of 0),(.of 1),(.of 2)],res:=F87.res,body:=F87.b0,init:=in6 }
theorem F87.ok:fnA Tryz.prog Tryz.f87 [0,1,2,3,4,6]=some F87:=by kernel_rfl
abbrev F88.fr:=fr4
def F88.b0:IR:=(iSr [iQo 2 (.mv aC0)] (.seq (iSr [iQo 3 (.mv aT0)] (.cond aT3 (iSr [iSm 1,iQm 2 0] .ret) .skip)) (iSr [iQo 2 (.mv aC0)] .ret)))
def F88.res:List RV:=[.t (.of 2)]
def F88:Fn:={ params:=[(.of 0),(.of 1)],res:=F88.res,body:=F88.b0,init:=in4 }
theorem F88.ok:fnA Tryz.prog Tryz.f88 [0,1,4,5]=some F88:=by kernel_rfl
abbrev F89.fr:=fr14
def F89.b0:IR:=(iSr [iWl 2 (.box aT0),iQo 3 (.mv aC0)] (iSr [.s (.zk 1 aT2),.s (.load aS0),iSm 1,.s (.zn 1 aS1 aS0),.s (.load aS0),iWl 4 (.alloc [.zf]),.w .none none (.store 1 aT4 aS0)] (.seq (iSr [.s (.load aT4),.s (.len aS0),iQo 8 (.bin .eql .int aS0 aC0)] (.cond aT8 (iSr [iQo 3 (.mv aC12)] .ret) .skip)) (.seq (iSr [iQo 9 (.load aT4),iQo 10 (.len aT9),iQo 11 (.mv aC0)] (.block 0 (.loop (iSr [iQo 12 (.bin .lss .int ay sW)] (.seq (.cond sF .skip (.exit 0)) (.seq (.block 1 (iSr [iSm 11,.s (.zn 1 aT9 ay),.s (.load aS0),iQm 5 2,iQm 6 0] (iSr [iSm 6,.s (.bin .lss .int aS0 aC0),.s (.mv aS0),iPf 0 (.mv aT6),iPf 1 (.zk 0 aT2),iPf 2 (.load aS0),iPf 3 (.bin .geq .int aS2 aS0),.s (.pick aS4 (.c (.bool true)) aS0),iCa 88 [aS0,aC10],iSm 5,.s (.bin .gtr .int aS0 aC0),.s (.mv aS0),iPt 0 (.load aT4),iPt 1 (.mv aT5),iPt 2 (.bin .sub .int aS0 aC1),iPt 3 (.zn 1 aS2 aS0),iPt 4 (.load aS0),iPt 5 (.mv aT6),iPt 6 (.bin .geq .int aS1 aS0),.s (.pick aS7 aS0 (.c (.bool false))),iCa 88 [aS0,aC11],.w .push none (.yg 1 2 [(I 0)] [(0,1,aS12),(1,1,aS0)]),iCa 86 [aS0],iQm 7 0] (iSr [iSm 7,iQo 13 (.bin .neq .int aS0 aC0)] (.cond aT13 (iSr [iSm 7,iQm 3 0] .ret) .skip))))) (.reg [.s (.bin .add .int ay aC1),iQm 11 0]))))))) (iSr [.s (.zk 1 aT2),.s (.load aS0),iSm 1,.s (.slice 1 aS1 none (some aS0) none),.s (.fn 176 (.of 176) [aT4]),iCa 175 [aS1,aS0],iCa 88 [aS0,aC9],iQm 3 0] .ret)))))
def F89.res:List RV:=[.t (.of 3)]
def F89:Fn:={ params:=[(.of 0),(.of 1)],res:=F89.res,body:=F89.b0,init:=in14 }
theorem F89.ok:fnA Tryz.prog Tryz.f89 [0,1,2,4,5,6,7,8,16,17,18,19,20,48]=some F89:=by kernel_rfl
abbrev F90.fr:=fr6
def F90.b0:IR:=(iSr [iQo 2 (.mv (.c (.bool false)))] (.seq (iSr [iQo 3 (.mv aC0)] (.block 0 (.loop (.seq (iSr [iSm 3,iSm 0,.s (.len aS0),iQo 4 (.bin .lss .int aS2 aS0)] (.cond aT4 .skip (.exit 0))) (.seq (.block 1 (iSr [iSm 0,iSm 3,.s (.zn 1 aS1 aS0),.s (.load aS0),iSm 1,iWl 5 (.call (.c (.fn 49 (.of 49) [])) [aS1,aS0])] (.cond aT5 (iSr [iQo 2 (.mv (.c (.bool true)))] .ret) .skip))) (.reg [iSm 3,.s (.bin .add .int aS0 aC1),iQm 3 0])))))) (iSr [iQo 2 (.mv (.c (.bool false)))] .ret)))
def F90.res:List RV:=[.t (.of 2)]
def F90:Fn:={ params:=[(.of 0),(.of 1)],res:=F90.res,body:=F90.b0,init:=in6 }
theorem F90.ok:fnA Tryz.prog Tryz.f90 [0,1,4,5,9,17]=some F90:=by kernel_rfl
abbrev F91.fr:=fr4
def F91.b0:IR:=(iSr [iWl 2 (.box aT1),iQo 3 (.mv (.c (.bool false)))] (iSr [iSm 0,.s (.zi 2 aT2),iCa 178 [aS1,aS0],.s (.bin .geq .int aS0 aC0),iQm 3 0] .ret))
def F91.res:List RV:=[.t (.of 3)]
def F91:Fn:={ params:=[(.of 0),(.of 1)],res:=F91.res,body:=F91.b0,init:=in4 }
theorem F91.ok:fnA Tryz.prog Tryz.f91 [0,1,3,4]=some F91:=by kernel_rfl
abbrev F92.fr:=fr10
def F92.b0:IR:=(iSr [iQo 1 (.mv (.c .zf)),iQo 2 (.mv aC0)] (iSr [iQo 3 (.mv (.c .zf))] (.seq (iSr [iQo 5 (.mv aT0),iQo 6 (.len aT5),iQo 7 (.mv aC0)] (.block 0 (.loop (iSr [iQo 8 (.bin .lss .int aT7 aT6)] (.seq (.cond aT8 .skip (.exit 0)) (.seq (.block 1 (iSr [.s (.zn 1 aT5 aT7),.s (.load aS0),iQm 4 0] (.seq (iSr [iSm 4,iWl 9 (.call (.c (.fn 179 (.of 179) [])) [aS0,(.c (.fn 180 (.of 180) []))])] (.cond aT9 (iSr [iQo 1 (.mv (.c .zf)),iQo 2 (.mv aC4)] .ret) .skip)) (.reg [iSm 3,iSm 4,iCa 181 [aS0],.w .push none (.yg 1 1 [.zf] [(0,1,aS0)]),.w .push none (.app 1 24 aS3 aS0),iQm 3 0])))) (.reg [.s (.bin .add .int aT7 aC1),iQm 7 0]))))))) (iSr [iSm 3,iQm 1 0,iQo 2 (.mv aC0)] .ret))))
def F92.res:List RV:=[.t (.of 1),.t (.of 2)]
def F92:Fn:={ params:=[(.of 0)],res:=F92.res,body:=F92.b0,init:=in10 }
theorem F92.ok:fnA Tryz.prog Tryz.f92 [0,2,3,4,6,7,8,9,10,14]=some F92:=by kernel_rfl
abbrev F93.fr:=fr36
def F93.b0:IR:=(iSr [iWl 1 (.box aT0),iWl 2 (.alloc [.zf,.zf])] (iSr [.s (.zk 0 aT1),.s (.load aS0),iQm 3 0] (iSr [iQo 4 (.mv (.c .zf))] (iSr [iQo 5 (.mv (.c .zf))] (.seq (iSr [iQo 6 (.mv aC1)] (.block 0 (.loop (.seq (iSr [iSm 6,.s (.zk 1 aT1),.s (.load aS0),.s (.len aS0),iQo 17 (.bin .lss .int aS3 aS0)] (.cond aT17 .skip (.exit 0))) (.seq (.block 1 (iSr [iSm 3,.s (.zk 1 aT1),.s (.load aS0),iSm 6,.s (.zn 1 aS1 aS0),.s (.load aS0),iCa 104 [aS5,aS0],iQm 7 0] (.seq (.jh [] [(iSm 7,2,[]),(iSm 3,1,[]),(.s (.zk 1 aT1),1,[]),(.s (.load aS0),1,[]),(.s (.zn 1 aS0 aC0),1,[]),(.s (.load aS0),1,[]),(iCa 96 [aC1],0,[]),(iCa 104 [aS5,aS1],0,[]),(iCa 106 [aS7,aS1,aS0],0,[])]) (.seq (iSr [iQo 18 (.mv aT5),iQo 19 (.len aT18),iQo 20 (.mv aC0)] (.block 2 (.loop (iSr [iQo 21 (.bin .lss .int aT20 aT19)] (.seq (.cond aT21 .skip (.exit 2)) (.seq (.block 3 (iSr [iSm 20,.s (.zn 1 aT18 aT20),.s (.load aS0),iQm 8 2,iQm 9 0] (.jh [] [(iSm 7,0,[]),(iSm 7,0,[]),(iSm 9,0,[]),(.s (.zn 4 aS1 aS0),0,[]),(.s (.zi 4 aS0),0,[]),(iSm 4,0,[]),(iSm 8,0,[]),(.s (.zn 1 aS1 aS0),0,[]),(.s (.load aS0),0,[]),(iCa 106 [aS8,aS4,aS0],0,[])]))) (.reg [.s (.bin .add .int aT20 aC1),iQm 20 0]))))))) (iSr [iSm 3,.s (.bin .sub .int aS0 aC1),iQm 10 0] (.seq (.block 4 (.loop (.seq (iSr [iSm 10,.s (.bin .geq .int aS0 aC0),.s (.mv aS0),iPt 0 (.mv aT7),iPt 1 (.mv sW),iPt 2 (.zn 4 aS1 aS0),iPt 3 (.zi 4 aS0),.w .push (some (aS4,true)) (.call (.c (.fn 110 (.of 110) [])) [aS0]),iPt 5 (.bin .eql .int aS0 aC0),iQo 22 (.pick aS6 aS0 (.c (.bool false)))] (.cond aT22 .skip (.exit 4))) (.block 5 (.reg [iSm 10,.s (.bin .sub .int aS0 aC1),iQm 10 0]))))) (.seq (iSr [iSm 10,iQo 23 (.bin .lss .int aS0 aC0)] (.cond aT23 (.exit 1) .skip)) (iSr [iSm 7,iSm 7,iSm 10,.s (.zn 4 aS1 aS0),.s (.zi 4 aS0),iCa 112 [aS0],iCa 111 [aS5,aS0]] (.seq (iSr [iQo 24 (.mv aT4),iQo 25 (.len aT24),iQo 26 (.mv aC0)] (.block 6 (.loop (iSr [iQo 27 (.bin .lss .int aT26 aT25)] (.seq (.cond aT27 .skip (.exit 6)) (.seq (.block 7 (iSr [.s (.zn 1 aT24 aT26),.s (.load aS0),iQm 11 0] (.reg [iSm 11,iSm 11,iSm 10,.s (.zn 4 aS1 aS0),.s (.zi 4 aS0),iSm 7,iCa 106 [aS5,aS1,aS0]]))) (.reg [.s (.bin .add .int aT26 aC1),iQm 26 0]))))))) (.reg [iSm 4,iSm 7,.w .push none (.yg 1 1 [.zf] [(0,1,aS0)]),.w .push none (.app 1 24 aS2 aS0),iSm 5,iSm 10,.w .push none (.yg 1 1 [(I 0)] [(0,1,aS0)]),.w .push none (.app 1 8 aS2 aS0),iQm 4 4,iQm 5 0])))))))))) (.reg [iSm 6,.s (.bin .add .int aS0 aC1),iQm 6 0])))))) (iSr [iWl 12 (.alloc [.zf,.zf])] (.seq (iSr [iQo 28 (.mv aT3),iQo 29 (.mv aC0)] (.block 8 (.loop (iSr [iQo 30 (.bin .lss .int aT29 aT28)] (.seq (.cond aT30 .skip (.exit 8)) (.seq (.block 9 (iSr [iSm 29,iQm 13 0] (.seq (iSr [iSm 5,iSm 13,iWl 31 (.call (.c (.fn 182 (.of 182) [])) [aS1,aS0])] (.cond aT31 (.exit 9) .skip)) (iSr [iSm 3,iCa 105 [aS0],iQm 14 0] (iSr [iSm 14,iSm 13,iCa 96 [aC1],.s (.zn 4 aS2 aS1),.w .none none (.store 4 aS0 aS1)] (.seq (iSr [iQo 32 (.mv aT5),iQo 33 (.len aT32),iQo 34 (.mv aC0)] (.block 10 (.loop (iSr [iQo 35 (.bin .lss .int aT34 aT33)] (.seq (.cond aT35 .skip (.exit 10)) (.seq (.block 11 (iSr [iSm 34,.s (.zn 1 aT32 aT34),.s (.load aS0),iQm 15 2,iQm 16 0] (.reg [iSm 14,iSm 16,iSm 4,iSm 15,.s (.zn 1 aS1 aS0),.s (.load aS0),iSm 13,.s (.zn 4 aS1 aS0),.s (.zi 4 aS0),iCa 107 [aS0],.s (.zn 4 aS9 aS8),.w .none none (.store 4 aS0 aS1)]))) (.reg [.s (.bin .add .int aT34 aC1),iQm 34 0]))))))) (.jh [] [(.s (.zk 0 sF),3,[]),(.s (.load aS0),3,[]),(iSm 13,3,[(.yg 1 1 [(I 0)] [(0,1,aS0)])]),(.s (.zk 1 sF),3,[]),(.s (.load aS0),3,[]),(iSm 14,2,[(.yg 1 1 [.zf] [(0,1,aS0)])]),(.w .push none (.yg 1 1 [(I 0)] [(0,1,aS3)]),0,[]),(.w .push none (.app 1 8 aS5 aS0),0,[]),(.s (.zk 0 sF),2,[]),(.w .push none (.yg 1 1 [.zf] [(0,1,aS3)]),0,[]),(.w .push none (.app 1 24 aS5 aS0),0,[]),(.w .none none (.store 1 aS2 aS3),0,[]),(.s (.zk 1 sF),0,[]),(.w .none none (.store 1 aS0 aS1),0,[])]))))))) (.reg [.s (.bin .add .int aT29 aC1),iQm 29 0]))))))) (iSr [.s (.zi 2 sF),.w .none none (.store 2 aT2 aS0)] .ret))))))))
def F93.res:List RV:=[.cell (.of 2) (some 2)]
def F93:Fn:={ params:=[(.of 0)],res:=F93.res,body:=F93.b0,init:=in36 }
theorem F93.ok:fnA Tryz.prog Tryz.f93 [0,1,2,3,4,5,6,7,8,9,10,12,13,14,15,16,17,24,43,44,45,46,72,76,84,85,86,87,106,107,108,112,119,120,121,122]=some F93:=by kernel_rfl
abbrev F94.fr:=fr4
def F94.b0:IR:=(iSr [iWl 2 (.box aT0),iQo 3 (.mv aC0)] (.seq (.jh [] [(.s (.zi 2 aT2),0,[]),(iSm 1,1,[]),(.s (.len aS0),1,[]),(.s (.zk 0 aT2),1,[]),(.s (.load aS0),1,[]),(.s (.bin .neq .int aS2 aS0),1,[]),(iSm 1,2,[]),(iCa 18 [aS6],0,[]),(iCa 88 [aS2,aC2],0,[]),(iCa 183 [aS2],0,[]),(.w .push none (.yg 1 3 [(I 0)] [(0,1,aS2),(1,1,aS1),(2,1,aS0)]),0,[]),(iCa 86 [aS0],0,[]),(iQm 3 0,0,[])]) .ret))
def F94.res:List RV:=[.t (.of 3)]
def F94:Fn:={ params:=[(.of 0),(.of 1)],res:=F94.res,body:=F94.b0,init:=in4 }
theorem F94.ok:fnA Tryz.prog Tryz.f94 [0,1,2,4]=some F94:=by kernel_rfl
abbrev F95.fr:=fr5
def F95.b0:IR:=(iSr [iWl 2 (.box aT0),iQo 3 (.mv aC0)] (iSr [.s (.zi 2 aT2),iSm 1,iCa 139 [aS1,aS0],iWl 4 (.alloc [.zf]),.w .none none (.store 1 aT4 aS0)] (iSr [.s (.load aT4),.s (.fn 185 (.of 185) [aT4]),iCa 184 [aS1,aS0],iQm 3 0] .ret)))
def F95.res:List RV:=[.t (.of 3)]
def F95:Fn:={ params:=[(.of 0),(.of 1)],res:=F95.res,body:=F95.b0,init:=in5 }
theorem F95.ok:fnA Tryz.prog Tryz.f95 [0,1,2,4,5]=some F95:=by kernel_rfl
abbrev F96.fr:=fr2
def F96.t0:IR:=.reg [iWl 1 (.alloc [(I 0),.zf,(I 0),.zf])]
def F96.t1:IR:=.reg [.s (.mv (.t (.of 0))),iCa 187 [(.s 0)],iCa 186 [(.s 0)],.w .none none (.store 4 (.t (.of 1)) (.s 0))]
def F96.t3:IR:=.seq F96.t0 (.seq F96.t1 .ret)
def F96.b0:IR:=F96.t3
def F96.res:List RV:=[.cell (.of 1) (some 4)]
def F96:Fn:={ params:=[(.of 0)],res:=F96.res,body:=F96.b0,init:=in2 }
theorem F96.ok:fnA Tryz.prog Tryz.f96 [0,2]=some F96:=by kernel_rfl
abbrev F97.fr:=fr4
def F97.b0:IR:=(iSr [iWl 1 (.box aT0),iQo 2 (.mv (.c (.str [])))] (.seq (iSr [.s (.zi 4 aT1),iWl 3 (.call (.c (.fn 122 (.of 122) [])) [aS0])] (.cond aT3 (iSr [.s (.zk 0 aT1),.s (.zi 2 aS0),iCa 188 [aS0],iQm 2 0] .ret) .skip)) (.seq (.jh [] [(.s (.zk 0 aT1),0,[]),(.s (.zi 2 aS0),0,[]),(.s (.zk 2 aT1),1,[]),(.s (.zi 2 aS0),1,[]),(iCa 188 [aS2],0,[]),(.s (.bin .add .str aS0 (.c (.str [47]))),1,[]),(iCa 188 [aS2],0,[]),(.s (.bin .add .str aS1 aS0),0,[]),(iQm 2 0,0,[])]) .ret)))
def F97.res:List RV:=[.t (.of 2)]
def F97:Fn:={ params:=[(.of 0)],res:=F97.res,body:=F97.b0,init:=in4 }
theorem F97.ok:fnA Tryz.prog Tryz.f97 [0,1,2,4]=some F97:=by kernel_rfl
abbrev mr.fr:=fr5
def mr.b3:IR:=(.seq (iSr [iSm 2,iSm 0,.s (.len aS0),iQo 3 (.bin .lss .int aS2 aS0)] (.cond aT3 .skip (.exit 0))) (.seq (.block 1 (iSr [iSm 0,iSm 2,.s (.zn 1 aS1 aS0),.s (.load aS0),.s (.bin .lss .int aS0 (.c (I (-999999999)))),.s (.mv aS0),iPf 0 (.mv aT0),iPf 1 (.mv aT2),iPf 2 (.zn 1 aS1 aS0),iPf 3 (.load aS0),iPf 4 (.bin .gtr .int aS0 mP),iQo 4 (.pick aS5 (.c (.bool true)) aS0)] (.cond aT4 (iSr [iQo 1 (.mv aC3)] .ret) .skip))) (.reg [iSm 2,.s (.bin .add .int aS0 aC1),iQm 2 0])))
def mr.b2:IR:=(.loop mr.b3)
def mr.g1 (X2:IR):IR:=(.block 0 X2)
def mr.b1:IR:=mr.g1 mr.b2
def mr.b8:IR:=(iSr [iQo 1 (.mv aC0)] .ret)
def mr.b0:IR:=(iSr [iQo 1 (.mv aC0)] (.seq (iSr [iQo 2 (.mv aC0)] mr.b1) mr.b8))
def mr.res:List RV:=[.t (.of 1)]
def mr:Fn:={ params:=[(.of 0)],res:=mr.res,body:=mr.b0,init:=in5 }
theorem mr.ok:fnA Tryz.prog Tryz.f102 [0,2,3,7,21]=some mr:=by kernel_rfl
abbrev F104.fr:=fr9
def F104.b0:IR:=(iSr [iQo 2 (.mv (.c .zf))] (iSr [iSm 0,iCa 105 [aS0],iQm 3 0] (.seq (iSr [iQo 5 (.mv aT1),iQo 6 (.len aT5),iQo 7 (.mv aC0)] (.block 0 (.loop (iSr [iQo 8 (.bin .lss .int aT7 aT6)] (.seq (.cond aT8 .skip (.exit 0)) (.seq (.block 1 (iSr [.s (.zn 1 aT5 aT7),.s (.load aS0),iQm 4 0] (.reg [iSm 3,iSm 4,iCa 96 [aC1],.s (.zn 4 aS2 aS1),.w .none none (.store 4 aS0 aS1)]))) (.reg [.s (.bin .add .int aT7 aC1),iQm 7 0]))))))) (iSr [iSm 3,iQm 2 0] .ret))))
def F104.res:List RV:=[.t (.of 2)]
def F104:Fn:={ params:=[(.of 0),(.of 1)],res:=F104.res,body:=F104.b0,init:=in9 }
theorem F104.ok:fnA Tryz.prog Tryz.f104 [0,1,4,5,7,10,11,12,13]=some F104:=by kernel_rfl
abbrev F105.fr:=fr7
def F105.b0:IR:=(iSr [iQo 1 (.mv (.c .zf))] (iSr [iSm 0,.w .push none (.fB 4 64 [(I 0),.zf,(I 0),.zf] aS0 aS0),iQm 2 0] (.seq (iSr [iSm 2,iQo 4 (.len aS0),iQo 5 (.mv aC0)] (.block 0 (.loop (iSr [iQo 6 (.bin .lss .int aT5 aT4)] (.seq (.cond aT6 .skip (.exit 0)) (.seq (.block 1 (iSr [iSm 5,iQm 3 0] (.reg [iSm 2,iSm 3,iCa 96 [aC0],.s (.zn 4 aS2 aS1),.w .none none (.store 4 aS0 aS1)]))) (.reg [.s (.bin .add .int aT5 aC1),iQm 5 0]))))))) (iSr [iSm 2,iQm 1 0] .ret))))
def F105.res:List RV:=[.t (.of 1)]
def F105:Fn:={ params:=[(.of 0)],res:=F105.res,body:=F105.b0,init:=in7 }
theorem F105.ok:fnA Tryz.prog Tryz.f105 [0,2,3,4,8,9,10]=some F105:=by kernel_rfl
abbrev F106.fr:=fr11
def F106.b0:IR:=(iSr [iWl 3 (.box aT1)] (iSr [iQo 6 (.mv aT2),iQo 7 (.len aT6),iQo 8 (.mv aC0)] (.block 0 (.loop (iSr [iQo 9 (.bin .lss .int aT8 aT7)] (.seq (.cond aT9 .skip (.exit 0)) (.seq (.block 1 (iSr [iSm 8,.s (.zn 4 aT6 aT8),.s (.zi 4 aS0),iWl 5 (.alloc [(I 0),.zf,(I 0),.zf]),iQm 4 2,.w .none none (.store 4 aT5 aS0)] (iSr [.s (.zi 4 aT5),iCa 110 [aS0],iQo 10 (.bin .neq .int aS0 aC0)] (.cond sW (.jh [] [(iSm 0,2,[]),(iSm 4,2,[]),(iSm 0,1,[]),(iSm 4,1,[]),(.s (.zn 4 aS1 aS0),1,[]),(.s (.zi 4 aS0),1,[]),(.s (.zi 4 aT3),0,[]),(.s (.zi 4 aT5),0,[]),(iCa 119 [aS1,aS0],0,[]),(iCa 192 [aS3,aS0],0,[]),(.s (.zn 4 aS9 aS8),0,[]),(.w .none none (.store 4 aS0 aS1),0,[])]) .skip)))) (.reg [.s (.bin .add .int aT8 aC1),iQm 8 0]))))))))
def F106.res:List RV:=[]
def F106:Fn:={ params:=[(.of 0),(.of 1),(.of 2)],res:=F106.res,body:=F106.b0,init:=in11 }
theorem F106.ok:fnA Tryz.prog Tryz.f106 [0,1,2,4,6,7,8,9,10,11,17]=some F106:=by kernel_rfl
abbrev F107.fr:=fr3
def F107.b0:IR:=(iSr [iWl 1 (.box aT0),iWl 2 (.alloc [(I 0),.zf,(I 0),.zf])] (.seq (.jh [] [(.s (.zk 0 aT1),0,[]),(.s (.zi 2 aS0),0,[]),(.s (.zk 2 aT1),1,[]),(.s (.zi 2 aS0),1,[]),(iCa 193 [aS2],0,[]),(.s (.build [(I 0),.zf,(I 0),.zf] [(0,2,aS0),(2,2,aS1)]),0,[]),(.w .none none (.store 4 aT2 aS0),0,[])]) .ret))
def F107.res:List RV:=[.cell (.of 2) (some 4)]
def F107:Fn:={ params:=[(.of 0)],res:=F107.res,body:=F107.b0,init:=in3 }
theorem F107.ok:fnA Tryz.prog Tryz.f107 [0,1,2]=some F107:=by kernel_rfl
abbrev F108.fr:=fr8
def F108.b0:IR:=(iSr [iQo 2 (.mv aC0)] (.seq (iSr [iSm 0,iQo 4 (.len aS0),iQo 5 (.mv aC0)] (.block 0 (.loop (iSr [iQo 6 (.bin .lss .int aT5 aT4)] (.seq (.cond aT6 .skip (.exit 0)) (.seq (.block 1 (iSr [iSm 5,iQm 3 0] (iSr [iSm 1,iSm 0,iSm 3,.s (.zn 4 aS1 aS0),.s (.zi 4 aS0),iWl 7 (.call aS4 [aS0])] (.cond aT7 (iSr [iSm 3,iQm 2 0] .ret) .skip)))) (.reg [.s (.bin .add .int aT5 aC1),iQm 5 0]))))))) (iSr [iQo 2 (.mv (.c (I (-1))))] .ret)))
def F108.res:List RV:=[.t (.of 2)]
def F108:Fn:={ params:=[(.of 0),(.of 1)],res:=F108.res,body:=F108.b0,init:=in8 }
theorem F108.ok:fnA Tryz.prog Tryz.f108 [0,1,4,5,7,8,9,16]=some F108:=by kernel_rfl
abbrev F109.fr:=fr3
def F109.b0:IR:=(iSr [iWl 1 (.box aT0),iQo 2 (.mv (.c (.bool false)))] (iSr [.s (.zi 4 aT1),iCa 110 [aS0],.s (.bin .neq .int aS0 aC0),iQm 2 0] .ret))
def F109.res:List RV:=[.t (.of 2)]
def F109:Fn:={ params:=[(.of 0)],res:=F109.res,body:=F109.b0,init:=in3 }
theorem F109.ok:fnA Tryz.prog Tryz.f109 [0,1,2]=some F109:=by kernel_rfl
abbrev F110.fr:=fr3
def F110.b0:IR:=(iSr [iWl 1 (.box aT0),iQo 2 (.mv aC0)] (iSr [.s (.zk 0 aT1),.s (.zi 2 aS0),iCa 194 [aS0],iQm 2 0] .ret))
def F110.res:List RV:=[.t (.of 2)]
def F110:Fn:={ params:=[(.of 0)],res:=F110.res,body:=F110.b0,init:=in3 }
theorem F110.ok:fnA Tryz.prog Tryz.f110 [0,1,2]=some F110:=by kernel_rfl
abbrev F111.fr:=fr10
def F111.b0:IR:=(iSr [iWl 2 (.box aT1)] (iSr [iQo 5 (.mv aT0),iQo 6 (.len aT5),iQo 7 (.mv aC0)] (.block 0 (.loop (iSr [iQo 8 (.bin .lss .int aT7 aT6)] (.seq (.cond aT8 .skip (.exit 0)) (.seq (.block 1 (iSr [iSm 7,.s (.zn 4 aT5 aT7),.s (.zi 4 aS0),iWl 4 (.alloc [(I 0),.zf,(I 0),.zf]),iQm 3 2,.w .none none (.store 4 aT4 aS0)] (iSr [.s (.zi 4 aT4),iCa 110 [aS0],iQo 9 (.bin .neq .int aS0 aC0)] (.cond aT9 (.reg [iSm 0,iSm 3,.s (.zi 4 aT4),.s (.zi 4 aT2),iCa 119 [aS1,aS0],.s (.zn 4 aS4 aS3),.w .none none (.store 4 aS0 aS1)]) .skip)))) (.reg [.s (.bin .add .int aT7 aC1),iQm 7 0]))))))))
def F111.res:List RV:=[]
def F111:Fn:={ params:=[(.of 0),(.of 1)],res:=F111.res,body:=F111.b0,init:=in10 }
theorem F111.ok:fnA Tryz.prog Tryz.f111 [0,1,3,4,5,6,7,8,9,15]=some F111:=by kernel_rfl
abbrev F112.fr:=fr3
def F112.b0:IR:=(iSr [iWl 1 (.box aT0),iWl 2 (.alloc [(I 0),.zf,(I 0),.zf])] (iSr [.s (.zk 2 aT1),.s (.zi 2 aS0),.s (.zk 0 aT1),.s (.zi 2 aS0),iCa 195 [aS2,aS0],.w .none none (.store 4 aT2 aS0)] .ret))
def F112.res:List RV:=[.cell (.of 2) (some 4)]
def F112:Fn:={ params:=[(.of 0)],res:=F112.res,body:=F112.b0,init:=in3 }
theorem F112.ok:fnA Tryz.prog Tryz.f112 [0,1,2]=some F112:=by kernel_rfl
end
end Go.Ev
